/-
  What is proved here: functions of the program as functions on data. No condition.
-/
import Derived.Test.YtkdippipiidcmaaGreatDoorML1
set_option linter.unusedSimpArgs false
set_option linter.unusedVariables false
set_option linter.unusedSectionVars false
namespace Go.Proofs.SYtkdippipiidcmaaGreatDoor
open Go Go.AL Go.Proofs
noncomputable section
/- slices.Reverse[[]int,int] -/
def st_slices_Reverse_int_1 (d : List G) : Option (Option Nat × List G) :=
  (bif (ltI (gi d 1).int (gi d 2).int) then (bif ((nnI (gi d 2).int) && (ltI (gi d 2).int (((gi d 0).rows.length : Nat) : Int))) then (bif (decide ((0 + ((gi d 2).int).toNat) < (gi d 0).rows.length)) then (bif ((nnI (gi d 1).int) && (ltI (gi d 1).int (((gi d 0).rows.length : Nat) : Int))) then (bif (decide ((0 + ((gi d 1).int).toNat) < (gi d 0).rows.length)) then (bif ((nnI (gi d 1).int) && (ltI (gi d 1).int (((gi d 0).rows.length : Nat) : Int))) then (bif (decide ((0 + ((gi d 1).int).toNat) < (gi d 0).rows.length)) then (bif ((nnI (gi d 2).int) && (ltI (gi d 2).int (((gi d 0).rows.length : Nat) : Int))) then (bif (decide ((0 + ((gi d 2).int).toNat) < ((gi d 0).rows.set (0 + ((gi d 1).int).toNat) (putG [.int .i64] ((gi d 0).rows.getD (0 + ((gi d 1).int).toNat) []) 0 [.i (gi ((gi d 0).rows.getD (0 + ((gi d 2).int).toNat) []) 0).int])).length)) then (bif (inI ((gi d 1).int + 1)) then (bif (inI ((gi d 2).int - 1)) then (bif ((Nat.beq (gi d 0).rows.length (((gi d 0).rows.set (0 + ((gi d 1).int).toNat) (putG [.int .i64] ((gi d 0).rows.getD (0 + ((gi d 1).int).toNat) []) 0 [.i (gi ((gi d 0).rows.getD (0 + ((gi d 2).int).toNat) []) 0).int])).set (0 + ((gi d 2).int).toNat) (putG [.int .i64] (((gi d 0).rows.set (0 + ((gi d 1).int).toNat) (putG [.int .i64] ((gi d 0).rows.getD (0 + ((gi d 1).int).toNat) []) 0 [.i (gi ((gi d 0).rows.getD (0 + ((gi d 2).int).toNat) []) 0).int])).getD (0 + ((gi d 2).int).toNat) []) 0 [.i (gi ((gi d 0).rows.getD (0 + ((gi d 1).int).toNat) []) 0).int])).length) && true) then some (none, [.l (((gi d 0).rows.set (0 + ((gi d 1).int).toNat) (putG [.int .i64] ((gi d 0).rows.getD (0 + ((gi d 1).int).toNat) []) 0 [.i (gi ((gi d 0).rows.getD (0 + ((gi d 2).int).toNat) []) 0).int])).set (0 + ((gi d 2).int).toNat) (putG [.int .i64] (((gi d 0).rows.set (0 + ((gi d 1).int).toNat) (putG [.int .i64] ((gi d 0).rows.getD (0 + ((gi d 1).int).toNat) []) 0 [.i (gi ((gi d 0).rows.getD (0 + ((gi d 2).int).toNat) []) 0).int])).getD (0 + ((gi d 2).int).toNat) []) 0 [.i (gi ((gi d 0).rows.getD (0 + ((gi d 1).int).toNat) []) 0).int])), .i ((gi d 1).int + 1), .i ((gi d 2).int - 1)]) else none) else none) else none) else none) else none) else none) else none) else none) else none) else none) else none) else some (some 0, [.l (gi d 0).rows]))
def l_slices_Reverse_int_1 : LSpec := ⟨1, [], ⟨28, [(0, .s (.vec 0 1)), (2, .s (.int .i64)), (3, .s (.int .i64))], [.vec [.int .i64] 0]⟩, [.fix 0], [⟨.exit 0, ⟨28, [], [.vec [.int .i64] 0]⟩, [.fix 0]⟩], st_slices_Reverse_int_1⟩
theorem r_slices_Reverse_int_1 : RoundOK P t7 noLoops 1 (loopAt Tryz.f138 1) l_slices_Reverse_int_1 := fun d => by kernel_rfl
def L_slices_Reverse_int_1 : LT := noLoops.add 1 l_slices_Reverse_int_1
theorem L_slices_Reverse_int_1_ok : LoopsOK P 1 L_slices_Reverse_int_1 (bodyOf Tryz.f138) := LoopsOK.add hm t7_ok (by kernel_rfl) (noLoops_ok _ _ _) r_slices_Reverse_int_1
def F_slices_Reverse_int (d : List G) : Option (List G) :=
  (bif (inI ((((gi d 0).rows.length : Nat) : Int) - 1)) then (loopB ((Nat.beq (gi d 0).rows.length (gi d 0).rows.length) && true) (LRun st_slices_Reverse_int_1 [.l (gi d 0).rows, .i 0, .i ((((gi d 0).rows.length : Nat) : Int) - 1)]) fun cg1 g1 => some [.l (gi g1 0).rows]) else none)
def s_slices_Reverse_int : FSpec := ⟨138, [.s (.vec 0 1)], [.vec [.int .i64] 0], [.slot 0], [], [.vec [.int .i64] 0], [.fix 0], [], F_slices_Reverse_int⟩
theorem b_slices_Reverse_int : BodyOK P t7 L_slices_Reverse_int_1 Tryz.f138 s_slices_Reverse_int := fun d => by kernel_rfl
theorem c_slices_Reverse_int : ∀ d r, F_slices_Reverse_int d = some r → ACallX P 138 (s_slices_Reverse_int.args0 d) (denH (s_slices_Reverse_int.H0 d)) (s_slices_Reverse_int.out r) (denH (s_slices_Reverse_int.H1 r)) := fun d r h => body_sound hm t7_ok (sp := s_slices_Reverse_int) Tryz.func138 (by kernel_rfl) L_slices_Reverse_int_1_ok b_slices_Reverse_int (by kernel_rfl) h
def t8 : Tab := t7.addW s_slices_Reverse_int
theorem t8_ok : TabOK P t8 := t7_ok.addW (by kernel_rfl) (by kernel_rfl) c_slices_Reverse_int

/- (*pileup/net.state).holders -/
def sr_net_state_holders_2 (r d : List G) : Option (List G) :=
  (bif (inI ((gi (mget [.int .i64] (gi d 6).rows [.i (gi (gi r 0).row 1).int] [.i 0]) 0).int + 1)) then (bif ((((Nat.beq (gi d 3).rows.length (gi d 3).rows.length) && true) && true) && true) then some [.l (gi d 0).rows, .l (gi d 1).rows, .l (gi d 2).rows, .l (gi d 3).rows, .l (gi d 4).rows, .i (((gi d 5).int.toNat : Nat) : Int), .l (mput [.int .i64] (gi d 6).rows [.i (gi (gi r 0).row 1).int] [.i ((gi (mget [.int .i64] (gi d 6).rows [.i (gi (gi r 0).row 1).int] [.i 0]) 0).int + 1)] (gi d 7).int.toNat), .i (((mclk [.int .i64] (gi d 6).rows [.i (gi (gi r 0).row 1).int] (gi d 7).int.toNat) : Nat) : Int), .i (((gi d 8).int.toNat : Nat) : Int)] else none) else none)
def ri_net_state_holders_2 (d : List G) (b : Nat) : List G := [.l (gi d 0).rows, .l (gi d 1).rows, .l (gi d 2).rows, .l (gi d 3).rows, .l (gi d 4).rows, .i (((gi d 5).int.toNat : Nat) : Int), .l (gi d 6).rows, .i (((gi d 7).int.toNat : Nat) : Int), .i (b : Int)]
def rb_net_state_holders_2 (d : List G) (b : Nat) : Bool := ((((Nat.beq (gi d 3).rows.length (gi d 3).rows.length) && true) && true) && true)
def rs_net_state_holders_2 : RSpec := ⟨⟨21, [(3, .s (.map 3)), (10, .s (.addr))], [.box [.vec 1 15, .list KContact, .list [.str], .list [.int .i64], .map 2], .vec KDeed 0, .map (.agg [.str, .int .i64]) (.one (.bool)), .map (.one (.int .i64)) (.one (.int .i64))]⟩, [.fix 0, .cell 0 0, .cell 0 4, .slot 3], [], (.agg [.str, .int .i64]), (.one (.bool)), 2, 0, 9, 10, 11, 12, 13, fun d => (gi d 8).int.toNat, ri_net_state_holders_2, rb_net_state_holders_2, sr_net_state_holders_2⟩
theorem w_net_state_holders_2 : RRound P t8 noLoops 3 rs_net_state_holders_2 (rOps2 (cutAt Tryz.f171 2)) (rBody (cutAt Tryz.f171 2)) := fun r d => by kernel_rfl
def tr_net_state_holders_2 (d : List G) : Option (Option Nat × List G) :=
  (bif ((((Nat.beq (gi d 3).rows.length (gi d 3).rows.length) && true) && true) && true) then some (some 0, [.l (gi d 0).rows, .l (gi d 1).rows, .l (gi d 2).rows, .l (gi d 3).rows, .l (gi d 4).rows, .i (((gi d 5).int.toNat : Nat) : Int), .l (gi d 6).rows, .i (((gi d 7).int.toNat : Nat) : Int)]) else none)
def l_net_state_holders_2r : LSpec := ⟨6, [], ⟨21, [(3, .s (.map 3)), (10, .s (.addr))], [.box [.vec 1 15, .list KContact, .list [.str], .list [.int .i64], .map 2], .vec KDeed 0, .map (.agg [.str, .int .i64]) (.one (.bool)), .map (.one (.int .i64)) (.one (.int .i64))]⟩, [], [⟨.ret, ⟨21, [(2, .s (.map 3))], [.box [.vec 1 15, .list KContact, .list [.str], .list [.int .i64], .map 2], .vec KDeed 0, .map (.agg [.str, .int .i64]) (.one (.bool)), .map (.one (.int .i64)) (.one (.int .i64))]⟩, [.fix 0, .cell 0 0, .cell 0 4, .slot 2]⟩], tr_net_state_holders_2⟩
theorem v_net_state_holders_2 : CutOK P t8 noLoops 3 (rRest (cutAt Tryz.f171 2)) l_net_state_holders_2r := fun d => by kernel_rfl
def tl_net_state_holders_2 (d : List G) : Option (Option Nat × List G) :=
  rangeR rs_net_state_holders_2 tr_net_state_holders_2 (gi d 4).rows ((gi d 5).int.toNat) d
def l_net_state_holders_2c : LSpec := ⟨2, [], ⟨21, [(0, .s (.ptr 0 0)), (3, .s (.map 3))], [.box [.vec 1 15, .list KContact, .list [.str], .list [.int .i64], .map 2], .vec KDeed 0, .map (.agg [.str, .int .i64]) (.one (.bool)), .map (.one (.int .i64)) (.one (.int .i64))]⟩, [.fix 0, .cell 0 0, .cell 0 4, .slot 3], [⟨.ret, ⟨21, [(2, .s (.map 3))], [.box [.vec 1 15, .list KContact, .list [.str], .list [.int .i64], .map 2], .vec KDeed 0, .map (.agg [.str, .int .i64]) (.one (.bool)), .map (.one (.int .i64)) (.one (.int .i64))]⟩, [.fix 0, .cell 0 0, .cell 0 4, .slot 2]⟩], tl_net_state_holders_2⟩
def L_net_state_holders_2c : LT := noLoops.addCut 3 l_net_state_holders_2c
theorem k_net_state_holders_2 : ∀ r d d', sr_net_state_holders_2 r d = some d' → (gi d' 4).rows = (gi d 4).rows ∧ (gi d' 5).int.toNat = (gi d 5).int.toNat := by
  intro r d d' h
  unfold sr_net_state_holders_2 at h
  simp only [Bool.cond_eq_ite] at h
  repeat' split at h
  all_goals first | (cases h; done) | (cases h; exact ⟨rfl, rfl⟩)
theorem L_net_state_holders_2c_ok : LoopsOK P 3 L_net_state_holders_2c (bodyOf Tryz.f171) := LoopsOK.addRangeK (q := l_net_state_holders_2c) (qr := l_net_state_holders_2r) (sp := rs_net_state_holders_2) (r0 := 2) (b0 := 0) (r1 := 3) (b1 := 1) (r2 := 4) (rows := fun d => (gi d 4).rows) (clock := fun d => (gi d 5).int.toNat) (pre := fun d => preOf P t8 (rOps0 (cutAt Tryz.f171 2)) (mkSt l_net_state_holders_2c.inv d)) (ri := fun d => (gi d 4).rows) (ci := fun d => (gi d 5).int.toNat) hm t8_ok (fun d => by kernel_rfl) k_net_state_holders_2 (by kernel_rfl) (by kernel_rfl) (noLoops_ok _ _ _) (by kernel_rfl) (by kernel_rfl) w_net_state_holders_2 (fun d => by kernel_rfl) (fun d => by kernel_rfl) (fun d => by kernel_rfl) (fun d => by kernel_rfl) (fun d => by kernel_rfl) (fun d => by kernel_rfl) (fun d b => by kernel_rfl) (fun d b => rfl) (fun d b => ⟨rfl, rfl⟩) rfl rfl v_net_state_holders_2 (fun d => rfl)
def F_net_state_holders (d : List G) : Option (List G) :=
  (loopB ((((Nat.beq (gi d 3).rows.length (gi d 3).rows.length) && true) && true) && true) (cutR (tl_net_state_holders_2 [.l (gi d 0).rows, .l (gi d 1).rows, .l (gi d 2).rows, .l (gi d 3).rows, .l (gi d 4).rows, .i (((gi d 5).int.toNat : Nat) : Int), .l [], .i 0])) fun cg1 g1 => (bif ((((Nat.beq (gi g1 3).rows.length (gi g1 3).rows.length) && true) && true) && true) then some [.l (gi g1 0).rows, .l (gi g1 1).rows, .l (gi g1 2).rows, .l (gi g1 3).rows, .l (gi g1 4).rows, .i (((gi g1 5).int.toNat : Nat) : Int), .l (gi g1 6).rows, .i (((gi g1 7).int.toNat : Nat) : Int)] else none))
def s_net_state_holders : FSpec := ⟨171, [.s (.ptr 0 0)], [.box [.vec 1 15, .list KContact, .list [.str], .list [.int .i64], .map 2], .vec KDeed 0, .map (.agg [.str, .int .i64]) (.one (.bool))], [.slot 0, .cell 0 0, .cell 0 4], [.s (.map 3)], [.box [.vec 1 15, .list KContact, .list [.str], .list [.int .i64], .map 2], .vec KDeed 0, .map (.agg [.str, .int .i64]) (.one (.bool)), .map (.one (.int .i64)) (.one (.int .i64))], [.fix 0, .fix 1, .fix 2, .slot 0], [], F_net_state_holders⟩
theorem b_net_state_holders : BodyOK P t8 L_net_state_holders_2c Tryz.f171 s_net_state_holders := fun d => by kernel_rfl
theorem c_net_state_holders : ∀ d r, F_net_state_holders d = some r → ACallX P 171 (s_net_state_holders.args0 d) (denH (s_net_state_holders.H0 d)) (s_net_state_holders.out r) (denH (s_net_state_holders.H1 r)) := fun d r h => body_sound hm t8_ok (sp := s_net_state_holders) Tryz.func171 (by kernel_rfl) L_net_state_holders_2c_ok b_net_state_holders (by kernel_rfl) h
def t9 : Tab := t8.addW s_net_state_holders
theorem t9_ok : TabOK P t9 := t8_ok.addW (by kernel_rfl) (by kernel_rfl) c_net_state_holders

/- pileup/pilelaw2.netted -/
theorem bw_pilelaw2_netted : BwFact P ⟨201, 26, 35, 15, 15, true⟩ := bwFact_of Tryz.func201 (by kernel_rfl) rfl rfl rfl ⟨⟨_, _, _, _, _, _, rfl, ⟨rfl, rfl, rfl⟩, ⟨rfl, rfl, rfl⟩, ⟨rfl, rfl, rfl⟩, ⟨rfl, rfl, rfl⟩⟩, ⟨_, _, _, _, rfl, ⟨rfl, rfl, rfl⟩, ⟨rfl, rfl, rfl⟩⟩, ⟨_, _, _, _, _, rfl, ⟨rfl, rfl, rfl⟩, ⟨rfl, rfl, rfl⟩, ⟨rfl, rfl, rfl⟩⟩, ⟨_, _, _, _, _, _, _, _, _, _, rfl, ⟨rfl, rfl, rfl⟩, ⟨rfl, rfl, rfl⟩, ⟨rfl, rfl, rfl⟩, ⟨rfl, rfl, rfl⟩, ⟨rfl, rfl, rfl⟩, ⟨rfl, rfl, rfl⟩, ⟨rfl, rfl, rfl⟩, ⟨rfl, rfl, rfl⟩⟩⟩ (by kernel_rfl)
def tl1_net_state_holders_2 (d : List G) : Option (Option Nat × List G) :=
  range1 rs_net_state_holders_2 tr_net_state_holders_2 (gi d 4).rows ((gi d 5).int.toNat) d
theorem ind_net_state_holders_2 (d x : List G) (b : Nat) : (foldR rs_net_state_holders_2.st rs_net_state_holders_2.adr [x] (rs_net_state_holders_2.init d b)).bind tr_net_state_holders_2 = (foldR rs_net_state_holders_2.st rs_net_state_holders_2.adr [x] (rs_net_state_holders_2.init d 0)).bind tr_net_state_holders_2 := by
  simp only [foldR_one, rs_net_state_holders_2]
  unfold sr_net_state_holders_2 ri_net_state_holders_2 tr_net_state_holders_2
  dsimp +instances only [giC0, giCs]
  simp only [bind_cond, Option.bind_some, Option.bind_none]
  dsimp +instances only [giC0, giCs]
  simp only [intC, Int.toNat_natCast, beqC, cond_true]
def F1_net_state_holders (d : List G) : Option (List G) :=
  (loopB ((((Nat.beq (gi d 3).rows.length (gi d 3).rows.length) && true) && true) && true) (cutR (tl1_net_state_holders_2 [.l (gi d 0).rows, .l (gi d 1).rows, .l (gi d 2).rows, .l (gi d 3).rows, .l (gi d 4).rows, .i (((gi d 5).int.toNat : Nat) : Int), .l [], .i 0])) fun cg1 g1 => (bif ((((Nat.beq (gi g1 3).rows.length (gi g1 3).rows.length) && true) && true) && true) then some [.l (gi g1 0).rows, .l (gi g1 1).rows, .l (gi g1 2).rows, .l (gi g1 3).rows, .l (gi g1 4).rows, .i (((gi g1 5).int.toNat : Nat) : Int), .l (gi g1 6).rows, .i (((gi g1 7).int.toNat : Nat) : Int)] else none))
theorem F1_le {d r : List G} (h : F1_net_state_holders d = some r) : F_net_state_holders d = some r :=
  loopB_le (fun v hv => range1_le (fun b => rfl) (ind_net_state_holders_2 _) hv) h
def s1_net_state_holders : FSpec := { s_net_state_holders with F := F1_net_state_holders }
def u_pilelaw2_netted : Tab := t9.addW s1_net_state_holders
theorem u_pilelaw2_netted_ok : TabOK P u_pilelaw2_netted := t9_ok.addW (by kernel_rfl) (by kernel_rfl) fun d r h => c_net_state_holders d r (F1_le h)
def u0_pilelaw2_netted : Tab := u_pilelaw2_netted.inline P 140 Tryz.f140 []
theorem u0_pilelaw2_netted_ok : TabOK P u0_pilelaw2_netted := u_pilelaw2_netted_ok.inline hm Tryz.func140 (by kernel_rfl) []
def u1_pilelaw2_netted : Tab := u0_pilelaw2_netted.inline P 108 Tryz.f108 []
theorem u1_pilelaw2_netted_ok : TabOK P u1_pilelaw2_netted := u0_pilelaw2_netted_ok.inline hm Tryz.func108 (by kernel_rfl) []
def u2_pilelaw2_netted : Tab := u1_pilelaw2_netted.inline P 139 Tryz.f139 []
theorem u2_pilelaw2_netted_ok : TabOK P u2_pilelaw2_netted := u1_pilelaw2_netted_ok.inline hm Tryz.func139 (by kernel_rfl) []
def u3_pilelaw2_netted : Tab := u2_pilelaw2_netted.inline P 141 Tryz.f141 []
theorem u3_pilelaw2_netted_ok : TabOK P u3_pilelaw2_netted := u2_pilelaw2_netted_ok.inline hm Tryz.func141 (by kernel_rfl) []
def u4_pilelaw2_netted : Tab := u3_pilelaw2_netted.inline P 142 Tryz.f142 []
theorem u4_pilelaw2_netted_ok : TabOK P u4_pilelaw2_netted := u3_pilelaw2_netted_ok.inline hm Tryz.func142 (by kernel_rfl) []
def u5_pilelaw2_netted : Tab := u4_pilelaw2_netted.inline P 87 Tryz.f87 []
theorem u5_pilelaw2_netted_ok : TabOK P u5_pilelaw2_netted := u4_pilelaw2_netted_ok.inline hm Tryz.func87 (by kernel_rfl) []
def u6_pilelaw2_netted : Tab := u5_pilelaw2_netted.inline P 23 Tryz.f23 []
theorem u6_pilelaw2_netted_ok : TabOK P u6_pilelaw2_netted := u5_pilelaw2_netted_ok.inline hm Tryz.func23 (by kernel_rfl) []
def u7_pilelaw2_netted : Tab := u6_pilelaw2_netted.inline P 81 Tryz.f81 []
theorem u7_pilelaw2_netted_ok : TabOK P u7_pilelaw2_netted := u6_pilelaw2_netted_ok.inline hm Tryz.func81 (by kernel_rfl) []
def u8_pilelaw2_netted : Tab := u7_pilelaw2_netted.inlineW P 137 Tryz.f137
theorem u8_pilelaw2_netted_ok : TabOK P u8_pilelaw2_netted := u7_pilelaw2_netted_ok.inlineW hm Tryz.func137 (by kernel_rfl) (by kernel_rfl)
def u9_pilelaw2_netted : Tab := u8_pilelaw2_netted.inlineB P ⟨201, 26, 35, 15, 15, true⟩ 3 82 Tryz.f82 [some [.int .i64]]
theorem u9_pilelaw2_netted_ok : TabOK P u9_pilelaw2_netted := u8_pilelaw2_netted_ok.inlineB hm bw_pilelaw2_netted Tryz.func82 (by kernel_rfl) (by kernel_rfl) [some [.int .i64]]
def u10_pilelaw2_netted : Tab := u9_pilelaw2_netted.inline P 199 Tryz.f199 []
theorem u10_pilelaw2_netted_ok : TabOK P u10_pilelaw2_netted := u9_pilelaw2_netted_ok.inline hm Tryz.func199 (by kernel_rfl) []
def u11_pilelaw2_netted : Tab := u10_pilelaw2_netted.inline P 134 Tryz.f134 []
theorem u11_pilelaw2_netted_ok : TabOK P u11_pilelaw2_netted := u10_pilelaw2_netted_ok.inline hm Tryz.func134 (by kernel_rfl) []
def u12_pilelaw2_netted : Tab := u11_pilelaw2_netted.inlineW P 281 Tryz.f281
theorem u12_pilelaw2_netted_ok : TabOK P u12_pilelaw2_netted := u11_pilelaw2_netted_ok.inlineW hm Tryz.func281 (by kernel_rfl) (by kernel_rfl)
def u13_pilelaw2_netted : Tab := u12_pilelaw2_netted.inlineW P 221 Tryz.f221
theorem u13_pilelaw2_netted_ok : TabOK P u13_pilelaw2_netted := u12_pilelaw2_netted_ok.inlineW hm Tryz.func221 (by kernel_rfl) (by kernel_rfl)
def u14_pilelaw2_netted : Tab := u13_pilelaw2_netted.inlineW P 162 Tryz.f162
theorem u14_pilelaw2_netted_ok : TabOK P u14_pilelaw2_netted := u13_pilelaw2_netted_ok.inlineW hm Tryz.func162 (by kernel_rfl) (by kernel_rfl)
def u15_pilelaw2_netted : Tab := u14_pilelaw2_netted.inline P 161 Tryz.f161 []
theorem u15_pilelaw2_netted_ok : TabOK P u15_pilelaw2_netted := u14_pilelaw2_netted_ok.inline hm Tryz.func161 (by kernel_rfl) []
def u16_pilelaw2_netted : Tab := u15_pilelaw2_netted.inlineW P 109 Tryz.f109
theorem u16_pilelaw2_netted_ok : TabOK P u16_pilelaw2_netted := u15_pilelaw2_netted_ok.inlineW hm Tryz.func109 (by kernel_rfl) (by kernel_rfl)
def u17_pilelaw2_netted : Tab := u16_pilelaw2_netted.inlineW P 89 Tryz.f89
theorem u17_pilelaw2_netted_ok : TabOK P u17_pilelaw2_netted := u16_pilelaw2_netted_ok.inlineW hm Tryz.func89 (by kernel_rfl) (by kernel_rfl)
def u18_pilelaw2_netted : Tab := u17_pilelaw2_netted.inlineW P 170 Tryz.f170
theorem u18_pilelaw2_netted_ok : TabOK P u18_pilelaw2_netted := u17_pilelaw2_netted_ok.inlineW hm Tryz.func170 (by kernel_rfl) (by kernel_rfl)
def u19_pilelaw2_netted : Tab := u18_pilelaw2_netted.inlineW P 119 Tryz.f119
theorem u19_pilelaw2_netted_ok : TabOK P u19_pilelaw2_netted := u18_pilelaw2_netted_ok.inlineW hm Tryz.func119 (by kernel_rfl) (by kernel_rfl)
def u20_pilelaw2_netted : Tab := u19_pilelaw2_netted.inline P 59 Tryz.f59 []
theorem u20_pilelaw2_netted_ok : TabOK P u20_pilelaw2_netted := u19_pilelaw2_netted_ok.inline hm Tryz.func59 (by kernel_rfl) []
theorem q_pilelaw2_netted : PCall P 28 [] (.lit (.bool true)) := fn_pure (L := noLoops) hm u20_pilelaw2_netted_ok [] (fun _ _ => noLoops_ok _ _ _) Tryz.func28 rfl (by kernel_rfl) (by kernel_rfl)
def F_pilelaw2_netted (_ : List G) : Option (List G) := some [.t true]
def s_pilelaw2_netted : FSpec := ⟨28, [], [], [], [.s (.bool)], [], [], [], F_pilelaw2_netted⟩
theorem c_pilelaw2_netted : ∀ d r, F_pilelaw2_netted d = some r → ACallX P 28 (s_pilelaw2_netted.args0 d) (denH (s_pilelaw2_netted.H0 d)) (s_pilelaw2_netted.out r) (denH (s_pilelaw2_netted.H1 r)) := fun d r h => by
  cases (show some [G.t true] = some r from h)
  exact q_pilelaw2_netted []
def t10 : Tab := t9.addP s_pilelaw2_netted
theorem t10_ok : TabOK P t10 := t9_ok.addP (by kernel_rfl) (by kernel_rfl) c_pilelaw2_netted


/- pileup/pilemake.Below -/
def F_pilemake_Below (d : List G) : Option (List G) :=
  (bif (ltI (gi d 1).int 1) then some [.i 0] else (bif (!((gi d 1).int == 0)) then (bif (ltI (Int.tmod (gi d 0).int (gi d 1).int) 0) then (bif (inI ((Int.tmod (gi d 0).int (gi d 1).int) + (gi d 1).int)) then some [.i ((Int.tmod (gi d 0).int (gi d 1).int) + (gi d 1).int)] else none) else some [.i (Int.tmod (gi d 0).int (gi d 1).int)]) else none))
def s_pilemake_Below : FSpec := ⟨73, [.s (.int .i64), .s (.int .i64)], [], [], [.s (.int .i64)], [], [], [], F_pilemake_Below⟩
theorem b_pilemake_Below : BodyOK P t10 noLoops Tryz.f73 s_pilemake_Below := fun d => by kernel_rfl
theorem c_pilemake_Below : ∀ d r, F_pilemake_Below d = some r → ACallX P 73 (s_pilemake_Below.args0 d) (denH (s_pilemake_Below.H0 d)) (s_pilemake_Below.out r) (denH (s_pilemake_Below.H1 r)) := fun d r h => body_sound hm t10_ok (sp := s_pilemake_Below) Tryz.func73 (by kernel_rfl) (noLoops_ok _ _ _) b_pilemake_Below (by kernel_rfl) h
def t11 : Tab := t10.addP s_pilemake_Below
theorem t11_ok : TabOK P t11 := t10_ok.addP (by kernel_rfl) (by kernel_rfl) c_pilemake_Below

/- (*pileup/pilemake.Stream).Next -/
def F_pilemake_Stream_Next (d : List G) : Option (List G) :=
  (bif (inI ((gi d 1).int + 1)) then (bif ((((gi d 0).rows.length : Nat) : Int) == 0) then (bif (inI (((gi d 1).int + 1) * 7919)) then (callF (F_pilemake_Below [.i (((gi d 1).int + 1) * 7919), .i (gi d 2).int]) fun g1 => some [.l (gi d 0).rows, .i ((gi d 1).int + 1), .i (gi g1 0).int]) else none) else (bif (inI (((gi d 1).int + 1) - 1)) then (bif (!((((gi d 0).rows.length : Nat) : Int) == 0)) then (bif (inI (((gi d 1).int + 1) - 1)) then (bif ((!((((gi d 0).rows.length : Nat) : Int) == 0)) && (inI (Int.tdiv (((gi d 1).int + 1) - 1) (((gi d 0).rows.length : Nat) : Int)))) then (bif ((nnI (Int.tmod (((gi d 1).int + 1) - 1) (((gi d 0).rows.length : Nat) : Int))) && (ltI (Int.tmod (((gi d 1).int + 1) - 1) (((gi d 0).rows.length : Nat) : Int)) (((gi d 0).rows.length : Nat) : Int))) then (callF (F_pilemake_Below [.i (gi ((gi d 0).rows.getD ((Int.tmod (((gi d 1).int + 1) - 1) (((gi d 0).rows.length : Nat) : Int)).toNat) []) 0).int, .i 1073741824]) fun g2 => (bif (inI (7919 + (Int.tmod (((gi d 1).int + 1) - 1) (((gi d 0).rows.length : Nat) : Int)))) then (bif (inI ((Int.tdiv (((gi d 1).int + 1) - 1) (((gi d 0).rows.length : Nat) : Int)) * (7919 + (Int.tmod (((gi d 1).int + 1) - 1) (((gi d 0).rows.length : Nat) : Int))))) then (bif (inI ((gi g2 0).int + ((Int.tdiv (((gi d 1).int + 1) - 1) (((gi d 0).rows.length : Nat) : Int)) * (7919 + (Int.tmod (((gi d 1).int + 1) - 1) (((gi d 0).rows.length : Nat) : Int)))))) then (callF (F_pilemake_Below [.i ((gi g2 0).int + ((Int.tdiv (((gi d 1).int + 1) - 1) (((gi d 0).rows.length : Nat) : Int)) * (7919 + (Int.tmod (((gi d 1).int + 1) - 1) (((gi d 0).rows.length : Nat) : Int))))), .i (gi d 2).int]) fun g3 => some [.l (gi d 0).rows, .i ((gi d 1).int + 1), .i (gi g3 0).int]) else none) else none) else none)) else none) else none) else none) else none) else none)) else none)
def s_pilemake_Stream_Next : FSpec := ⟨15, [.s (.ptr 0 0), .s (.int .i64)], [.box [.list [.int .i64], .int .i64]], [.slot 0], [.s (.int .i64)], [.box [.list [.int .i64], .int .i64]], [.fix 0], [], F_pilemake_Stream_Next⟩
theorem b_pilemake_Stream_Next : BodyOK P t11 noLoops Tryz.f15 s_pilemake_Stream_Next := fun d => by kernel_rfl
theorem c_pilemake_Stream_Next : ∀ d r, F_pilemake_Stream_Next d = some r → ACallX P 15 (s_pilemake_Stream_Next.args0 d) (denH (s_pilemake_Stream_Next.H0 d)) (s_pilemake_Stream_Next.out r) (denH (s_pilemake_Stream_Next.H1 r)) := fun d r h => body_sound hm t11_ok (sp := s_pilemake_Stream_Next) Tryz.func15 (by kernel_rfl) (noLoops_ok _ _ _) b_pilemake_Stream_Next (by kernel_rfl) h
def t12 : Tab := t11.addW s_pilemake_Stream_Next
theorem t12_ok : TabOK P t12 := t11_ok.addW (by kernel_rfl) (by kernel_rfl) c_pilemake_Stream_Next

/- (*pileup/pilemake.Stream).Range -/
def F_pilemake_Stream_Range (d : List G) : Option (List G) :=
  (bif (ltI (gi d 3).int (gi d 2).int) then some [.l (gi d 0).rows, .i (gi d 1).int, .i (gi d 2).int] else (bif (inI ((gi d 3).int - (gi d 2).int)) then (bif (inI (((gi d 3).int - (gi d 2).int) + 1)) then (callF (F_pilemake_Stream_Next [.l (gi d 0).rows, .i (gi d 1).int, .i (((gi d 3).int - (gi d 2).int) + 1)]) fun g1 => (bif (inI ((gi d 2).int + (gi g1 2).int)) then some [.l (gi g1 0).rows, .i (gi g1 1).int, .i ((gi d 2).int + (gi g1 2).int)] else none)) else none) else none))
def s_pilemake_Stream_Range : FSpec := ⟨11, [.s (.ptr 0 0), .s (.int .i64), .s (.int .i64)], [.box [.list [.int .i64], .int .i64]], [.slot 0], [.s (.int .i64)], [.box [.list [.int .i64], .int .i64]], [.fix 0], [], F_pilemake_Stream_Range⟩
theorem b_pilemake_Stream_Range : BodyOK P t12 noLoops Tryz.f11 s_pilemake_Stream_Range := fun d => by kernel_rfl
theorem c_pilemake_Stream_Range : ∀ d r, F_pilemake_Stream_Range d = some r → ACallX P 11 (s_pilemake_Stream_Range.args0 d) (denH (s_pilemake_Stream_Range.H0 d)) (s_pilemake_Stream_Range.out r) (denH (s_pilemake_Stream_Range.H1 r)) := fun d r h => body_sound hm t12_ok (sp := s_pilemake_Stream_Range) Tryz.func11 (by kernel_rfl) (noLoops_ok _ _ _) b_pilemake_Stream_Range (by kernel_rfl) h
def t13 : Tab := t12.addW s_pilemake_Stream_Range
theorem t13_ok : TabOK P t13 := t12_ok.addW (by kernel_rfl) (by kernel_rfl) c_pilemake_Stream_Range

/- (*pileup/pilemake.Stream).Pick -/
def F_pilemake_Stream_Pick (d : List G) : Option (List G) :=
  (callF (F_pilemake_Stream_Next [.l (gi d 0).rows, .i (gi d 1).int, .i (((gi d 2).rows.length : Nat) : Int)]) fun g1 => (bif ((nnI (gi g1 2).int) && (ltI (gi g1 2).int (((gi d 2).rows.length : Nat) : Int))) then some [.l (gi g1 0).rows, .i (gi g1 1).int, .i (gi ((gi d 2).rows.getD (((gi g1 2).int).toNat) []) 0).int] else none))
def s_pilemake_Stream_Pick : FSpec := ⟨53, [.s (.ptr 0 0), .s (.list [.int .i64])], [.box [.list [.int .i64], .int .i64]], [.slot 0], [.s (.int .i64)], [.box [.list [.int .i64], .int .i64]], [.fix 0], [], F_pilemake_Stream_Pick⟩
theorem b_pilemake_Stream_Pick : BodyOK P t13 noLoops Tryz.f53 s_pilemake_Stream_Pick := fun d => by kernel_rfl
theorem c_pilemake_Stream_Pick : ∀ d r, F_pilemake_Stream_Pick d = some r → ACallX P 53 (s_pilemake_Stream_Pick.args0 d) (denH (s_pilemake_Stream_Pick.H0 d)) (s_pilemake_Stream_Pick.out r) (denH (s_pilemake_Stream_Pick.H1 r)) := fun d r h => body_sound hm t13_ok (sp := s_pilemake_Stream_Pick) Tryz.func53 (by kernel_rfl) (noLoops_ok _ _ _) b_pilemake_Stream_Pick (by kernel_rfl) h
def t14 : Tab := t13.addW s_pilemake_Stream_Pick
theorem t14_ok : TabOK P t14 := t13_ok.addW (by kernel_rfl) (by kernel_rfl) c_pilemake_Stream_Pick

/- (*pileup/pilemake.Stream).Some -/
def F_pilemake_Stream_Some (d : List G) : Option (List G) :=
  (callF (F_pilemake_Stream_Next [.l (gi d 0).rows, .i (gi d 1).int, .i (((gi d 2).rows.length : Nat) : Int)]) fun g1 => (bif ((nnI (gi g1 2).int) && (ltI (gi g1 2).int (((gi d 2).rows.length : Nat) : Int))) then some [.l (gi g1 0).rows, .i (gi g1 1).int, .s (gi ((gi d 2).rows.getD (((gi g1 2).int).toNat) []) 0).str] else none))
def s_pilemake_Stream_Some : FSpec := ⟨69, [.s (.ptr 0 0), .s (.list [.str])], [.box [.list [.int .i64], .int .i64]], [.slot 0], [.s (.str)], [.box [.list [.int .i64], .int .i64]], [.fix 0], [], F_pilemake_Stream_Some⟩
theorem b_pilemake_Stream_Some : BodyOK P t14 noLoops Tryz.f69 s_pilemake_Stream_Some := fun d => by kernel_rfl
theorem c_pilemake_Stream_Some : ∀ d r, F_pilemake_Stream_Some d = some r → ACallX P 69 (s_pilemake_Stream_Some.args0 d) (denH (s_pilemake_Stream_Some.H0 d)) (s_pilemake_Stream_Some.out r) (denH (s_pilemake_Stream_Some.H1 r)) := fun d r h => body_sound hm t14_ok (sp := s_pilemake_Stream_Some) Tryz.func69 (by kernel_rfl) (noLoops_ok _ _ _) b_pilemake_Stream_Some (by kernel_rfl) h
def t15 : Tab := t14.addW s_pilemake_Stream_Some
theorem t15_ok : TabOK P t15 := t14_ok.addW (by kernel_rfl) (by kernel_rfl) c_pilemake_Stream_Some

/- (*pileup/pilemake.Stream).Flip -/
def F_pilemake_Stream_Flip (d : List G) : Option (List G) :=
  (callF (F_pilemake_Stream_Next [.l (gi d 0).rows, .i (gi d 1).int, .i (gi d 2).int]) fun g1 => some [.l (gi g1 0).rows, .i (gi g1 1).int, .t ((gi g1 2).int == 0)])
def s_pilemake_Stream_Flip : FSpec := ⟨13, [.s (.ptr 0 0), .s (.int .i64)], [.box [.list [.int .i64], .int .i64]], [.slot 0], [.s (.bool)], [.box [.list [.int .i64], .int .i64]], [.fix 0], [], F_pilemake_Stream_Flip⟩
theorem b_pilemake_Stream_Flip : BodyOK P t15 noLoops Tryz.f13 s_pilemake_Stream_Flip := fun d => by kernel_rfl
theorem c_pilemake_Stream_Flip : ∀ d r, F_pilemake_Stream_Flip d = some r → ACallX P 13 (s_pilemake_Stream_Flip.args0 d) (denH (s_pilemake_Stream_Flip.H0 d)) (s_pilemake_Stream_Flip.out r) (denH (s_pilemake_Stream_Flip.H1 r)) := fun d r h => body_sound hm t15_ok (sp := s_pilemake_Stream_Flip) Tryz.func13 (by kernel_rfl) (noLoops_ok _ _ _) b_pilemake_Stream_Flip (by kernel_rfl) h
def t16 : Tab := t15.addW s_pilemake_Stream_Flip
theorem t16_ok : TabOK P t16 := t15_ok.addW (by kernel_rfl) (by kernel_rfl) c_pilemake_Stream_Flip

/- (*pileup/pilemake.Stream).ACall -/
def F_pilemake_Stream_ACall (d : List G) : Option (List G) :=
  (callF (F_pilemake_Stream_Flip [.l (gi d 0).rows, .i (gi d 1).int, .i 60]) fun g1 => (bif (gi g1 2).bool then (callF (F_pilemake_Stream_Some [.l (gi g1 0).rows, .i (gi g1 1).int, .l [[.s (⟨#[]⟩ : ByteArray)], [.s (⟨#[107, 49]⟩ : ByteArray)], [.s (⟨#[75, 49, 65, 66]⟩ : ByteArray)], [.s (⟨#[107, 49, 97, 98, 47]⟩ : ByteArray)], [.s (⟨#[49, 97]⟩ : ByteArray)], [.s (⟨#[107, 49, 97, 98, 47, 109, 109, 47, 112]⟩ : ByteArray)]]]) fun g2 => some [.l (gi g2 0).rows, .i (gi g2 1).int, .s (gi g2 2).str]) else (callF (F_pilemake_Stream_Some [.l (gi g1 0).rows, .i (gi g1 1).int, .l [[.s (⟨#[107, 49, 97, 98]⟩ : ByteArray)], [.s (⟨#[107, 49, 97, 97]⟩ : ByteArray)], [.s (⟨#[107, 49, 97, 98, 47, 52]⟩ : ByteArray)], [.s (⟨#[111, 104, 50, 97, 98, 99]⟩ : ByteArray)], [.s (⟨#[111, 104, 50, 97, 98, 100]⟩ : ByteArray)], [.s (⟨#[119, 49, 97, 119]⟩ : ByteArray)], [.s (⟨#[110, 49, 109, 109]⟩ : ByteArray)], [.s (⟨#[103, 51, 120, 121, 122, 47, 112]⟩ : ByteArray)]]]) fun g3 => some [.l (gi g3 0).rows, .i (gi g3 1).int, .s (gi g3 2).str])))
def s_pilemake_Stream_ACall : FSpec := ⟨88, [.s (.ptr 0 0)], [.box [.list [.int .i64], .int .i64]], [.slot 0], [.s (.str)], [.box [.list [.int .i64], .int .i64]], [.fix 0], [], F_pilemake_Stream_ACall⟩
theorem b_pilemake_Stream_ACall : BodyOK P t16 noLoops Tryz.f88 s_pilemake_Stream_ACall := fun d => by kernel_rfl
theorem c_pilemake_Stream_ACall : ∀ d r, F_pilemake_Stream_ACall d = some r → ACallX P 88 (s_pilemake_Stream_ACall.args0 d) (denH (s_pilemake_Stream_ACall.H0 d)) (s_pilemake_Stream_ACall.out r) (denH (s_pilemake_Stream_ACall.H1 r)) := fun d r h => body_sound hm t16_ok (sp := s_pilemake_Stream_ACall) Tryz.func88 (by kernel_rfl) (noLoops_ok _ _ _) b_pilemake_Stream_ACall (by kernel_rfl) h
def t17 : Tab := t16.addW s_pilemake_Stream_ACall
theorem t17_ok : TabOK P t17 := t16_ok.addW (by kernel_rfl) (by kernel_rfl) c_pilemake_Stream_ACall

/- (*pileup/pilemake.Stream).Odd -/
def F_pilemake_Stream_Odd (d : List G) : Option (List G) :=
  (callF (F_pilemake_Stream_Flip [.l (gi d 0).rows, .i (gi d 1).int, .i 12]) fun g1 => (bif (gi g1 2).bool then (bif (inI ((gi d 2).int - 1)) then (bif (inI ((gi d 3).int + 1)) then (callF (F_pilemake_Stream_Pick [.l (gi g1 0).rows, .i (gi g1 1).int, .l [[.i ((gi d 2).int - 1)], [.i ((gi d 3).int + 1)], [.i (gi d 2).int], [.i (gi d 3).int], [.i (-1099511627776)], [.i 1099511627776]]]) fun g2 => some [.l (gi g2 0).rows, .i (gi g2 1).int, .i (gi g2 2).int]) else none) else none) else (callF (F_pilemake_Stream_Range [.l (gi g1 0).rows, .i (gi g1 1).int, .i (gi d 2).int, .i (gi d 3).int]) fun g3 => some [.l (gi g3 0).rows, .i (gi g3 1).int, .i (gi g3 2).int])))
def s_pilemake_Stream_Odd : FSpec := ⟨70, [.s (.ptr 0 0), .s (.int .i64), .s (.int .i64)], [.box [.list [.int .i64], .int .i64]], [.slot 0], [.s (.int .i64)], [.box [.list [.int .i64], .int .i64]], [.fix 0], [], F_pilemake_Stream_Odd⟩
theorem b_pilemake_Stream_Odd : BodyOK P t17 noLoops Tryz.f70 s_pilemake_Stream_Odd := fun d => by kernel_rfl
theorem c_pilemake_Stream_Odd : ∀ d r, F_pilemake_Stream_Odd d = some r → ACallX P 70 (s_pilemake_Stream_Odd.args0 d) (denH (s_pilemake_Stream_Odd.H0 d)) (s_pilemake_Stream_Odd.out r) (denH (s_pilemake_Stream_Odd.H1 r)) := fun d r h => body_sound hm t17_ok (sp := s_pilemake_Stream_Odd) Tryz.func70 (by kernel_rfl) (noLoops_ok _ _ _) b_pilemake_Stream_Odd (by kernel_rfl) h
def t18 : Tab := t17.addW s_pilemake_Stream_Odd
theorem t18_ok : TabOK P t18 := t17_ok.addW (by kernel_rfl) (by kernel_rfl) c_pilemake_Stream_Odd

/- (*pileup/pilemake.Stream).SomeContact -/
def F_pilemake_Stream_SomeContact (d : List G) : Option (List G) :=
  (callF (F_pilemake_Stream_Pick [.l (gi d 0).rows, .i (gi d 1).int, .l [[.i 1], [.i 1], [.i 2], [.i 3]]]) fun g1 => (callF (F_pilemake_Stream_Some [.l (gi g1 0).rows, .i (gi g1 1).int, .l [[.s (⟨#[98, 50, 48]⟩ : ByteArray)], [.s (⟨#[98, 50, 48]⟩ : ByteArray)], [.s (⟨#[98, 52, 48]⟩ : ByteArray)]]]) fun g2 => (callF (F_pilemake_Stream_ACall [.l (gi g2 0).rows, .i (gi g2 1).int]) fun g3 => (callF (F_pilemake_Stream_Pick [.l (gi g3 0).rows, .i (gi g3 1).int, .l [[.i 0], [.i 1], [.i 2], [.i 3], [.i 4], [.i 5], [.i 6], [.i 7]]]) fun g4 => (callF (F_pilemake_Stream_Pick [.l (gi g4 0).rows, .i (gi g4 1).int, .l [[.i 0], [.i 1], [.i 2], [.i 9]]]) fun g5 => (callF (F_pilemake_Stream_Some [.l (gi g5 0).rows, .i (gi g5 1).int, .l [[.s (⟨#[]⟩ : ByteArray)], [.s (⟨#[]⟩ : ByteArray)], [.s (⟨#[102, 105, 110]⟩ : ByteArray)]]]) fun g6 => (callF (F_pilemake_Stream_Some [.l (gi g6 0).rows, .i (gi g6 1).int, .l [[.s (⟨#[]⟩ : ByteArray)], [.s (⟨#[]⟩ : ByteArray)], [.s (⟨#[117, 115, 97]⟩ : ByteArray)]]]) fun g7 => (callF (F_pilemake_Stream_Flip [.l (gi g7 0).rows, .i (gi g7 1).int, .i 100]) fun g8 => (bif (gi g8 2).bool then (callF (F_pilemake_Stream_Next [.l (gi g8 0).rows, .i (gi g8 1).int, .i 4]) fun g9 => (bif ((gi g9 2).int == 0) then (callF (F_pilemake_Stream_Odd [.l (gi g9 0).rows, .i (gi g9 1).int, .i 0, .i 500]) fun g10 => (callF (F_pilemake_Stream_Odd [.l (gi g10 0).rows, .i (gi g10 1).int, .i 1, .i 3]) fun g11 => some [.l (gi g11 0).rows, .i (gi g11 1).int, .l [[.i (gi g10 2).int, .i (gi g11 2).int, .s (gi g2 2).str, .s (gi g3 2).str, .i (gi g4 2).int, .i (gi g5 2).int, .s (gi g6 2).str, .s (gi g7 2).str]]])) else (bif ((gi g9 2).int == 1) then (callF (F_pilemake_Stream_Some [.l (gi g9 0).rows, .i (gi g9 1).int, .l [[.s (⟨#[]⟩ : ByteArray)], [.s (⟨#[66]⟩ : ByteArray)], [.s (⟨#[98, 50, 48]⟩ : ByteArray)]]]) fun g12 => some [.l (gi g12 0).rows, .i (gi g12 1).int, .l [[.i (gi d 2).int, .i (gi g1 2).int, .s (gi g12 2).str, .s (gi g3 2).str, .i (gi g4 2).int, .i (gi g5 2).int, .s (gi g6 2).str, .s (gi g7 2).str]]]) else (bif ((gi g9 2).int == 2) then (callF (F_pilemake_Stream_Odd [.l (gi g9 0).rows, .i (gi g9 1).int, .i 0, .i 99999]) fun g13 => (callF (F_pilemake_Stream_Odd [.l (gi g13 0).rows, .i (gi g13 1).int, .i 0, .i 99999]) fun g14 => some [.l (gi g14 0).rows, .i (gi g14 1).int, .l [[.i (gi d 2).int, .i (gi g1 2).int, .s (gi g2 2).str, .s (gi g3 2).str, .i (gi g13 2).int, .i (gi g14 2).int, .s (gi g6 2).str, .s (gi g7 2).str]]])) else (callF (F_pilemake_Stream_Some [.l (gi g9 0).rows, .i (gi g9 1).int, .l [[.s (⟨#[]⟩ : ByteArray)], [.s (⟨#[65]⟩ : ByteArray)]]]) fun g15 => (callF (F_pilemake_Stream_Some [.l (gi g15 0).rows, .i (gi g15 1).int, .l [[.s (⟨#[49]⟩ : ByteArray)], [.s (⟨#[117, 115, 97]⟩ : ByteArray)]]]) fun g16 => some [.l (gi g16 0).rows, .i (gi g16 1).int, .l [[.i (gi d 2).int, .i (gi g1 2).int, .s (gi g2 2).str, .s (gi g3 2).str, .i (gi g4 2).int, .i (gi g5 2).int, .s (gi g15 2).str, .s (gi g16 2).str]]])))))) else some [.l (gi g8 0).rows, .i (gi g8 1).int, .l [[.i (gi d 2).int, .i (gi g1 2).int, .s (gi g2 2).str, .s (gi g3 2).str, .i (gi g4 2).int, .i (gi g5 2).int, .s (gi g6 2).str, .s (gi g7 2).str]]])))))))))
def s_pilemake_Stream_SomeContact : FSpec := ⟨29, [.s (.ptr 0 0), .s (.int .i64)], [.box [.list [.int .i64], .int .i64]], [.slot 0], [.s (.row KContact)], [.box [.list [.int .i64], .int .i64]], [.fix 0], [], F_pilemake_Stream_SomeContact⟩
theorem b_pilemake_Stream_SomeContact : BodyOK P t18 noLoops Tryz.f29 s_pilemake_Stream_SomeContact := fun d => by kernel_rfl
theorem c_pilemake_Stream_SomeContact : ∀ d r, F_pilemake_Stream_SomeContact d = some r → ACallX P 29 (s_pilemake_Stream_SomeContact.args0 d) (denH (s_pilemake_Stream_SomeContact.H0 d)) (s_pilemake_Stream_SomeContact.out r) (denH (s_pilemake_Stream_SomeContact.H1 r)) := fun d r h => body_sound hm t18_ok (sp := s_pilemake_Stream_SomeContact) Tryz.func29 (by kernel_rfl) (noLoops_ok _ _ _) b_pilemake_Stream_SomeContact (by kernel_rfl) h
def t19 : Tab := t18.addW s_pilemake_Stream_SomeContact
theorem t19_ok : TabOK P t19 := t18_ok.addW (by kernel_rfl) (by kernel_rfl) c_pilemake_Stream_SomeContact

/- pileup/pileref2.sign -/
def F_pileref2_sign (d : List G) : Option (List G) :=
  (bif (ltI (gi d 0).int 0) then some [.i (-1)] else (bif (ltI 0 (gi d 0).int) then some [.i 1] else some [.i 0]))
def s_pileref2_sign : FSpec := ⟨130, [.s (.int .i64)], [], [], [.s (.int .i64)], [], [], [], F_pileref2_sign⟩
theorem b_pileref2_sign : BodyOK P t19 noLoops Tryz.f130 s_pileref2_sign := fun d => by kernel_rfl
theorem c_pileref2_sign : ∀ d r, F_pileref2_sign d = some r → ACallX P 130 (s_pileref2_sign.args0 d) (denH (s_pileref2_sign.H0 d)) (s_pileref2_sign.out r) (denH (s_pileref2_sign.H1 r)) := fun d r h => body_sound hm t19_ok (sp := s_pileref2_sign) Tryz.func130 (by kernel_rfl) (noLoops_ok _ _ _) b_pileref2_sign (by kernel_rfl) h
def t20 : Tab := t19.addP s_pileref2_sign
theorem t20_ok : TabOK P t20 := t19_ok.addP (by kernel_rfl) (by kernel_rfl) c_pileref2_sign

/- pileup/pileref2.DeedOrder -/
def F_pileref2_DeedOrder (d : List G) : Option (List G) :=
  (bif ((gi (gi d 0).row 2).int != (gi (gi d 1).row 2).int) then (bif (inI ((gi (gi d 0).row 2).int - (gi (gi d 1).row 2).int)) then (callF (F_pileref2_sign [.i ((gi (gi d 0).row 2).int - (gi (gi d 1).row 2).int)]) fun g1 => some [.i (gi g1 0).int]) else none) else (bif (!((gi (gi d 0).row 0).str.toList == (gi (gi d 1).row 0).str.toList)) then (callF (F_strings_Compare [.s (gi (gi d 0).row 0).str, .s (gi (gi d 1).row 0).str]) fun g2 => some [.i (gi g2 0).int]) else (bif (inI ((gi (gi d 0).row 1).int - (gi (gi d 1).row 1).int)) then (callF (F_pileref2_sign [.i ((gi (gi d 0).row 1).int - (gi (gi d 1).row 1).int)]) fun g3 => some [.i (gi g3 0).int]) else none)))
def s_pileref2_DeedOrder : FSpec := ⟨72, [.s (.row KDeed), .s (.row KDeed)], [], [], [.s (.int .i64)], [], [], [], F_pileref2_DeedOrder⟩
theorem b_pileref2_DeedOrder : BodyOK P t20 noLoops Tryz.f72 s_pileref2_DeedOrder := fun d => by kernel_rfl
theorem c_pileref2_DeedOrder : ∀ d r, F_pileref2_DeedOrder d = some r → ACallX P 72 (s_pileref2_DeedOrder.args0 d) (denH (s_pileref2_DeedOrder.H0 d)) (s_pileref2_DeedOrder.out r) (denH (s_pileref2_DeedOrder.H1 r)) := fun d r h => body_sound hm t20_ok (sp := s_pileref2_DeedOrder) Tryz.func72 (by kernel_rfl) (noLoops_ok _ _ _) b_pileref2_DeedOrder (by kernel_rfl) h
def t21 : Tab := t20.addP s_pileref2_DeedOrder
theorem t21_ok : TabOK P t21 := t20_ok.addP (by kernel_rfl) (by kernel_rfl) c_pileref2_DeedOrder

/- slices.insertionSortCmpFunc[pileup/api.Deed] -/
def st_slices_insertionSortCmpFunc_Deed_4 (d : List G) : Option (Option Nat × List G) :=
  (bif (ltI (gi d 1).int (gi d 4).int) then (bif ((nnI (gi d 4).int) && (ltI (gi d 4).int (((gi d 0).rows.length : Nat) : Int))) then (bif (decide ((0 + ((gi d 4).int).toNat) < (gi d 0).rows.length)) then (bif (inI ((gi d 4).int - 1)) then (bif ((nnI ((gi d 4).int - 1)) && (ltI ((gi d 4).int - 1) (((gi d 0).rows.length : Nat) : Int))) then (bif (decide ((0 + ((gi d 4).int - 1).toNat) < (gi d 0).rows.length)) then (callF (F_pileref2_DeedOrder [.l [(gEta KDeed ((gi d 0).rows.getD (0 + ((gi d 4).int).toNat) []))], .l [(gEta KDeed ((gi d 0).rows.getD (0 + ((gi d 4).int - 1).toNat) []))]]) fun g1 => (bif (ltI (gi g1 0).int 0) then (bif (inI ((gi d 4).int - 1)) then (bif (inI ((gi d 4).int - 1)) then (bif ((nnI ((gi d 4).int - 1)) && (ltI ((gi d 4).int - 1) (((gi d 0).rows.length : Nat) : Int))) then (bif (decide ((0 + ((gi d 4).int - 1).toNat) < (gi d 0).rows.length)) then (bif ((nnI (gi d 4).int) && (ltI (gi d 4).int (((gi d 0).rows.length : Nat) : Int))) then (bif (decide ((0 + ((gi d 4).int).toNat) < (gi d 0).rows.length)) then (bif ((nnI (gi d 4).int) && (ltI (gi d 4).int (((gi d 0).rows.length : Nat) : Int))) then (bif (decide ((0 + ((gi d 4).int).toNat) < (gi d 0).rows.length)) then (bif ((nnI ((gi d 4).int - 1)) && (ltI ((gi d 4).int - 1) (((gi d 0).rows.length : Nat) : Int))) then (bif (decide ((0 + ((gi d 4).int - 1).toNat) < ((gi d 0).rows.set (0 + ((gi d 4).int).toNat) (putG KDeed ((gi d 0).rows.getD (0 + ((gi d 4).int).toNat) []) 0 (gEta KDeed ((gi d 0).rows.getD (0 + ((gi d 4).int - 1).toNat) [])))).length)) then (bif (inI ((gi d 4).int - 1)) then (bif ((Nat.beq (gi d 0).rows.length (((gi d 0).rows.set (0 + ((gi d 4).int).toNat) (putG KDeed ((gi d 0).rows.getD (0 + ((gi d 4).int).toNat) []) 0 (gEta KDeed ((gi d 0).rows.getD (0 + ((gi d 4).int - 1).toNat) [])))).set (0 + ((gi d 4).int - 1).toNat) (putG KDeed (((gi d 0).rows.set (0 + ((gi d 4).int).toNat) (putG KDeed ((gi d 0).rows.getD (0 + ((gi d 4).int).toNat) []) 0 (gEta KDeed ((gi d 0).rows.getD (0 + ((gi d 4).int - 1).toNat) [])))).getD (0 + ((gi d 4).int - 1).toNat) []) 0 (gEta KDeed ((gi d 0).rows.getD (0 + ((gi d 4).int).toNat) [])))).length) && true) then some (none, [.l (((gi d 0).rows.set (0 + ((gi d 4).int).toNat) (putG KDeed ((gi d 0).rows.getD (0 + ((gi d 4).int).toNat) []) 0 (gEta KDeed ((gi d 0).rows.getD (0 + ((gi d 4).int - 1).toNat) [])))).set (0 + ((gi d 4).int - 1).toNat) (putG KDeed (((gi d 0).rows.set (0 + ((gi d 4).int).toNat) (putG KDeed ((gi d 0).rows.getD (0 + ((gi d 4).int).toNat) []) 0 (gEta KDeed ((gi d 0).rows.getD (0 + ((gi d 4).int - 1).toNat) [])))).getD (0 + ((gi d 4).int - 1).toNat) []) 0 (gEta KDeed ((gi d 0).rows.getD (0 + ((gi d 4).int).toNat) [])))), .i (gi d 1).int, .i (gi d 2).int, .i (gi d 3).int, .i ((gi d 4).int - 1)]) else none) else none) else none) else none) else none) else none) else none) else none) else none) else none) else none) else none) else (bif ((Nat.beq (gi d 0).rows.length (gi d 0).rows.length) && true) then some (some 0, [.l (gi d 0).rows, .i (gi d 1).int, .i (gi d 2).int, .i (gi d 3).int]) else none))) else none) else none) else none) else none) else none) else (bif ((Nat.beq (gi d 0).rows.length (gi d 0).rows.length) && true) then some (some 0, [.l (gi d 0).rows, .i (gi d 1).int, .i (gi d 2).int, .i (gi d 3).int]) else none))
def l_slices_insertionSortCmpFunc_Deed_4 : LSpec := ⟨4, [], ⟨53, [(0, .s (.vec 0 15)), (1, .s (.int .i64)), (2, .s (.int .i64)), (3, .s (.fn 72)), (8, .s (.int .i64)), (9, .s (.int .i64))], [.vec KDeed 0]⟩, [.fix 0], [⟨.exit 2, ⟨53, [(0, .s (.vec 0 15)), (1, .s (.int .i64)), (2, .s (.int .i64)), (3, .s (.fn 72)), (8, .s (.int .i64))], [.vec KDeed 0]⟩, [.fix 0]⟩], st_slices_insertionSortCmpFunc_Deed_4⟩
theorem r_slices_insertionSortCmpFunc_Deed_4 : RoundOK P t21 noLoops 1 (loopAt Tryz.f188 4) l_slices_insertionSortCmpFunc_Deed_4 := fun d => by kernel_rfl
def L_slices_insertionSortCmpFunc_Deed_4 : LT := noLoops.add 1 l_slices_insertionSortCmpFunc_Deed_4
theorem L_slices_insertionSortCmpFunc_Deed_4_ok : LoopsOK P 1 L_slices_insertionSortCmpFunc_Deed_4 (bodyOf Tryz.f188) := LoopsOK.add hm t21_ok (by kernel_rfl) (noLoops_ok _ _ _) r_slices_insertionSortCmpFunc_Deed_4
def st_slices_insertionSortCmpFunc_Deed_1 (d : List G) : Option (Option Nat × List G) :=
  (bif (ltI (gi d 3).int (gi d 2).int) then (loopB ((Nat.beq (gi d 0).rows.length (gi d 0).rows.length) && true) (LRun st_slices_insertionSortCmpFunc_Deed_4 [.l (gi d 0).rows, .i (gi d 1).int, .i (gi d 2).int, .i (gi d 3).int, .i (gi d 3).int]) fun cg2 g2 => (bif (inI ((gi g2 3).int + 1)) then (bif ((Nat.beq (gi g2 0).rows.length (gi g2 0).rows.length) && true) then some (none, [.l (gi g2 0).rows, .i (gi g2 1).int, .i (gi g2 2).int, .i ((gi g2 3).int + 1)]) else none) else none)) else some (some 0, [.l (gi d 0).rows]))
def l_slices_insertionSortCmpFunc_Deed_1 : LSpec := ⟨1, [], ⟨53, [(0, .s (.vec 0 15)), (1, .s (.int .i64)), (2, .s (.int .i64)), (3, .s (.fn 72)), (8, .s (.int .i64))], [.vec KDeed 0]⟩, [.fix 0], [⟨.exit 0, ⟨53, [], [.vec KDeed 0]⟩, [.fix 0]⟩], st_slices_insertionSortCmpFunc_Deed_1⟩
theorem r_slices_insertionSortCmpFunc_Deed_1 : RoundOK P t21 L_slices_insertionSortCmpFunc_Deed_4 1 (loopAt Tryz.f188 1) l_slices_insertionSortCmpFunc_Deed_1 := fun d => by kernel_rfl
def L_slices_insertionSortCmpFunc_Deed_1 : LT := L_slices_insertionSortCmpFunc_Deed_4.add 1 l_slices_insertionSortCmpFunc_Deed_1
theorem L_slices_insertionSortCmpFunc_Deed_1_ok : LoopsOK P 1 L_slices_insertionSortCmpFunc_Deed_1 (bodyOf Tryz.f188) := LoopsOK.add hm t21_ok (by kernel_rfl) L_slices_insertionSortCmpFunc_Deed_4_ok r_slices_insertionSortCmpFunc_Deed_1
def F_slices_insertionSortCmpFunc_Deed (d : List G) : Option (List G) :=
  (bif (inI ((gi d 1).int + 1)) then (loopB ((Nat.beq (gi d 0).rows.length (gi d 0).rows.length) && true) (LRun st_slices_insertionSortCmpFunc_Deed_1 [.l (gi d 0).rows, .i (gi d 1).int, .i (gi d 2).int, .i ((gi d 1).int + 1)]) fun cg3 g3 => some [.l (gi g3 0).rows]) else none)
def s_slices_insertionSortCmpFunc_Deed : FSpec := ⟨188, [.s (.vec 0 15), .s (.int .i64), .s (.int .i64), .s (.fn 72)], [.vec KDeed 0], [.slot 0], [], [.vec KDeed 0], [.fix 0], [], F_slices_insertionSortCmpFunc_Deed⟩
theorem b_slices_insertionSortCmpFunc_Deed : BodyOK P t21 L_slices_insertionSortCmpFunc_Deed_1 Tryz.f188 s_slices_insertionSortCmpFunc_Deed := fun d => by kernel_rfl
theorem c_slices_insertionSortCmpFunc_Deed : ∀ d r, F_slices_insertionSortCmpFunc_Deed d = some r → ACallX P 188 (s_slices_insertionSortCmpFunc_Deed.args0 d) (denH (s_slices_insertionSortCmpFunc_Deed.H0 d)) (s_slices_insertionSortCmpFunc_Deed.out r) (denH (s_slices_insertionSortCmpFunc_Deed.H1 r)) := fun d r h => body_sound hm t21_ok (sp := s_slices_insertionSortCmpFunc_Deed) Tryz.func188 (by kernel_rfl) L_slices_insertionSortCmpFunc_Deed_1_ok b_slices_insertionSortCmpFunc_Deed (by kernel_rfl) h
def t22 : Tab := t21.addW s_slices_insertionSortCmpFunc_Deed
theorem t22_ok : TabOK P t22 := t21_ok.addW (by kernel_rfl) (by kernel_rfl) c_slices_insertionSortCmpFunc_Deed

/- slices.stableCmpFunc[pileup/api.Deed] -/
/- not followed: a call of slices.symMergeCmpFunc[pileup/api.Deed] at zsortanyfunc.go:348; a call of slices.symMergeCmpFunc[pileup/api.Deed] at zsortanyfunc.go:353 -/
def st_slices_stableCmpFunc_Deed_2 (d : List G) : Option (Option Nat × List G) :=
  (bif (leI (gi d 4).int (gi d 1).int) then (callB (((Nat.beq (gi d 0).rows.length (gi d 0).rows.length) && true) && (F_slices_insertionSortCmpFunc_Deed [.l (gi d 0).rows, .i (gi d 3).int, .i (gi d 4).int]).isSome) (F_slices_insertionSortCmpFunc_Deed [.l (gi d 0).rows, .i (gi d 3).int, .i (gi d 4).int]) fun g1 => (bif (inI ((gi d 4).int + (gi d 2).int)) then (bif ((Nat.beq (gi d 0).rows.length (gi g1 0).rows.length) && true) then some (none, [.l (gi g1 0).rows, .i (gi d 1).int, .i (gi d 2).int, .i (gi d 4).int, .i ((gi d 4).int + (gi d 2).int)]) else none) else none)) else (bif ((Nat.beq (gi d 0).rows.length (gi d 0).rows.length) && true) then some (some 0, [.l (gi d 0).rows, .i (gi d 1).int, .i (gi d 2).int, .i (gi d 3).int]) else none))
def l_slices_stableCmpFunc_Deed_2 : LSpec := ⟨2, [], ⟨63, [(0, .s (.vec 0 15)), (1, .s (.int .i64)), (2, .s (.fn 72)), (6, .s (.int .i64)), (7, .s (.int .i64)), (8, .s (.int .i64))], [.vec KDeed 0]⟩, [.fix 0], [⟨.exit 0, ⟨63, [(0, .s (.vec 0 15)), (1, .s (.int .i64)), (2, .s (.fn 72)), (6, .s (.int .i64)), (7, .s (.int .i64))], [.vec KDeed 0]⟩, [.fix 0]⟩], st_slices_stableCmpFunc_Deed_2⟩
theorem r_slices_stableCmpFunc_Deed_2 : RoundOK P t22 noLoops 1 (loopAt Tryz.f129 2) l_slices_stableCmpFunc_Deed_2 := fun d => by kernel_rfl
def L_slices_stableCmpFunc_Deed_2 : LT := noLoops.add 1 l_slices_stableCmpFunc_Deed_2
theorem L_slices_stableCmpFunc_Deed_2_ok : LoopsOK P 1 L_slices_stableCmpFunc_Deed_2 (bodyOf Tryz.f129) := LoopsOK.add hm t22_ok (by kernel_rfl) (noLoops_ok _ _ _) r_slices_stableCmpFunc_Deed_2
def st_slices_stableCmpFunc_Deed_9 (d : List G) : Option (Option Nat × List G) :=
  (bif (leI (gi d 4).int (gi d 1).int) then (bif (inI ((gi d 3).int + (gi d 2).int)) then none else none) else (bif ((Nat.beq (gi d 0).rows.length (gi d 0).rows.length) && true) then some (some 0, [.l (gi d 0).rows, .i (gi d 1).int, .i (gi d 2).int, .i (gi d 3).int]) else none))
def l_slices_stableCmpFunc_Deed_9 : LSpec := ⟨9, [], ⟨63, [(0, .s (.vec 0 15)), (1, .s (.int .i64)), (2, .s (.fn 72)), (6, .s (.int .i64)), (7, .s (.int .i64)), (8, .s (.int .i64))], [.vec KDeed 0]⟩, [.fix 0], [⟨.exit 4, ⟨63, [(0, .s (.vec 0 15)), (1, .s (.int .i64)), (2, .s (.fn 72)), (6, .s (.int .i64)), (7, .s (.int .i64))], [.vec KDeed 0]⟩, [.fix 0]⟩], st_slices_stableCmpFunc_Deed_9⟩
theorem r_slices_stableCmpFunc_Deed_9 : RoundOK P t22 L_slices_stableCmpFunc_Deed_2 1 (loopAt Tryz.f129 9) l_slices_stableCmpFunc_Deed_9 := fun d => by kernel_rfl
def L_slices_stableCmpFunc_Deed_9 : LT := L_slices_stableCmpFunc_Deed_2.add 1 l_slices_stableCmpFunc_Deed_9
theorem L_slices_stableCmpFunc_Deed_9_ok : LoopsOK P 1 L_slices_stableCmpFunc_Deed_9 (bodyOf Tryz.f129) := LoopsOK.add hm t22_ok (by kernel_rfl) L_slices_stableCmpFunc_Deed_2_ok r_slices_stableCmpFunc_Deed_9
def st_slices_stableCmpFunc_Deed_7 (d : List G) : Option (Option Nat × List G) :=
  (bif (ltI (gi d 2).int (gi d 1).int) then (bif (inI (2 * (gi d 2).int)) then (loopB ((Nat.beq (gi d 0).rows.length (gi d 0).rows.length) && true) (LRun st_slices_stableCmpFunc_Deed_9 [.l (gi d 0).rows, .i (gi d 1).int, .i (gi d 2).int, .i 0, .i (2 * (gi d 2).int)]) fun cg4 g4 => (bif (inI ((gi g4 3).int + (gi g4 2).int)) then (bif (ltI ((gi g4 3).int + (gi g4 2).int) (gi g4 1).int) then none else (bif (inI ((gi g4 2).int * 2)) then (bif ((Nat.beq (gi g4 0).rows.length (gi g4 0).rows.length) && true) then some (none, [.l (gi g4 0).rows, .i (gi g4 1).int, .i ((gi g4 2).int * 2)]) else none) else none)) else none)) else none) else some (some 0, [.l (gi d 0).rows]))
def l_slices_stableCmpFunc_Deed_7 : LSpec := ⟨7, [], ⟨63, [(0, .s (.vec 0 15)), (1, .s (.int .i64)), (2, .s (.fn 72)), (6, .s (.int .i64))], [.vec KDeed 0]⟩, [.fix 0], [⟨.exit 2, ⟨63, [], [.vec KDeed 0]⟩, [.fix 0]⟩], st_slices_stableCmpFunc_Deed_7⟩
theorem r_slices_stableCmpFunc_Deed_7 : RoundOK P t22 L_slices_stableCmpFunc_Deed_9 1 (loopAt Tryz.f129 7) l_slices_stableCmpFunc_Deed_7 := fun d => by kernel_rfl
def L_slices_stableCmpFunc_Deed_7 : LT := L_slices_stableCmpFunc_Deed_9.add 1 l_slices_stableCmpFunc_Deed_7
theorem L_slices_stableCmpFunc_Deed_7_ok : LoopsOK P 1 L_slices_stableCmpFunc_Deed_7 (bodyOf Tryz.f129) := LoopsOK.add hm t22_ok (by kernel_rfl) L_slices_stableCmpFunc_Deed_9_ok r_slices_stableCmpFunc_Deed_7
def F_slices_stableCmpFunc_Deed (d : List G) : Option (List G) :=
  (loopB ((Nat.beq (gi d 0).rows.length (gi d 0).rows.length) && true) (LRun st_slices_stableCmpFunc_Deed_2 [.l (gi d 0).rows, .i (gi d 1).int, .i 20, .i 0, .i 20]) fun cg2 g2 => (callB (((Nat.beq (gi g2 0).rows.length (gi g2 0).rows.length) && true) && (F_slices_insertionSortCmpFunc_Deed [.l (gi g2 0).rows, .i (gi g2 3).int, .i (gi g2 1).int]).isSome) (F_slices_insertionSortCmpFunc_Deed [.l (gi g2 0).rows, .i (gi g2 3).int, .i (gi g2 1).int]) fun g3 => (loopB ((Nat.beq (gi g2 0).rows.length (gi g3 0).rows.length) && true) (LRun st_slices_stableCmpFunc_Deed_7 [.l (gi g3 0).rows, .i (gi g2 1).int, .i (gi g2 2).int]) fun cg5 g5 => some [.l (gi g5 0).rows])))
def s_slices_stableCmpFunc_Deed : FSpec := ⟨129, [.s (.vec 0 15), .s (.int .i64), .s (.fn 72)], [.vec KDeed 0], [.slot 0], [], [.vec KDeed 0], [.fix 0], [], F_slices_stableCmpFunc_Deed⟩
theorem b_slices_stableCmpFunc_Deed : BodyOK P t22 L_slices_stableCmpFunc_Deed_7 Tryz.f129 s_slices_stableCmpFunc_Deed := fun d => by kernel_rfl
theorem c_slices_stableCmpFunc_Deed : ∀ d r, F_slices_stableCmpFunc_Deed d = some r → ACallX P 129 (s_slices_stableCmpFunc_Deed.args0 d) (denH (s_slices_stableCmpFunc_Deed.H0 d)) (s_slices_stableCmpFunc_Deed.out r) (denH (s_slices_stableCmpFunc_Deed.H1 r)) := fun d r h => body_sound hm t22_ok (sp := s_slices_stableCmpFunc_Deed) Tryz.func129 (by kernel_rfl) L_slices_stableCmpFunc_Deed_7_ok b_slices_stableCmpFunc_Deed (by kernel_rfl) h
def t23 : Tab := t22.addW s_slices_stableCmpFunc_Deed
theorem t23_ok : TabOK P t23 := t22_ok.addW (by kernel_rfl) (by kernel_rfl) c_slices_stableCmpFunc_Deed

/- slices.SortStableFunc[[]pileup/api.Deed,pileup/api.Deed] -/
def F_slices_SortStableFunc_Deed (d : List G) : Option (List G) :=
  (callB (((Nat.beq (gi d 0).rows.length (gi d 0).rows.length) && true) && (F_slices_stableCmpFunc_Deed [.l (gi d 0).rows, .i (((gi d 0).rows.length : Nat) : Int)]).isSome) (F_slices_stableCmpFunc_Deed [.l (gi d 0).rows, .i (((gi d 0).rows.length : Nat) : Int)]) fun g1 => some [.l (gi g1 0).rows])
def s_slices_SortStableFunc_Deed : FSpec := ⟨71, [.s (.vec 0 15), .s (.fn 72)], [.vec KDeed 0], [.slot 0], [], [.vec KDeed 0], [.fix 0], [], F_slices_SortStableFunc_Deed⟩
theorem b_slices_SortStableFunc_Deed : BodyOK P t23 noLoops Tryz.f71 s_slices_SortStableFunc_Deed := fun d => by kernel_rfl
theorem c_slices_SortStableFunc_Deed : ∀ d r, F_slices_SortStableFunc_Deed d = some r → ACallX P 71 (s_slices_SortStableFunc_Deed.args0 d) (denH (s_slices_SortStableFunc_Deed.H0 d)) (s_slices_SortStableFunc_Deed.out r) (denH (s_slices_SortStableFunc_Deed.H1 r)) := fun d r h => body_sound hm t23_ok (sp := s_slices_SortStableFunc_Deed) Tryz.func71 (by kernel_rfl) (noLoops_ok _ _ _) b_slices_SortStableFunc_Deed (by kernel_rfl) h
def t24 : Tab := t23.addW s_slices_SortStableFunc_Deed
theorem t24_ok : TabOK P t24 := t23_ok.addW (by kernel_rfl) (by kernel_rfl) c_slices_SortStableFunc_Deed

/- (*pileup/pilemake.Stream).Deeds -/
def tl_pilemake_Stream_Deeds_28 (d : List G) : Option (Option Nat × List G) :=
  (bif ((Nat.beq (gi d 2).rows.length (gi d 2).rows.length) && (decide (((gi d 2).rows.length + 1) ≤ 1048576))) then (bif ((Nat.beq ((gi d 2).rows ++ ([[.s (gi d 5).str, .i (gi d 6).int, .i (gi d 7).int, .i (gi d 8).int, .i (gi d 9).int, .i (gi d 10).int, .s (gi d 11).str, .s (gi d 12).str, .i (gi d 13).int, .i (gi d 14).int, .s (gi d 15).str, .s (gi d 16).str, .s (gi d 17).str, .s (gi d 18).str, .i (gi d 19).int]] : List (List G))).length ((gi d 2).rows ++ ([[.s (gi d 5).str, .i (gi d 6).int, .i (gi d 7).int, .i (gi d 8).int, .i (gi d 9).int, .i (gi d 10).int, .s (gi d 11).str, .s (gi d 12).str, .i (gi d 13).int, .i (gi d 14).int, .s (gi d 15).str, .s (gi d 16).str, .s (gi d 17).str, .s (gi d 18).str, .i (gi d 19).int]] : List (List G))).length) && true) then some (some 0, [.l (gi d 0).rows, .i (gi d 1).int, .l ((gi d 2).rows ++ ([[.s (gi d 5).str, .i (gi d 6).int, .i (gi d 7).int, .i (gi d 8).int, .i (gi d 9).int, .i (gi d 10).int, .s (gi d 11).str, .s (gi d 12).str, .i (gi d 13).int, .i (gi d 14).int, .s (gi d 15).str, .s (gi d 16).str, .s (gi d 17).str, .s (gi d 18).str, .i (gi d 19).int]] : List (List G))), .l (gi d 3).rows, .i (((gi d 4).int.toNat : Nat) : Int), .i (gi d 20).int, .i (gi d 21).int, .i (gi d 22).int]) else none) else none)
def l_pilemake_Stream_Deeds_28c : LSpec := ⟨28, [], ⟨115, [(0, .s (.ptr 0 0)), (5, .s (.vec 1 15)), (6, .s (.int .i64)), (7, .s (.map 2)), (8, .s (.ptr 3 0)), (10, .s (.int .i64)), (11, .s (.int .i64))], [.box [.list [.int .i64], .int .i64], .vec KDeed 0, .map (.one (.str)) (.one (.int .i64)), .box [.str, .int .i64, .int .i64, .int .i64, .int .i64, .int .i64, .str, .str, .int .i64, .int .i64, .str, .str, .str, .str, .int .i64]]⟩, [.fix 0, .slot 5, .slot 7, .slot 8], [⟨.normal, ⟨115, [(0, .s (.ptr 0 0)), (5, .s (.vec 1 15)), (6, .s (.int .i64)), (7, .s (.map 2)), (10, .s (.int .i64)), (11, .s (.int .i64))], [.box [.list [.int .i64], .int .i64], .vec KDeed 0, .map (.one (.str)) (.one (.int .i64))]⟩, [.fix 0, .slot 5, .slot 7]⟩], tl_pilemake_Stream_Deeds_28⟩
theorem r_pilemake_Stream_Deeds_28c : CutOK P t24 noLoops 1 (cutAt Tryz.f10 28) l_pilemake_Stream_Deeds_28c := fun d => by kernel_rfl
def L_pilemake_Stream_Deeds_28c : LT := noLoops.addCut 1 l_pilemake_Stream_Deeds_28c
theorem L_pilemake_Stream_Deeds_28c_ok : LoopsOK P 1 L_pilemake_Stream_Deeds_28c (bodyOf Tryz.f10) := LoopsOK.addCut hm t24_ok (by kernel_rfl) (noLoops_ok _ _ _) r_pilemake_Stream_Deeds_28c
def tl_pilemake_Stream_Deeds_19 (d : List G) : Option (Option Nat × List G) :=
  (callF (F_pilemake_Stream_Flip [.l (gi d 0).rows, .i (gi d 1).int, .i 100]) fun g6 => (bif (gi g6 2).bool then (callF (F_pilemake_Stream_Next [.l (gi g6 0).rows, .i (gi g6 1).int, .i 4]) fun g7 => (bif ((gi g7 2).int == 0) then (callF (F_pilemake_Stream_Some [.l (gi g7 0).rows, .i (gi g7 1).int, .l [[.s (⟨#[]⟩ : ByteArray)], [.s (⟨#[115, 97]⟩ : ByteArray)]]]) fun g8 => (callF (F_pilemake_Stream_Odd [.l (gi g8 0).rows, .i (gi g8 1).int, .i 1, .i 9]) fun g9 => (loopB ((Nat.beq (gi d 2).rows.length (gi d 2).rows.length) && true) (cutR (tl_pilemake_Stream_Deeds_28 [.l (gi g9 0).rows, .i (gi g9 1).int, .l (gi d 2).rows, .l (gi d 3).rows, .i (((gi d 4).int.toNat : Nat) : Int), .s (gi g8 2).str, .i (gi g9 2).int, .i (gi d 7).int, .i (gi d 8).int, .i (gi d 9).int, .i (gi d 10).int, .s (gi d 11).str, .s (gi d 12).str, .i (gi d 13).int, .i (gi d 14).int, .s (gi d 15).str, .s (gi d 16).str, .s (gi d 17).str, .s (gi d 18).str, .i (gi d 19).int, .i (gi d 20).int, .i (gi d 21).int, .i (gi d 22).int])) fun cg10 g10 => (bif ((Nat.beq (gi g10 2).rows.length (gi g10 2).rows.length) && true) then some (some 0, [.l (gi g10 0).rows, .i (gi g10 1).int, .l (gi g10 2).rows, .l (gi g10 3).rows, .i (((gi g10 4).int.toNat : Nat) : Int), .i (gi g10 5).int, .i (gi g10 6).int, .i (gi g10 7).int]) else none)))) else (bif ((gi g7 2).int == 1) then (callF (F_pilemake_Stream_Odd [.l (gi g7 0).rows, .i (gi g7 1).int, .i 1, .i 5]) fun g11 => (loopB ((Nat.beq (gi d 2).rows.length (gi d 2).rows.length) && true) (cutR (tl_pilemake_Stream_Deeds_28 [.l (gi g11 0).rows, .i (gi g11 1).int, .l (gi d 2).rows, .l (gi d 3).rows, .i (((gi d 4).int.toNat : Nat) : Int), .s (gi d 5).str, .i (gi d 6).int, .i (gi d 7).int, .i (gi g11 2).int, .i (gi d 9).int, .i (gi d 10).int, .s (gi d 11).str, .s (gi d 12).str, .i (gi d 13).int, .i (gi d 14).int, .s (gi d 15).str, .s (gi d 16).str, .s (gi d 17).str, .s (gi d 18).str, .i (gi d 19).int, .i (gi d 20).int, .i (gi d 21).int, .i (gi d 22).int])) fun cg12 g12 => (bif ((Nat.beq (gi g12 2).rows.length (gi g12 2).rows.length) && true) then some (some 0, [.l (gi g12 0).rows, .i (gi g12 1).int, .l (gi g12 2).rows, .l (gi g12 3).rows, .i (((gi g12 4).int.toNat : Nat) : Int), .i (gi g12 5).int, .i (gi g12 6).int, .i (gi g12 7).int]) else none))) else (bif ((gi g7 2).int == 2) then (callF (F_pilemake_Stream_Some [.l (gi g7 0).rows, .i (gi g7 1).int, .l [[.s (⟨#[]⟩ : ByteArray)], [.s (⟨#[98, 50, 48]⟩ : ByteArray)]]]) fun g13 => (callF (F_pilemake_Stream_Some [.l (gi g13 0).rows, .i (gi g13 1).int, .l [[.s (⟨#[]⟩ : ByteArray)], [.s (⟨#[115, 97]⟩ : ByteArray)]]]) fun g14 => (loopB ((Nat.beq (gi d 2).rows.length (gi d 2).rows.length) && true) (cutR (tl_pilemake_Stream_Deeds_28 [.l (gi g14 0).rows, .i (gi g14 1).int, .l (gi d 2).rows, .l (gi d 3).rows, .i (((gi d 4).int.toNat : Nat) : Int), .s (gi d 5).str, .i (gi d 6).int, .i (gi d 7).int, .i (gi d 8).int, .i (gi d 9).int, .i (gi d 10).int, .s (gi d 11).str, .s (gi d 12).str, .i (gi d 13).int, .i (gi d 14).int, .s (gi d 15).str, .s (gi d 16).str, .s (gi g13 2).str, .s (gi g14 2).str, .i (gi d 19).int, .i (gi d 20).int, .i (gi d 21).int, .i (gi d 22).int])) fun cg15 g15 => (bif ((Nat.beq (gi g15 2).rows.length (gi g15 2).rows.length) && true) then some (some 0, [.l (gi g15 0).rows, .i (gi g15 1).int, .l (gi g15 2).rows, .l (gi g15 3).rows, .i (((gi g15 4).int.toNat : Nat) : Int), .i (gi g15 5).int, .i (gi g15 6).int, .i (gi g15 7).int]) else none)))) else (callF (F_pilemake_Stream_Odd [.l (gi g7 0).rows, .i (gi g7 1).int, .i 1, .i 99999]) fun g16 => (callF (F_pilemake_Stream_Odd [.l (gi g16 0).rows, .i (gi g16 1).int, .i 0, .i 5]) fun g17 => (loopB ((Nat.beq (gi d 2).rows.length (gi d 2).rows.length) && true) (cutR (tl_pilemake_Stream_Deeds_28 [.l (gi g17 0).rows, .i (gi g17 1).int, .l (gi d 2).rows, .l (gi d 3).rows, .i (((gi d 4).int.toNat : Nat) : Int), .s (gi d 5).str, .i (gi d 6).int, .i (gi d 7).int, .i (gi d 8).int, .i (gi d 9).int, .i (gi d 10).int, .s (gi d 11).str, .s (gi d 12).str, .i (gi g16 2).int, .i (gi d 14).int, .s (gi d 15).str, .s (gi d 16).str, .s (gi d 17).str, .s (gi d 18).str, .i (gi g17 2).int, .i (gi d 20).int, .i (gi d 21).int, .i (gi d 22).int])) fun cg18 g18 => (bif ((Nat.beq (gi g18 2).rows.length (gi g18 2).rows.length) && true) then some (some 0, [.l (gi g18 0).rows, .i (gi g18 1).int, .l (gi g18 2).rows, .l (gi g18 3).rows, .i (((gi g18 4).int.toNat : Nat) : Int), .i (gi g18 5).int, .i (gi g18 6).int, .i (gi g18 7).int]) else none)))))))) else (loopB ((Nat.beq (gi d 2).rows.length (gi d 2).rows.length) && true) (cutR (tl_pilemake_Stream_Deeds_28 [.l (gi g6 0).rows, .i (gi g6 1).int, .l (gi d 2).rows, .l (gi d 3).rows, .i (((gi d 4).int.toNat : Nat) : Int), .s (gi d 5).str, .i (gi d 6).int, .i (gi d 7).int, .i (gi d 8).int, .i (gi d 9).int, .i (gi d 10).int, .s (gi d 11).str, .s (gi d 12).str, .i (gi d 13).int, .i (gi d 14).int, .s (gi d 15).str, .s (gi d 16).str, .s (gi d 17).str, .s (gi d 18).str, .i (gi d 19).int, .i (gi d 20).int, .i (gi d 21).int, .i (gi d 22).int])) fun cg19 g19 => (bif ((Nat.beq (gi g19 2).rows.length (gi g19 2).rows.length) && true) then some (some 0, [.l (gi g19 0).rows, .i (gi g19 1).int, .l (gi g19 2).rows, .l (gi g19 3).rows, .i (((gi g19 4).int.toNat : Nat) : Int), .i (gi g19 5).int, .i (gi g19 6).int, .i (gi g19 7).int]) else none))))
def l_pilemake_Stream_Deeds_19c : LSpec := ⟨19, [], ⟨115, [(0, .s (.ptr 0 0)), (5, .s (.vec 1 15)), (6, .s (.int .i64)), (7, .s (.map 2)), (8, .s (.ptr 3 0)), (10, .s (.int .i64)), (11, .s (.int .i64))], [.box [.list [.int .i64], .int .i64], .vec KDeed 0, .map (.one (.str)) (.one (.int .i64)), .box [.str, .int .i64, .int .i64, .int .i64, .int .i64, .int .i64, .str, .str, .int .i64, .int .i64, .str, .str, .str, .str, .int .i64]]⟩, [.fix 0, .slot 5, .slot 7, .slot 8], [⟨.normal, ⟨115, [(0, .s (.ptr 0 0)), (5, .s (.vec 1 15)), (6, .s (.int .i64)), (7, .s (.map 2)), (10, .s (.int .i64)), (11, .s (.int .i64))], [.box [.list [.int .i64], .int .i64], .vec KDeed 0, .map (.one (.str)) (.one (.int .i64))]⟩, [.fix 0, .slot 5, .slot 7]⟩], tl_pilemake_Stream_Deeds_19⟩
theorem r_pilemake_Stream_Deeds_19c : CutOK P t24 L_pilemake_Stream_Deeds_28c 1 (cutAt Tryz.f10 19) l_pilemake_Stream_Deeds_19c := fun d => by kernel_rfl
def L_pilemake_Stream_Deeds_19c : LT := L_pilemake_Stream_Deeds_28c.addCut 1 l_pilemake_Stream_Deeds_19c
theorem L_pilemake_Stream_Deeds_19c_ok : LoopsOK P 1 L_pilemake_Stream_Deeds_19c (bodyOf Tryz.f10) := LoopsOK.addCut hm t24_ok (by kernel_rfl) L_pilemake_Stream_Deeds_28c_ok r_pilemake_Stream_Deeds_19c
def tl_pilemake_Stream_Deeds_18 (d : List G) : Option (Option Nat × List G) :=
  (bif (gi d 23).bool then (callF (F_pilemake_Stream_Range [.l (gi d 0).rows, .i (gi d 1).int, .i 1, .i 7]) fun g23 => (bif ((Nat.beq (gi d 2).rows.length (gi d 2).rows.length) && true) then some (some 0, [.l (gi g23 0).rows, .i (gi g23 1).int, .l (gi d 2).rows, .l (gi d 3).rows, .i (((gi d 4).int.toNat : Nat) : Int), .s (gi d 5).str, .i (gi d 6).int, .i (gi d 7).int, .i (gi d 8).int, .i (gi d 9).int, .i (gi d 10).int, .s (gi d 11).str, .s (gi d 12).str, .i (gi g23 2).int, .i (gi d 14).int, .s (gi d 15).str, .s (gi d 16).str, .s (gi d 17).str, .s (gi d 18).str, .i (gi d 19).int, .i (gi d 20).int, .i (gi d 21).int, .i (gi d 22).int]) else none)) else (callF (F_pilemake_Stream_Some [.l (gi d 0).rows, .i (gi d 1).int, .l [[.s (⟨#[115, 97]⟩ : ByteArray)], [.s (⟨#[115, 97]⟩ : ByteArray)], [.s (⟨#[115, 98]⟩ : ByteArray)]]]) fun g24 => (callF (F_pilemake_Stream_Range [.l (gi g24 0).rows, .i (gi g24 1).int, .i 1, .i (if (gi (mget [.str] (gi d 3).rows [.s (⟨#[115, 97]⟩ : ByteArray)] [.i 0]) 0).int > 1 then (gi (mget [.str] (gi d 3).rows [.s (⟨#[115, 97]⟩ : ByteArray)] [.i 0]) 0).int else 1)]) fun g25 => (bif ((Nat.beq (gi d 2).rows.length (gi d 2).rows.length) && true) then some (some 0, [.l (gi g25 0).rows, .i (gi g25 1).int, .l (gi d 2).rows, .l (gi d 3).rows, .i (((gi d 4).int.toNat : Nat) : Int), .s (gi d 5).str, .i (gi d 6).int, .i (gi d 7).int, .i (gi d 8).int, .i (gi d 9).int, .i (gi d 10).int, .s (gi d 11).str, .s (gi d 12).str, .i (gi d 13).int, .i (gi d 14).int, .s (gi d 15).str, .s (gi d 16).str, .s (gi d 17).str, .s (gi g24 2).str, .i (gi g25 2).int, .i (gi d 20).int, .i (gi d 21).int, .i (gi d 22).int]) else none))))
def l_pilemake_Stream_Deeds_18c : LSpec := ⟨18, [], ⟨115, [(0, .s (.ptr 0 0)), (5, .s (.vec 1 15)), (6, .s (.int .i64)), (7, .s (.map 2)), (8, .s (.ptr 3 0)), (10, .s (.int .i64)), (11, .s (.int .i64)), (65, .s (.bool))], [.box [.list [.int .i64], .int .i64], .vec KDeed 0, .map (.one (.str)) (.one (.int .i64)), .box [.str, .int .i64, .int .i64, .int .i64, .int .i64, .int .i64, .str, .str, .int .i64, .int .i64, .str, .str, .str, .str, .int .i64]]⟩, [.fix 0, .slot 5, .slot 7, .slot 8], [⟨.normal, ⟨115, [(0, .s (.ptr 0 0)), (5, .s (.vec 1 15)), (6, .s (.int .i64)), (7, .s (.map 2)), (8, .s (.ptr 3 0)), (10, .s (.int .i64)), (11, .s (.int .i64))], [.box [.list [.int .i64], .int .i64], .vec KDeed 0, .map (.one (.str)) (.one (.int .i64)), .box [.str, .int .i64, .int .i64, .int .i64, .int .i64, .int .i64, .str, .str, .int .i64, .int .i64, .str, .str, .str, .str, .int .i64]]⟩, [.fix 0, .slot 5, .slot 7, .slot 8]⟩], tl_pilemake_Stream_Deeds_18⟩
theorem r_pilemake_Stream_Deeds_18c : CutOK P t24 L_pilemake_Stream_Deeds_19c 1 (cutAt Tryz.f10 18) l_pilemake_Stream_Deeds_18c := fun d => by kernel_rfl
def L_pilemake_Stream_Deeds_18c : LT := L_pilemake_Stream_Deeds_19c.addCut 1 l_pilemake_Stream_Deeds_18c
theorem L_pilemake_Stream_Deeds_18c_ok : LoopsOK P 1 L_pilemake_Stream_Deeds_18c (bodyOf Tryz.f10) := LoopsOK.addCut hm t24_ok (by kernel_rfl) L_pilemake_Stream_Deeds_19c_ok r_pilemake_Stream_Deeds_18c
def st_pilemake_Stream_Deeds_5 (d : List G) : Option (Option Nat × List G) :=
  (bif (ltI (gi d 7).int (gi d 6).int) then (callF (F_pilemake_Stream_Pick [.l (gi d 0).rows, .i (gi d 1).int, .l [[.i 0], [.i 1], [.i 5]]]) fun g1 => (bif (inI ((gi d 5).int + (gi g1 2).int)) then (callF (F_pilemake_Stream_Some [.l (gi g1 0).rows, .i (gi g1 1).int, .l [[.s (⟨#[115, 97]⟩ : ByteArray)], [.s (⟨#[115, 97]⟩ : ByteArray)], [.s (⟨#[115, 98]⟩ : ByteArray)], [.s (⟨#[115, 99]⟩ : ByteArray)]]]) fun g2 => (callF (F_pilemake_Stream_Pick [.l (gi g2 0).rows, .i (gi g2 1).int, .l [[.i 1], [.i 1], [.i 1], [.i 1], [.i 2], [.i 3], [.i 3], [.i 4], [.i 5]]]) fun g3 => (bif (inI ((gi (mget [.str] (gi d 3).rows [.s (gi g2 2).str] [.i 0]) 0).int + 1)) then (bif ((gi g3 2).int == 1) then (bif (inI (((gi d 5).int + (gi g1 2).int) - 3)) then (callF (F_pilemake_Stream_Range [.l (gi g3 0).rows, .i (gi g3 1).int, .i (if (((gi d 5).int + (gi g1 2).int) - 3) > 0 then (((gi d 5).int + (gi g1 2).int) - 3) else 0), .i ((gi d 5).int + (gi g1 2).int)]) fun g4 => (callF (F_pilemake_Stream_SomeContact [.l (gi g4 0).rows, .i (gi g4 1).int, .i (gi g4 2).int]) fun g5 => (loopB ((Nat.beq (gi d 2).rows.length (gi d 2).rows.length) && true) (cutR (tl_pilemake_Stream_Deeds_19 [.l (gi g5 0).rows, .i (gi g5 1).int, .l (gi d 2).rows, .l (mput [.str] (gi d 3).rows [.s (gi g2 2).str] [.i ((gi (mget [.str] (gi d 3).rows [.s (gi g2 2).str] [.i 0]) 0).int + 1)] (gi d 4).int.toNat), .i (((mclk [.str] (gi d 3).rows [.s (gi g2 2).str] (gi d 4).int.toNat) : Nat) : Int), .s (gi g2 2).str, .i (gi (mget [.str] (mput [.str] (gi d 3).rows [.s (gi g2 2).str] [.i ((gi (mget [.str] (gi d 3).rows [.s (gi g2 2).str] [.i 0]) 0).int + 1)] (gi d 4).int.toNat) [.s (gi g2 2).str] [.i 0]) 0).int, .i ((gi d 5).int + (gi g1 2).int), .i (gi g3 2).int, .i (gi (gi g5 2).row 0).int, .i (gi (gi g5 2).row 1).int, .s (gi (gi g5 2).row 2).str, .s (gi (gi g5 2).row 3).str, .i (gi (gi g5 2).row 4).int, .i (gi (gi g5 2).row 5).int, .s (gi (gi g5 2).row 6).str, .s (gi (gi g5 2).row 7).str, .s (⟨#[]⟩ : ByteArray), .s (⟨#[]⟩ : ByteArray), .i 0, .i ((gi d 5).int + (gi g1 2).int), .i (gi d 6).int, .i (gi d 7).int])) fun cg20 g20 => (bif (inI ((gi g20 7).int + 1)) then (bif ((Nat.beq (gi g20 2).rows.length (gi g20 2).rows.length) && true) then some (none, [.l (gi g20 0).rows, .i (gi g20 1).int, .l (gi g20 2).rows, .l (gi g20 3).rows, .i (((gi g20 4).int.toNat : Nat) : Int), .i (gi g20 5).int, .i (gi g20 6).int, .i ((gi g20 7).int + 1)]) else none) else none)))) else none) else (bif ((gi g3 2).int == 2) then (callF (F_pilemake_Stream_Some [.l (gi g3 0).rows, .i (gi g3 1).int, .l [[.s (⟨#[98, 50, 48]⟩ : ByteArray)], [.s (⟨#[98, 52, 48]⟩ : ByteArray)]]]) fun g21 => (loopB ((Nat.beq (gi d 2).rows.length (gi d 2).rows.length) && true) (cutR (tl_pilemake_Stream_Deeds_19 [.l (gi g21 0).rows, .i (gi g21 1).int, .l (gi d 2).rows, .l (mput [.str] (gi d 3).rows [.s (gi g2 2).str] [.i ((gi (mget [.str] (gi d 3).rows [.s (gi g2 2).str] [.i 0]) 0).int + 1)] (gi d 4).int.toNat), .i (((mclk [.str] (gi d 3).rows [.s (gi g2 2).str] (gi d 4).int.toNat) : Nat) : Int), .s (gi g2 2).str, .i (gi (mget [.str] (mput [.str] (gi d 3).rows [.s (gi g2 2).str] [.i ((gi (mget [.str] (gi d 3).rows [.s (gi g2 2).str] [.i 0]) 0).int + 1)] (gi d 4).int.toNat) [.s (gi g2 2).str] [.i 0]) 0).int, .i ((gi d 5).int + (gi g1 2).int), .i (gi g3 2).int, .i 0, .i 0, .s (⟨#[]⟩ : ByteArray), .s (⟨#[]⟩ : ByteArray), .i 0, .i 0, .s (⟨#[]⟩ : ByteArray), .s (⟨#[]⟩ : ByteArray), .s (gi g21 2).str, .s (⟨#[]⟩ : ByteArray), .i 0, .i ((gi d 5).int + (gi g1 2).int), .i (gi d 6).int, .i (gi d 7).int])) fun cg22 g22 => (bif (inI ((gi g22 7).int + 1)) then (bif ((Nat.beq (gi g22 2).rows.length (gi g22 2).rows.length) && true) then some (none, [.l (gi g22 0).rows, .i (gi g22 1).int, .l (gi g22 2).rows, .l (gi g22 3).rows, .i (((gi g22 4).int.toNat : Nat) : Int), .i (gi g22 5).int, .i (gi g22 6).int, .i ((gi g22 7).int + 1)]) else none) else none))) else (bif ((gi g3 2).int == 3) then (loopB ((Nat.beq (gi d 2).rows.length (gi d 2).rows.length) && true) (cutR (tl_pilemake_Stream_Deeds_18 [.l (gi g3 0).rows, .i (gi g3 1).int, .l (gi d 2).rows, .l (mput [.str] (gi d 3).rows [.s (gi g2 2).str] [.i ((gi (mget [.str] (gi d 3).rows [.s (gi g2 2).str] [.i 0]) 0).int + 1)] (gi d 4).int.toNat), .i (((mclk [.str] (gi d 3).rows [.s (gi g2 2).str] (gi d 4).int.toNat) : Nat) : Int), .s (gi g2 2).str, .i (gi (mget [.str] (mput [.str] (gi d 3).rows [.s (gi g2 2).str] [.i ((gi (mget [.str] (gi d 3).rows [.s (gi g2 2).str] [.i 0]) 0).int + 1)] (gi d 4).int.toNat) [.s (gi g2 2).str] [.i 0]) 0).int, .i ((gi d 5).int + (gi g1 2).int), .i (gi g3 2).int, .i 0, .i 0, .s (⟨#[]⟩ : ByteArray), .s (⟨#[]⟩ : ByteArray), .i 0, .i 0, .s (⟨#[]⟩ : ByteArray), .s (⟨#[]⟩ : ByteArray), .s (⟨#[]⟩ : ByteArray), .s (⟨#[]⟩ : ByteArray), .i 0, .i ((gi d 5).int + (gi g1 2).int), .i (gi d 6).int, .i (gi d 7).int, .t ((gi g3 2).int == 3)])) fun cg26 g26 => (loopB ((Nat.beq (gi g26 2).rows.length (gi g26 2).rows.length) && true) (cutR (tl_pilemake_Stream_Deeds_19 [.l (gi g26 0).rows, .i (gi g26 1).int, .l (gi g26 2).rows, .l (gi g26 3).rows, .i (((gi g26 4).int.toNat : Nat) : Int), .s (gi g26 5).str, .i (gi g26 6).int, .i (gi g26 7).int, .i (gi g26 8).int, .i (gi g26 9).int, .i (gi g26 10).int, .s (gi g26 11).str, .s (gi g26 12).str, .i (gi g26 13).int, .i (gi g26 14).int, .s (gi g26 15).str, .s (gi g26 16).str, .s (gi g26 17).str, .s (gi g26 18).str, .i (gi g26 19).int, .i (gi g26 20).int, .i (gi g26 21).int, .i (gi g26 22).int])) fun cg27 g27 => (bif (inI ((gi g27 7).int + 1)) then (bif ((Nat.beq (gi g27 2).rows.length (gi g27 2).rows.length) && true) then some (none, [.l (gi g27 0).rows, .i (gi g27 1).int, .l (gi g27 2).rows, .l (gi g27 3).rows, .i (((gi g27 4).int.toNat : Nat) : Int), .i (gi g27 5).int, .i (gi g27 6).int, .i ((gi g27 7).int + 1)]) else none) else none))) else (loopB ((Nat.beq (gi d 2).rows.length (gi d 2).rows.length) && true) (cutR (tl_pilemake_Stream_Deeds_18 [.l (gi g3 0).rows, .i (gi g3 1).int, .l (gi d 2).rows, .l (mput [.str] (gi d 3).rows [.s (gi g2 2).str] [.i ((gi (mget [.str] (gi d 3).rows [.s (gi g2 2).str] [.i 0]) 0).int + 1)] (gi d 4).int.toNat), .i (((mclk [.str] (gi d 3).rows [.s (gi g2 2).str] (gi d 4).int.toNat) : Nat) : Int), .s (gi g2 2).str, .i (gi (mget [.str] (mput [.str] (gi d 3).rows [.s (gi g2 2).str] [.i ((gi (mget [.str] (gi d 3).rows [.s (gi g2 2).str] [.i 0]) 0).int + 1)] (gi d 4).int.toNat) [.s (gi g2 2).str] [.i 0]) 0).int, .i ((gi d 5).int + (gi g1 2).int), .i (gi g3 2).int, .i 0, .i 0, .s (⟨#[]⟩ : ByteArray), .s (⟨#[]⟩ : ByteArray), .i 0, .i 0, .s (⟨#[]⟩ : ByteArray), .s (⟨#[]⟩ : ByteArray), .s (⟨#[]⟩ : ByteArray), .s (⟨#[]⟩ : ByteArray), .i 0, .i ((gi d 5).int + (gi g1 2).int), .i (gi d 6).int, .i (gi d 7).int, .t ((gi g3 2).int == 4)])) fun cg28 g28 => (loopB ((Nat.beq (gi g28 2).rows.length (gi g28 2).rows.length) && true) (cutR (tl_pilemake_Stream_Deeds_19 [.l (gi g28 0).rows, .i (gi g28 1).int, .l (gi g28 2).rows, .l (gi g28 3).rows, .i (((gi g28 4).int.toNat : Nat) : Int), .s (gi g28 5).str, .i (gi g28 6).int, .i (gi g28 7).int, .i (gi g28 8).int, .i (gi g28 9).int, .i (gi g28 10).int, .s (gi g28 11).str, .s (gi g28 12).str, .i (gi g28 13).int, .i (gi g28 14).int, .s (gi g28 15).str, .s (gi g28 16).str, .s (gi g28 17).str, .s (gi g28 18).str, .i (gi g28 19).int, .i (gi g28 20).int, .i (gi g28 21).int, .i (gi g28 22).int])) fun cg29 g29 => (bif (inI ((gi g29 7).int + 1)) then (bif ((Nat.beq (gi g29 2).rows.length (gi g29 2).rows.length) && true) then some (none, [.l (gi g29 0).rows, .i (gi g29 1).int, .l (gi g29 2).rows, .l (gi g29 3).rows, .i (((gi g29 4).int.toNat : Nat) : Int), .i (gi g29 5).int, .i (gi g29 6).int, .i ((gi g29 7).int + 1)]) else none) else none)))))) else none))) else none)) else (bif ((Nat.beq (gi d 2).rows.length (gi d 2).rows.length) && true) then some (some 0, [.l (gi d 0).rows, .i (gi d 1).int, .l (gi d 2).rows]) else none))
def l_pilemake_Stream_Deeds_5 : LSpec := ⟨5, [(5, KDeed)], ⟨115, [(0, .s (.ptr 0 0)), (5, .s (.vec 1 15)), (6, .s (.int .i64)), (7, .s (.map 2)), (10, .s (.int .i64)), (11, .s (.int .i64))], [.box [.list [.int .i64], .int .i64], .vec KDeed 0, .map (.one (.str)) (.one (.int .i64))]⟩, [.fix 0, .slot 5, .slot 7], [⟨.exit 0, ⟨115, [(5, .s (.vec 1 15))], [.box [.list [.int .i64], .int .i64], .vec KDeed 0]⟩, [.fix 0, .slot 5]⟩], st_pilemake_Stream_Deeds_5⟩
theorem r_pilemake_Stream_Deeds_5 : RoundOK P t24 L_pilemake_Stream_Deeds_18c 1 (loopAt Tryz.f10 5) l_pilemake_Stream_Deeds_5 := fun d => by kernel_rfl
def L_pilemake_Stream_Deeds_5 : LT := L_pilemake_Stream_Deeds_18c.add 1 l_pilemake_Stream_Deeds_5
theorem L_pilemake_Stream_Deeds_5_ok : LoopsOK P 1 L_pilemake_Stream_Deeds_5 (bodyOf Tryz.f10) := LoopsOK.add hm t24_ok (by kernel_rfl) L_pilemake_Stream_Deeds_18c_ok r_pilemake_Stream_Deeds_5
def F_pilemake_Stream_Deeds (d : List G) : Option (List G) :=
  (loopB true (LRun st_pilemake_Stream_Deeds_5 [.l (gi d 0).rows, .i (gi d 1).int, .l [], .l [], .i 0, .i 0, .i (gi d 2).int, .i 0]) fun cg30 g30 => (callB (((Nat.beq (gi g30 2).rows.length (gi g30 2).rows.length) && true) && (F_slices_SortStableFunc_Deed [.l (gi g30 2).rows]).isSome) (F_slices_SortStableFunc_Deed [.l (gi g30 2).rows]) fun g31 => (bif ((Nat.beq (gi g30 2).rows.length (gi g31 0).rows.length) && true) then some [.l (gi g30 0).rows, .i (gi g30 1).int, .l (gi g31 0).rows] else none)))
def s_pilemake_Stream_Deeds : FSpec := ⟨10, [.s (.ptr 0 0), .s (.int .i64)], [.box [.list [.int .i64], .int .i64]], [.slot 0], [.s (.list KDeed)], [.box [.list [.int .i64], .int .i64]], [.fix 0], [], F_pilemake_Stream_Deeds⟩
theorem b_pilemake_Stream_Deeds : BodyOK P t24 L_pilemake_Stream_Deeds_5 Tryz.f10 s_pilemake_Stream_Deeds := fun d => by kernel_rfl
theorem c_pilemake_Stream_Deeds : ∀ d r, F_pilemake_Stream_Deeds d = some r → ACallX P 10 (s_pilemake_Stream_Deeds.args0 d) (denH (s_pilemake_Stream_Deeds.H0 d)) (s_pilemake_Stream_Deeds.out r) (denH (s_pilemake_Stream_Deeds.H1 r)) := fun d r h => body_sound hm t24_ok (sp := s_pilemake_Stream_Deeds) Tryz.func10 (by kernel_rfl) L_pilemake_Stream_Deeds_5_ok b_pilemake_Stream_Deeds (by kernel_rfl) h
def t25 : Tab := t24.addW s_pilemake_Stream_Deeds
theorem t25_ok : TabOK P t25 := t24_ok.addW (by kernel_rfl) (by kernel_rfl) c_pilemake_Stream_Deeds

/- (*pileup/pilemake.Stream).DeedTime -/
def F_pilemake_Stream_DeedTime (d : List G) : Option (List G) :=
  (callF (F_pilemake_Stream_Pick [.l (gi d 0).rows, .i (gi d 1).int, .l [[.i 0], [.i 3], [.i 10], [.i 20], [.i 40], [.i 60], [.i 60], [.i (-1)]]]) fun g1 => some [.l (gi g1 0).rows, .i (gi g1 1).int, .i (gi g1 2).int])
def s_pilemake_Stream_DeedTime : FSpec := ⟨12, [.s (.ptr 0 0)], [.box [.list [.int .i64], .int .i64]], [.slot 0], [.s (.int .i64)], [.box [.list [.int .i64], .int .i64]], [.fix 0], [], F_pilemake_Stream_DeedTime⟩
theorem b_pilemake_Stream_DeedTime : BodyOK P t25 noLoops Tryz.f12 s_pilemake_Stream_DeedTime := fun d => by kernel_rfl
theorem c_pilemake_Stream_DeedTime : ∀ d r, F_pilemake_Stream_DeedTime d = some r → ACallX P 12 (s_pilemake_Stream_DeedTime.args0 d) (denH (s_pilemake_Stream_DeedTime.H0 d)) (s_pilemake_Stream_DeedTime.out r) (denH (s_pilemake_Stream_DeedTime.H1 r)) := fun d r h => body_sound hm t25_ok (sp := s_pilemake_Stream_DeedTime) Tryz.func12 (by kernel_rfl) (noLoops_ok _ _ _) b_pilemake_Stream_DeedTime (by kernel_rfl) h
def t26 : Tab := t25.addW s_pilemake_Stream_DeedTime
theorem t26_ok : TabOK P t26 := t25_ok.addW (by kernel_rfl) (by kernel_rfl) c_pilemake_Stream_DeedTime

/- slices.Clone[[]pileup/api.Deed,pileup/api.Deed] -/
def F_slices_Clone_Deed_f_0 (d : List G) : Option (List G) :=
  (bif (Nat.blt 0 (gi d 0).rows.length) then (bif (decide ((gi d 0).rows.length ≤ 1048576)) then (bif ((Nat.beq (gi d 0).rows.length (gi d 0).rows.length) && true) then some [.l (gi d 0).rows] else none) else none) else none)
def s_slices_Clone_Deed_f_0 : FSpec := ⟨14, [.s (.list KDeed)], [], [], [.s (.vec 0 15)], [.vec KDeed 0], [.slot 0], [], F_slices_Clone_Deed_f_0⟩
theorem b_slices_Clone_Deed_f_0 : BodyOK P t26 noLoops Tryz.f14 s_slices_Clone_Deed_f_0 := fun d => by kernel_rfl
theorem c_slices_Clone_Deed_f_0 : ∀ d r, F_slices_Clone_Deed_f_0 d = some r → ACallX P 14 (s_slices_Clone_Deed_f_0.args0 d) (denH (s_slices_Clone_Deed_f_0.H0 d)) (s_slices_Clone_Deed_f_0.out r) (denH (s_slices_Clone_Deed_f_0.H1 r)) := fun d r h => body_sound hm t26_ok (sp := s_slices_Clone_Deed_f_0) Tryz.func14 (by kernel_rfl) (noLoops_ok _ _ _) b_slices_Clone_Deed_f_0 (by kernel_rfl) h
def s_slices_Clone_Deed_fT : FSpec := { s_slices_Clone_Deed_f_0 with args := [.s (.emp true)], opens := [(2, KDeed)], F := fun _ => some [.l []] }
theorem b_slices_Clone_Deed_fT : BodyOK P t26 noLoops Tryz.f14 s_slices_Clone_Deed_fT := fun d => by kernel_rfl
theorem c_slices_Clone_Deed_fT : ∀ d r, s_slices_Clone_Deed_fT.F d = some r → ACallX P 14 (s_slices_Clone_Deed_fT.args0 d) (denH (s_slices_Clone_Deed_fT.H0 d)) (s_slices_Clone_Deed_fT.out r) (denH (s_slices_Clone_Deed_fT.H1 r)) := fun d r h => body_sound hm t26_ok (sp := s_slices_Clone_Deed_fT) Tryz.func14 (by kernel_rfl) (noLoops_ok _ _ _) b_slices_Clone_Deed_fT (by kernel_rfl) h
def s_slices_Clone_Deed_fF : FSpec := { s_slices_Clone_Deed_f_0 with args := [.s (.emp false)], opens := [(2, KDeed)], F := fun _ => some [.l []] }
theorem b_slices_Clone_Deed_fF : BodyOK P t26 noLoops Tryz.f14 s_slices_Clone_Deed_fF := fun d => by kernel_rfl
theorem c_slices_Clone_Deed_fF : ∀ d r, s_slices_Clone_Deed_fF.F d = some r → ACallX P 14 (s_slices_Clone_Deed_fF.args0 d) (denH (s_slices_Clone_Deed_fF.H0 d)) (s_slices_Clone_Deed_fF.out r) (denH (s_slices_Clone_Deed_fF.H1 r)) := fun d r h => body_sound hm t26_ok (sp := s_slices_Clone_Deed_fF) Tryz.func14 (by kernel_rfl) (noLoops_ok _ _ _) b_slices_Clone_Deed_fF (by kernel_rfl) h
def F_slices_Clone_Deed_f (d : List G) : Option (List G) := bif Nat.blt 0 (gi d 0).rows.length then F_slices_Clone_Deed_f_0 d else some [.l []]
def s_slices_Clone_Deed_f : FSpec := { s_slices_Clone_Deed_f_0 with F := F_slices_Clone_Deed_f }
theorem c_slices_Clone_Deed_f : ∀ d r, F_slices_Clone_Deed_f d = some r → ACallX P 14 (s_slices_Clone_Deed_f.args0 d) (denH (s_slices_Clone_Deed_f.H0 d)) (s_slices_Clone_Deed_f.out r) (denH (s_slices_Clone_Deed_f.H1 r)) := fun d r h => by
  unfold F_slices_Clone_Deed_f at h
  cases hb : Nat.blt 0 (gi d 0).rows.length with
  | true => rw [hb] at h; exact c_slices_Clone_Deed_f_0 d r h
  | false =>
    rw [hb] at h
    cases h
    have e : (d.headD default).rows = [] := by
      have : ¬ 0 < (gi d 0).rows.length := fun hh => by
        have h2 : Nat.blt 0 (gi d 0).rows.length = true := by rw [Nat.blt_eq]; exact hh
        rw [h2] at hb
        cases hb
      exact List.eq_nil_of_length_eq_zero (Nat.eq_zero_of_not_pos this)
    have ha : s_slices_Clone_Deed_f.args0 d = [.listF KDeed []] := by
      rw [← e]
      rfl
    rw [ha]
    exact acall_empty (c_slices_Clone_Deed_fT d [.l []] rfl) (c_slices_Clone_Deed_fF d [.l []] rfl)
def t27 : Tab := t26.addW s_slices_Clone_Deed_f
theorem t27_ok : TabOK P t27 := t26_ok.addW (by kernel_rfl) (by kernel_rfl) c_slices_Clone_Deed_f

/- pileup/pileref2.in -/
def F_pileref2_in (d : List G) : Option (List G) :=
  (bif (leI (gi d 1).int (gi d 0).int) then some [.t (leI (gi d 0).int (gi d 2).int)] else some [.t false])
def s_pileref2_in : FSpec := ⟨95, [.s (.int .i64), .s (.int .i64), .s (.int .i64)], [], [], [.s (.bool)], [], [], [], F_pileref2_in⟩
theorem b_pileref2_in : BodyOK P t27 noLoops Tryz.f95 s_pileref2_in := fun d => by kernel_rfl
theorem c_pileref2_in : ∀ d r, F_pileref2_in d = some r → ACallX P 95 (s_pileref2_in.args0 d) (denH (s_pileref2_in.H0 d)) (s_pileref2_in.out r) (denH (s_pileref2_in.H1 r)) := fun d r h => body_sound hm t27_ok (sp := s_pileref2_in) Tryz.func95 (by kernel_rfl) (noLoops_ok _ _ _) b_pileref2_in (by kernel_rfl) h
def t28 : Tab := t27.addP s_pileref2_in
theorem t28_ok : TabOK P t28 := t27_ok.addP (by kernel_rfl) (by kernel_rfl) c_pileref2_in

/- pileup/pileref2.only -/
def st_pileref2_only_2 (d : List G) : Option (Option Nat × List G) :=
  (bif (ltI (gi d 3).int (gi d 2).int) then (bif ((nnI (gi d 3).int) && (ltI (gi d 3).int (((gi d 0).str.size : Nat) : Int))) then (callF (F_strings_IndexByte [.s (gi d 1).str, .i (((gi d 0).str.data.toList.getD (((gi d 3).int).toNat) 0).toNat : Int)]) fun g1 => (bif (ltI (gi g1 0).int 0) then some (some 0, [.t false]) else (bif (inI ((gi d 3).int + 1)) then some (none, [.s (gi d 0).str, .s (gi d 1).str, .i (gi d 2).int, .i ((gi d 3).int + 1)]) else none))) else none) else some (some 1, []))
def l_pileref2_only_2 : LSpec := ⟨2, [], ⟨18, [(0, .s (.str)), (1, .s (.str)), (7, .s (.int .i64)), (8, .s (.int .i64))], []⟩, [], [⟨.ret, ⟨18, [(4, .s (.bool))], []⟩, []⟩, ⟨.exit 0, ⟨18, [], []⟩, []⟩], st_pileref2_only_2⟩
theorem r_pileref2_only_2 : RoundOK P t28 noLoops 0 (loopAt Tryz.f148 2) l_pileref2_only_2 := fun d => by kernel_rfl
def L_pileref2_only_2 : LT := noLoops.add 0 l_pileref2_only_2
theorem L_pileref2_only_2_ok : LoopsOK P 0 L_pileref2_only_2 (bodyOf Tryz.f148) := LoopsOK.add hm t28_ok (by kernel_rfl) (noLoops_ok _ _ _) r_pileref2_only_2
def F_pileref2_only (d : List G) : Option (List G) :=
  (loopB true (LRun st_pileref2_only_2 [.s (gi d 0).str, .s (gi d 1).str, .i (((gi d 0).str.size : Nat) : Int), .i 0]) fun cg2 g2 => (bif Nat.beq cg2 0 then some [.t (gi g2 0).bool] else some [.t true]))
def s_pileref2_only : FSpec := ⟨148, [.s (.str), .s (.str)], [], [], [.s (.bool)], [], [], [], F_pileref2_only⟩
theorem b_pileref2_only : BodyOK P t28 L_pileref2_only_2 Tryz.f148 s_pileref2_only := fun d => by kernel_rfl
theorem c_pileref2_only : ∀ d r, F_pileref2_only d = some r → ACallX P 148 (s_pileref2_only.args0 d) (denH (s_pileref2_only.H0 d)) (s_pileref2_only.out r) (denH (s_pileref2_only.H1 r)) := fun d r h => body_sound hm t28_ok (sp := s_pileref2_only) Tryz.func148 (by kernel_rfl) L_pileref2_only_2_ok b_pileref2_only (by kernel_rfl) h
def t29 : Tab := t28.addP s_pileref2_only
theorem t29_ok : TabOK P t29 := t28_ok.addP (by kernel_rfl) (by kernel_rfl) c_pileref2_only

/- pileup/pileref2.Key -/
def F_pileref2_Key (d : List G) : Option (List G) :=
  (callF (F_pileref2_in [.i (((gi d 0).str.size : Nat) : Int), .i 1, .i 40]) fun g1 => (bif (gi g1 0).bool then (bif (leI 1 (((gi d 0).str.size : Nat) : Int)) then (callF (F_pileref2_only [.s ((gi d 0).str.extract 0 1), .s (⟨#[97, 98, 99, 100, 101, 102, 103, 104, 105, 106, 107, 108, 109, 110, 111, 112, 113, 114, 115, 116, 117, 118, 119, 120, 121, 122]⟩ : ByteArray)]) fun g2 => (bif (gi g2 0).bool then (callF (F_pileref2_only [.s (gi d 0).str, .s (⟨#[97, 98, 99, 100, 101, 102, 103, 104, 105, 106, 107, 108, 109, 110, 111, 112, 113, 114, 115, 116, 117, 118, 119, 120, 121, 122, 48, 49, 50, 51, 52, 53, 54, 55, 56, 57, 45, 95]⟩ : ByteArray)]) fun g3 => some [.t (gi g3 0).bool]) else some [.t false])) else none) else some [.t false]))
def s_pileref2_Key : FSpec := ⟨96, [.s (.str)], [], [], [.s (.bool)], [], [], [], F_pileref2_Key⟩
theorem b_pileref2_Key : BodyOK P t29 noLoops Tryz.f96 s_pileref2_Key := fun d => by kernel_rfl
theorem c_pileref2_Key : ∀ d r, F_pileref2_Key d = some r → ACallX P 96 (s_pileref2_Key.args0 d) (denH (s_pileref2_Key.H0 d)) (s_pileref2_Key.out r) (denH (s_pileref2_Key.H1 r)) := fun d r h => body_sound hm t29_ok (sp := s_pileref2_Key) Tryz.func96 (by kernel_rfl) (noLoops_ok _ _ _) b_pileref2_Key (by kernel_rfl) h
def t30 : Tab := t29.addP s_pileref2_Key
theorem t30_ok : TabOK P t30 := t29_ok.addP (by kernel_rfl) (by kernel_rfl) c_pileref2_Key

/- pileup/pileref2.Moment -/
def F_pileref2_Moment (d : List G) : Option (List G) :=
  (callF (F_pileref2_in [.i (gi d 0).int, .i 0, .i 345686399999]) fun g1 => some [.t (gi g1 0).bool])
def s_pileref2_Moment : FSpec := ⟨83, [.s (.int .i64)], [], [], [.s (.bool)], [], [], [], F_pileref2_Moment⟩
theorem b_pileref2_Moment : BodyOK P t30 noLoops Tryz.f83 s_pileref2_Moment := fun d => by kernel_rfl
theorem c_pileref2_Moment : ∀ d r, F_pileref2_Moment d = some r → ACallX P 83 (s_pileref2_Moment.args0 d) (denH (s_pileref2_Moment.H0 d)) (s_pileref2_Moment.out r) (denH (s_pileref2_Moment.H1 r)) := fun d r h => body_sound hm t30_ok (sp := s_pileref2_Moment) Tryz.func83 (by kernel_rfl) (noLoops_ok _ _ _) b_pileref2_Moment (by kernel_rfl) h
def t31 : Tab := t30.addP s_pileref2_Moment
theorem t31_ok : TabOK P t31 := t30_ok.addP (by kernel_rfl) (by kernel_rfl) c_pileref2_Moment

/- pileup/pileref2.Call -/
def F_pileref2_Call (d : List G) : Option (List G) :=
  (callF (F_pileref1_PartsOf [.s (gi d 0).str]) fun g1 => some [.t (gi g1 1).bool])
def s_pileref2_Call : FSpec := ⟨97, [.s (.str)], [], [], [.s (.bool)], [], [], [], F_pileref2_Call⟩
theorem b_pileref2_Call : BodyOK P t31 noLoops Tryz.f97 s_pileref2_Call := fun d => by kernel_rfl
theorem c_pileref2_Call : ∀ d r, F_pileref2_Call d = some r → ACallX P 97 (s_pileref2_Call.args0 d) (denH (s_pileref2_Call.H0 d)) (s_pileref2_Call.out r) (denH (s_pileref2_Call.H1 r)) := fun d r h => body_sound hm t31_ok (sp := s_pileref2_Call) Tryz.func97 (by kernel_rfl) (noLoops_ok _ _ _) b_pileref2_Call (by kernel_rfl) h
def t32 : Tab := t31.addP s_pileref2_Call
theorem t32_ok : TabOK P t32 := t31_ok.addP (by kernel_rfl) (by kernel_rfl) c_pileref2_Call

/- pileup/pileref2.ContactFault -/
def F_pileref2_ContactFault (d : List G) : Option (List G) :=
  (callF (F_pileref2_Moment [.i (gi (gi d 0).row 0).int]) fun g1 => (bif (!(gi g1 0).bool) then some [.i 1] else (callF (F_pileref2_in [.i (gi (gi d 0).row 1).int, .i 1, .i 3]) fun g2 => (bif (!(gi g2 0).bool) then some [.i 4] else (callF (F_pileref2_Key [.s (gi (gi d 0).row 2).str]) fun g3 => (bif (!(gi g3 0).bool) then some [.i 5] else (callF (F_pileref2_Call [.s (gi (gi d 0).row 3).str]) fun g4 => (bif (!(gi g4 0).bool) then some [.i 3] else (callF (F_pileref2_in [.i (gi (gi d 0).row 4).int, .i 0, .i 99999]) fun g5 => (bif (!(gi g5 0).bool) then some [.i 1] else (callF (F_pileref2_in [.i (gi (gi d 0).row 5).int, .i 0, .i 99999]) fun g6 => (bif (!(gi g6 0).bool) then some [.i 1] else (bif (!((gi (gi d 0).row 6).str.toList == (⟨#[]⟩ : ByteArray).toList)) then (callF (F_pileref2_Key [.s (gi (gi d 0).row 6).str]) fun g7 => (bif (!(gi g7 0).bool) then some [.i 5] else (bif (!((gi (gi d 0).row 7).str.toList == (⟨#[]⟩ : ByteArray).toList)) then (callF (F_pileref2_Key [.s (gi (gi d 0).row 7).str]) fun g8 => (bif (!(gi g8 0).bool) then some [.i 5] else some [.i 0])) else some [.i 0]))) else (bif (!((gi (gi d 0).row 7).str.toList == (⟨#[]⟩ : ByteArray).toList)) then (callF (F_pileref2_Key [.s (gi (gi d 0).row 7).str]) fun g9 => (bif (!(gi g9 0).bool) then some [.i 5] else some [.i 0])) else some [.i 0]))))))))))))))
def s_pileref2_ContactFault : FSpec := ⟨34, [.s (.row KContact)], [], [], [.s (.int .i64)], [], [], [], F_pileref2_ContactFault⟩
theorem b_pileref2_ContactFault : BodyOK P t32 noLoops Tryz.f34 s_pileref2_ContactFault := fun d => by kernel_rfl
theorem c_pileref2_ContactFault : ∀ d r, F_pileref2_ContactFault d = some r → ACallX P 34 (s_pileref2_ContactFault.args0 d) (denH (s_pileref2_ContactFault.H0 d)) (s_pileref2_ContactFault.out r) (denH (s_pileref2_ContactFault.H1 r)) := fun d r h => body_sound hm t32_ok (sp := s_pileref2_ContactFault) Tryz.func34 (by kernel_rfl) (noLoops_ok _ _ _) b_pileref2_ContactFault (by kernel_rfl) h
def t33 : Tab := t32.addP s_pileref2_ContactFault
theorem t33_ok : TabOK P t33 := t32_ok.addP (by kernel_rfl) (by kernel_rfl) c_pileref2_ContactFault

/- pileup/pileref2.DeedFault -/
def F_pileref2_DeedFault (d : List G) : Option (List G) :=
  (callF (F_pileref2_Key [.s (gi (gi d 0).row 0).str]) fun g1 => (bif (!(gi g1 0).bool) then some [.i 5] else (callF (F_pileref2_in [.i (gi (gi d 0).row 1).int, .i 1, .i 1000000]) fun g2 => (bif (!(gi g2 0).bool) then some [.i 1] else (callF (F_pileref2_Moment [.i (gi (gi d 0).row 2).int]) fun g3 => (bif (!(gi g3 0).bool) then some [.i 1] else (callF (F_pileref2_in [.i (gi (gi d 0).row 3).int, .i 1, .i 5]) fun g4 => (bif (!(gi g4 0).bool) then some [.i 4] else (bif ((gi (gi d 0).row 3).int == 1) then (callF (F_pileref2_ContactFault [.l [[.i (gi (gi d 0).row 4).int, .i (gi (gi d 0).row 5).int, .s (gi (gi d 0).row 6).str, .s (gi (gi d 0).row 7).str, .i (gi (gi d 0).row 8).int, .i (gi (gi d 0).row 9).int, .s (gi (gi d 0).row 10).str, .s (gi (gi d 0).row 11).str]]]) fun g5 => (bif ((gi g5 0).int != 0) then some [.i (gi g5 0).int] else (bif (ltI (gi (gi d 0).row 2).int (gi (gi d 0).row 4).int) then some [.i 1] else (bif (!(rowEq KDeed (gEta KDeed (gi d 0).row) [.s (gi (gi d 0).row 0).str, .i (gi (gi d 0).row 1).int, .i (gi (gi d 0).row 2).int, .i (gi (gi d 0).row 3).int, .i (gi (gi d 0).row 4).int, .i (gi (gi d 0).row 5).int, .s (gi (gi d 0).row 6).str, .s (gi (gi d 0).row 7).str, .i (gi (gi d 0).row 8).int, .i (gi (gi d 0).row 9).int, .s (gi (gi d 0).row 10).str, .s (gi (gi d 0).row 11).str, .s (⟨#[]⟩ : ByteArray), .s (⟨#[]⟩ : ByteArray), .i 0])) then some [.i 3] else some [.i 0])))) else (bif ((gi (gi d 0).row 3).int == 2) then (callF (F_pileref2_Key [.s (gi (gi d 0).row 12).str]) fun g6 => (bif (!(gi g6 0).bool) then some [.i 5] else (bif (!(rowEq KDeed (gEta KDeed (gi d 0).row) [.s (gi (gi d 0).row 0).str, .i (gi (gi d 0).row 1).int, .i (gi (gi d 0).row 2).int, .i (gi (gi d 0).row 3).int, .i 0, .i 0, .s (⟨#[]⟩ : ByteArray), .s (⟨#[]⟩ : ByteArray), .i 0, .i 0, .s (⟨#[]⟩ : ByteArray), .s (⟨#[]⟩ : ByteArray), .s (gi (gi d 0).row 12).str, .s (⟨#[]⟩ : ByteArray), .i 0])) then some [.i 3] else some [.i 0]))) else (bif ((gi (gi d 0).row 3).int == 5) then (callF (F_pileref2_Key [.s (gi (gi d 0).row 13).str]) fun g7 => (bif (!(gi g7 0).bool) then some [.i 5] else (callF (F_pileref2_in [.i (gi (gi d 0).row 14).int, .i 1, .i 1000000]) fun g8 => (bif (!(gi g8 0).bool) then some [.i 1] else (bif (!(rowEq KDeed (gEta KDeed (gi d 0).row) [.s (gi (gi d 0).row 0).str, .i (gi (gi d 0).row 1).int, .i (gi (gi d 0).row 2).int, .i (gi (gi d 0).row 3).int, .i 0, .i 0, .s (⟨#[]⟩ : ByteArray), .s (⟨#[]⟩ : ByteArray), .i 0, .i 0, .s (⟨#[]⟩ : ByteArray), .s (⟨#[]⟩ : ByteArray), .s (⟨#[]⟩ : ByteArray), .s (gi (gi d 0).row 13).str, .i (gi (gi d 0).row 14).int])) then some [.i 3] else some [.i 0]))))) else (callF (F_pileref2_in [.i (gi (gi d 0).row 8).int, .i 1, .i 99999]) fun g9 => (bif (!(gi g9 0).bool) then some [.i 1] else (bif (!(rowEq KDeed (gEta KDeed (gi d 0).row) [.s (gi (gi d 0).row 0).str, .i (gi (gi d 0).row 1).int, .i (gi (gi d 0).row 2).int, .i (gi (gi d 0).row 3).int, .i 0, .i 0, .s (⟨#[]⟩ : ByteArray), .s (⟨#[]⟩ : ByteArray), .i (gi (gi d 0).row 8).int, .i 0, .s (⟨#[]⟩ : ByteArray), .s (⟨#[]⟩ : ByteArray), .s (⟨#[]⟩ : ByteArray), .s (⟨#[]⟩ : ByteArray), .i 0])) then some [.i 3] else some [.i 0]))))))))))))))
def s_pileref2_DeedFault : FSpec := ⟨74, [.s (.row KDeed)], [], [], [.s (.int .i64)], [], [], [], F_pileref2_DeedFault⟩
theorem b_pileref2_DeedFault : BodyOK P t33 noLoops Tryz.f74 s_pileref2_DeedFault := fun d => by kernel_rfl
theorem c_pileref2_DeedFault : ∀ d r, F_pileref2_DeedFault d = some r → ACallX P 74 (s_pileref2_DeedFault.args0 d) (denH (s_pileref2_DeedFault.H0 d)) (s_pileref2_DeedFault.out r) (denH (s_pileref2_DeedFault.H1 r)) := fun d r h => body_sound hm t33_ok (sp := s_pileref2_DeedFault) Tryz.func74 (by kernel_rfl) (noLoops_ok _ _ _) b_pileref2_DeedFault (by kernel_rfl) h
def t34 : Tab := t33.addP s_pileref2_DeedFault
theorem t34_ok : TabOK P t34 := t33_ok.addP (by kernel_rfl) (by kernel_rfl) c_pileref2_DeedFault

/- pileup/pileref2.sameNo -/
def F_pileref2_sameNo (d : List G) : Option (List G) :=
  (bif ((gi (gi d 0).row 0).str.toList == (gi (gi d 1).row 0).str.toList) then some [.t ((gi (gi d 0).row 1).int == (gi (gi d 1).row 1).int)] else some [.t false])
def s_pileref2_sameNo : FSpec := ⟨77, [.s (.row KDeed), .s (.row KDeed)], [], [], [.s (.bool)], [], [], [], F_pileref2_sameNo⟩
theorem b_pileref2_sameNo : BodyOK P t34 noLoops Tryz.f77 s_pileref2_sameNo := fun d => by kernel_rfl
theorem c_pileref2_sameNo : ∀ d r, F_pileref2_sameNo d = some r → ACallX P 77 (s_pileref2_sameNo.args0 d) (denH (s_pileref2_sameNo.H0 d)) (s_pileref2_sameNo.out r) (denH (s_pileref2_sameNo.H1 r)) := fun d r h => body_sound hm t34_ok (sp := s_pileref2_sameNo) Tryz.func77 (by kernel_rfl) (noLoops_ok _ _ _) b_pileref2_sameNo (by kernel_rfl) h
def t35 : Tab := t34.addP s_pileref2_sameNo
theorem t35_ok : TabOK P t35 := t34_ok.addP (by kernel_rfl) (by kernel_rfl) c_pileref2_sameNo

/- pileup/pileref2.DeedsFault$1 -/
def F_pileref2_DeedsFault_1 (d : List G) : Option (List G) :=
  (callF (F_pileref2_sameNo [.l [(gEta KDeed (gi d 0).row)], .l [(gEta KDeed (gi d 1).row)]]) fun g1 => some [.t (gi g1 0).bool])
def s_pileref2_DeedsFault_1 : FSpec := ⟨76, [.s (.row KDeed), .s (.cptr KDeed)], [], [], [.s (.bool)], [], [], [], F_pileref2_DeedsFault_1⟩
theorem b_pileref2_DeedsFault_1 : BodyOK P t35 noLoops Tryz.f76 s_pileref2_DeedsFault_1 := fun d => by kernel_rfl
theorem c_pileref2_DeedsFault_1 : ∀ d r, F_pileref2_DeedsFault_1 d = some r → ACallX P 76 (s_pileref2_DeedsFault_1.args0 d) (denH (s_pileref2_DeedsFault_1.H0 d)) (s_pileref2_DeedsFault_1.out r) (denH (s_pileref2_DeedsFault_1.H1 r)) := fun d r h => body_sound hm t35_ok (sp := s_pileref2_DeedsFault_1) Tryz.func76 (by kernel_rfl) (noLoops_ok _ _ _) b_pileref2_DeedsFault_1 (by kernel_rfl) h
def t36 : Tab := t35.addP s_pileref2_DeedsFault_1
theorem t36_ok : TabOK P t36 := t35_ok.addP (by kernel_rfl) (by kernel_rfl) c_pileref2_DeedsFault_1

/- slices.IndexFunc[[]pileup/api.Deed,pileup/api.Deed] -/
def st_slices_IndexFunc_Deed_2 (d : List G) : Option (Option Nat × List G) :=
  (bif (ltI (gi d 3).int (gi d 2).int) then (bif ((nnI (gi d 3).int) && (ltI (gi d 3).int (((gi d 0).rows.length : Nat) : Int))) then (callF (F_pileref2_DeedsFault_1 [.l [(gEta KDeed ((gi d 0).rows.getD (((gi d 3).int).toNat) []))], .l [(gEta KDeed (gi d 1).row)]]) fun g1 => (bif (gi g1 0).bool then some (some 0, [.i (gi d 3).int]) else (bif (inI ((gi d 3).int + 1)) then some (none, [.l (gi d 0).rows, .l [(gEta KDeed (gi d 1).row)], .i (gi d 2).int, .i ((gi d 3).int + 1)]) else none))) else none) else some (some 1, []))
def l_slices_IndexFunc_Deed_2 : LSpec := ⟨2, [], ⟨19, [(0, .s (.list KDeed)), (1, .clo 76 [.cptr KDeed]), (7, .s (.int .i64)), (8, .s (.int .i64))], []⟩, [], [⟨.ret, ⟨19, [(4, .s (.int .i64))], []⟩, []⟩, ⟨.exit 0, ⟨19, [], []⟩, []⟩], st_slices_IndexFunc_Deed_2⟩
theorem r_slices_IndexFunc_Deed_2 : RoundOK P t36 noLoops 0 (loopAt Tryz.f84 2) l_slices_IndexFunc_Deed_2 := fun d => by kernel_rfl
def L_slices_IndexFunc_Deed_2 : LT := noLoops.add 0 l_slices_IndexFunc_Deed_2
theorem L_slices_IndexFunc_Deed_2_ok : LoopsOK P 0 L_slices_IndexFunc_Deed_2 (bodyOf Tryz.f84) := LoopsOK.add hm t36_ok (by kernel_rfl) (noLoops_ok _ _ _) r_slices_IndexFunc_Deed_2
def F_slices_IndexFunc_Deed (d : List G) : Option (List G) :=
  (loopB true (LRun st_slices_IndexFunc_Deed_2 [.l (gi d 0).rows, .l [(gEta KDeed (gi d 1).row)], .i (((gi d 0).rows.length : Nat) : Int), .i 0]) fun cg2 g2 => (bif Nat.beq cg2 0 then some [.i (gi g2 0).int] else some [.i (-1)]))
def s_slices_IndexFunc_Deed : FSpec := ⟨84, [.s (.list KDeed), .clo 76 [.cptr KDeed]], [], [], [.s (.int .i64)], [], [], [], F_slices_IndexFunc_Deed⟩
theorem b_slices_IndexFunc_Deed : BodyOK P t36 L_slices_IndexFunc_Deed_2 Tryz.f84 s_slices_IndexFunc_Deed := fun d => by kernel_rfl
theorem c_slices_IndexFunc_Deed : ∀ d r, F_slices_IndexFunc_Deed d = some r → ACallX P 84 (s_slices_IndexFunc_Deed.args0 d) (denH (s_slices_IndexFunc_Deed.H0 d)) (s_slices_IndexFunc_Deed.out r) (denH (s_slices_IndexFunc_Deed.H1 r)) := fun d r h => body_sound hm t36_ok (sp := s_slices_IndexFunc_Deed) Tryz.func84 (by kernel_rfl) L_slices_IndexFunc_Deed_2_ok b_slices_IndexFunc_Deed (by kernel_rfl) h
def t37 : Tab := t36.addP s_slices_IndexFunc_Deed
theorem t37_ok : TabOK P t37 := t36_ok.addP (by kernel_rfl) (by kernel_rfl) c_slices_IndexFunc_Deed

/- slices.ContainsFunc[[]pileup/api.Deed,pileup/api.Deed] -/
def F_slices_ContainsFunc_Deed (d : List G) : Option (List G) :=
  (callF (F_slices_IndexFunc_Deed [.l (gi d 0).rows, .l [(gEta KDeed (gi d 1).row)]]) fun g1 => some [.t (leI 0 (gi g1 0).int)])
def s_slices_ContainsFunc_Deed : FSpec := ⟨75, [.s (.list KDeed), .clo 76 [.cptr KDeed]], [], [], [.s (.bool)], [], [], [], F_slices_ContainsFunc_Deed⟩
theorem b_slices_ContainsFunc_Deed : BodyOK P t37 noLoops Tryz.f75 s_slices_ContainsFunc_Deed := fun d => by kernel_rfl
theorem c_slices_ContainsFunc_Deed : ∀ d r, F_slices_ContainsFunc_Deed d = some r → ACallX P 75 (s_slices_ContainsFunc_Deed.args0 d) (denH (s_slices_ContainsFunc_Deed.H0 d)) (s_slices_ContainsFunc_Deed.out r) (denH (s_slices_ContainsFunc_Deed.H1 r)) := fun d r h => body_sound hm t37_ok (sp := s_slices_ContainsFunc_Deed) Tryz.func75 (by kernel_rfl) (noLoops_ok _ _ _) b_slices_ContainsFunc_Deed (by kernel_rfl) h
def t38 : Tab := t37.addP s_slices_ContainsFunc_Deed
theorem t38_ok : TabOK P t38 := t37_ok.addP (by kernel_rfl) (by kernel_rfl) c_slices_ContainsFunc_Deed

/- pileup/pileref2.DeedsFault -/
def st_pileref2_DeedsFault_4 (d : List G) : Option (Option Nat × List G) :=
  (bif (ltI (gi d 3).int (gi d 2).int) then (bif ((nnI (gi d 3).int) && (ltI (gi d 3).int (((gi d 1).rows.length : Nat) : Int))) then (callF (F_pileref2_DeedFault [.l [(gEta KDeed ((gi d 1).rows.getD (((gi d 3).int).toNat) []))]]) fun g1 => (bif ((gi g1 0).int != 0) then some (some 0, [.i (gi g1 0).int]) else (bif (ltI 0 (gi d 3).int) then (bif (inI ((gi d 3).int - 1)) then (bif ((nnI ((gi d 3).int - 1)) && (ltI ((gi d 3).int - 1) (((gi d 0).rows.length : Nat) : Int))) then (callF (F_pileref2_DeedOrder [.l [(gEta KDeed ((gi d 0).rows.getD (((gi d 3).int - 1).toNat) []))], .l [(gEta KDeed ((gi d 1).rows.getD (((gi d 3).int).toNat) []))]]) fun g2 => (bif (leI 0 (gi g2 0).int) then some (some 0, [.i 7]) else (bif (inI ((gi d 3).int + 1)) then some (none, [.l (gi d 0).rows, .l (gi d 1).rows, .i (gi d 2).int, .i ((gi d 3).int + 1)]) else none))) else none) else none) else (bif (inI ((gi d 3).int + 1)) then some (none, [.l (gi d 0).rows, .l (gi d 1).rows, .i (gi d 2).int, .i ((gi d 3).int + 1)]) else none)))) else none) else some (some 1, [.l (gi d 0).rows]))
def l_pileref2_DeedsFault_4 : LSpec := ⟨4, [], ⟨49, [(0, .s (.list KDeed)), (11, .s (.list KDeed)), (12, .s (.int .i64)), (13, .s (.int .i64))], []⟩, [], [⟨.ret, ⟨49, [(2, .s (.int .i64))], []⟩, []⟩, ⟨.exit 0, ⟨49, [(0, .s (.list KDeed))], []⟩, []⟩], st_pileref2_DeedsFault_4⟩
theorem r_pileref2_DeedsFault_4 : RoundOK P (t38.lessPf [75]) noLoops 0 (loopAt Tryz.f16 4) l_pileref2_DeedsFault_4 := fun d => by kernel_rfl
def L_pileref2_DeedsFault_4 : LT := noLoops.add 0 l_pileref2_DeedsFault_4
theorem L_pileref2_DeedsFault_4_ok : LoopsOK P 0 L_pileref2_DeedsFault_4 (bodyOf Tryz.f16) := LoopsOK.add hm (t38_ok.lessPf [75]) (by kernel_rfl) (noLoops_ok _ _ _) r_pileref2_DeedsFault_4
def st_pileref2_DeedsFault_13 (d : List G) : Option (Option Nat × List G) :=
  (bif (ltI (gi d 3).int (gi d 2).int) then (bif ((nnI (gi d 3).int) && (ltI (gi d 3).int (((gi d 1).rows.length : Nat) : Int))) then (bif ((nnI (gi d 3).int) && (leI (gi d 3).int (((gi d 0).rows.length : Nat) : Int))) then (callF (F_slices_ContainsFunc_Deed [.l ((gi d 0).rows.take (((gi d 3).int).toNat)), .l [(gEta KDeed ((gi d 1).rows.getD (((gi d 3).int).toNat) []))]]) fun g4 => (bif (gi g4 0).bool then some (some 0, [.i 6]) else (bif (inI ((gi d 3).int + 1)) then some (none, [.l (gi d 0).rows, .l (gi d 1).rows, .i (gi d 2).int, .i ((gi d 3).int + 1)]) else none))) else none) else none) else some (some 1, []))
def l_pileref2_DeedsFault_13 : LSpec := ⟨13, [], ⟨49, [(0, .s (.list KDeed)), (36, .s (.list KDeed)), (37, .s (.int .i64)), (38, .s (.int .i64))], []⟩, [], [⟨.ret, ⟨49, [(2, .s (.int .i64))], []⟩, []⟩, ⟨.exit 2, ⟨49, [], []⟩, []⟩], st_pileref2_DeedsFault_13⟩
theorem r_pileref2_DeedsFault_13 : RoundOK P (t38.lessPf [75]) L_pileref2_DeedsFault_4 0 (loopAt Tryz.f16 13) l_pileref2_DeedsFault_13 := fun d => by kernel_rfl
def L_pileref2_DeedsFault_13 : LT := L_pileref2_DeedsFault_4.add 0 l_pileref2_DeedsFault_13
theorem L_pileref2_DeedsFault_13_ok : LoopsOK P 0 L_pileref2_DeedsFault_13 (bodyOf Tryz.f16) := LoopsOK.add hm (t38_ok.lessPf [75]) (by kernel_rfl) L_pileref2_DeedsFault_4_ok r_pileref2_DeedsFault_13
def F_pileref2_DeedsFault (d : List G) : Option (List G) :=
  (bif (ltI 2000 (((gi d 0).rows.length : Nat) : Int)) then some [.i 2] else (loopB true (LRun st_pileref2_DeedsFault_4 [.l (gi d 0).rows, .l (gi d 0).rows, .i (((gi d 0).rows.length : Nat) : Int), .i 0]) fun cg3 g3 => (bif Nat.beq cg3 0 then some [.i (gi g3 0).int] else (loopB true (LRun st_pileref2_DeedsFault_13 [.l (gi g3 0).rows, .l (gi g3 0).rows, .i (((gi g3 0).rows.length : Nat) : Int), .i 0]) fun cg5 g5 => (bif Nat.beq cg5 0 then some [.i (gi g5 0).int] else some [.i 0])))))
def s_pileref2_DeedsFault : FSpec := ⟨16, [.s (.list KDeed)], [], [], [.s (.int .i64)], [], [], [], F_pileref2_DeedsFault⟩
theorem b_pileref2_DeedsFault : BodyOK P (t38.lessPf [75]) L_pileref2_DeedsFault_13 Tryz.f16 s_pileref2_DeedsFault := fun d => by kernel_rfl
theorem c_pileref2_DeedsFault : ∀ d r, F_pileref2_DeedsFault d = some r → ACallX P 16 (s_pileref2_DeedsFault.args0 d) (denH (s_pileref2_DeedsFault.H0 d)) (s_pileref2_DeedsFault.out r) (denH (s_pileref2_DeedsFault.H1 r)) := fun d r h => body_sound hm (t38_ok.lessPf [75]) (sp := s_pileref2_DeedsFault) Tryz.func16 (by kernel_rfl) L_pileref2_DeedsFault_13_ok b_pileref2_DeedsFault (by kernel_rfl) h
def t39 : Tab := t38.addP s_pileref2_DeedsFault
theorem t39_ok : TabOK P t39 := t38_ok.addP (by kernel_rfl) (by kernel_rfl) c_pileref2_DeedsFault

/- pileup/kit.IsKey -/
def F_kit_IsKey (d : List G) : Option (List G) :=
  (bif (!((gi d 0).str.toList == (⟨#[]⟩ : ByteArray).toList)) then (bif (leI (((gi d 0).str.size : Nat) : Int) 40) then (bif (ltI 0 (((gi d 0).str.size : Nat) : Int)) then (callF (F_strings_IndexByte [.s (⟨#[97, 98, 99, 100, 101, 102, 103, 104, 105, 106, 107, 108, 109, 110, 111, 112, 113, 114, 115, 116, 117, 118, 119, 120, 121, 122]⟩ : ByteArray), .i (((gi d 0).str.data.toList.getD 0 0).toNat : Int)]) fun g1 => (bif (leI 0 (gi g1 0).int) then (callF (F_strings_Trim [.s (gi d 0).str, .s (⟨#[97, 98, 99, 100, 101, 102, 103, 104, 105, 106, 107, 108, 109, 110, 111, 112, 113, 114, 115, 116, 117, 118, 119, 120, 121, 122, 48, 49, 50, 51, 52, 53, 54, 55, 56, 57, 45, 95]⟩ : ByteArray)]) fun g2 => some [.t ((gi g2 0).str.toList == (⟨#[]⟩ : ByteArray).toList)]) else some [.t false])) else none) else some [.t false]) else some [.t false])
def s_kit_IsKey : FSpec := ⟨139, [.s (.str)], [], [], [.s (.bool)], [], [], [], F_kit_IsKey⟩
theorem b_kit_IsKey : BodyOK P t39 noLoops Tryz.f139 s_kit_IsKey := fun d => by kernel_rfl
theorem c_kit_IsKey : ∀ d r, F_kit_IsKey d = some r → ACallX P 139 (s_kit_IsKey.args0 d) (denH (s_kit_IsKey.H0 d)) (s_kit_IsKey.out r) (denH (s_kit_IsKey.H1 r)) := fun d r h => body_sound hm t39_ok (sp := s_kit_IsKey) Tryz.func139 (by kernel_rfl) (noLoops_ok _ _ _) b_kit_IsKey (by kernel_rfl) h
def t40 : Tab := t39.addP s_kit_IsKey
theorem t40_ok : TabOK P t40 := t39_ok.addP (by kernel_rfl) (by kernel_rfl) c_kit_IsKey

/- pileup/kit.Outside -/
def F_kit_Outside (d : List G) : Option (List G) :=
  (bif (ltI (gi d 0).int (gi d 1).int) then some [.t true] else some [.t (ltI (gi d 2).int (gi d 0).int)])
def s_kit_Outside : FSpec := ⟨140, [.s (.int .i64), .s (.int .i64), .s (.int .i64)], [], [], [.s (.bool)], [], [], [], F_kit_Outside⟩
theorem b_kit_Outside : BodyOK P t40 noLoops Tryz.f140 s_kit_Outside := fun d => by kernel_rfl
theorem c_kit_Outside : ∀ d r, F_kit_Outside d = some r → ACallX P 140 (s_kit_Outside.args0 d) (denH (s_kit_Outside.H0 d)) (s_kit_Outside.out r) (denH (s_kit_Outside.H1 r)) := fun d r h => body_sound hm t40_ok (sp := s_kit_Outside) Tryz.func140 (by kernel_rfl) (noLoops_ok _ _ _) b_kit_Outside (by kernel_rfl) h
def t41 : Tab := t40.addP s_kit_Outside
theorem t41_ok : TabOK P t41 := t40_ok.addP (by kernel_rfl) (by kernel_rfl) c_kit_Outside

/- pileup/kit.IsMoment -/
def F_kit_IsMoment (d : List G) : Option (List G) :=
  (callF (F_kit_Outside [.i (gi d 0).int, .i 0, .i 345686399999]) fun g1 => some [.t (!(gi g1 0).bool)])
def s_kit_IsMoment : FSpec := ⟨108, [.s (.int .i64)], [], [], [.s (.bool)], [], [], [], F_kit_IsMoment⟩
theorem b_kit_IsMoment : BodyOK P t41 noLoops Tryz.f108 s_kit_IsMoment := fun d => by kernel_rfl
theorem c_kit_IsMoment : ∀ d r, F_kit_IsMoment d = some r → ACallX P 108 (s_kit_IsMoment.args0 d) (denH (s_kit_IsMoment.H0 d)) (s_kit_IsMoment.out r) (denH (s_kit_IsMoment.H1 r)) := fun d r h => body_sound hm t41_ok (sp := s_kit_IsMoment) Tryz.func108 (by kernel_rfl) (noLoops_ok _ _ _) b_kit_IsMoment (by kernel_rfl) h
def t42 : Tab := t41.addP s_kit_IsMoment
theorem t42_ok : TabOK P t42 := t41_ok.addP (by kernel_rfl) (by kernel_rfl) c_kit_IsMoment

/- pileup/kit.IsMode -/
def F_kit_IsMode (d : List G) : Option (List G) :=
  (callF (F_kit_Outside [.i (gi d 0).int, .i 1, .i 3]) fun g1 => some [.t (!(gi g1 0).bool)])
def s_kit_IsMode : FSpec := ⟨143, [.s (.int .i64)], [], [], [.s (.bool)], [], [], [], F_kit_IsMode⟩
theorem b_kit_IsMode : BodyOK P t42 noLoops Tryz.f143 s_kit_IsMode := fun d => by kernel_rfl
theorem c_kit_IsMode : ∀ d r, F_kit_IsMode d = some r → ACallX P 143 (s_kit_IsMode.args0 d) (denH (s_kit_IsMode.H0 d)) (s_kit_IsMode.out r) (denH (s_kit_IsMode.H1 r)) := fun d r h => body_sound hm t42_ok (sp := s_kit_IsMode) Tryz.func143 (by kernel_rfl) (noLoops_ok _ _ _) b_kit_IsMode (by kernel_rfl) h
def t43 : Tab := t42.addP s_kit_IsMode
theorem t43_ok : TabOK P t43 := t42_ok.addP (by kernel_rfl) (by kernel_rfl) c_kit_IsMode

/- pileup/call.Is -/
def F_call_Is (d : List G) : Option (List G) :=
  (callF (F_call_Parts [.s (gi d 0).str]) fun g1 => some [.t (gi g1 1).bool])
def s_call_Is : FSpec := ⟨144, [.s (.str)], [], [], [.s (.bool)], [], [], [], F_call_Is⟩
theorem b_call_Is : BodyOK P t43 noLoops Tryz.f144 s_call_Is := fun d => by kernel_rfl
theorem c_call_Is : ∀ d r, F_call_Is d = some r → ACallX P 144 (s_call_Is.args0 d) (denH (s_call_Is.H0 d)) (s_call_Is.out r) (denH (s_call_Is.H1 r)) := fun d r h => body_sound hm t43_ok (sp := s_call_Is) Tryz.func144 (by kernel_rfl) (noLoops_ok _ _ _) b_call_Is (by kernel_rfl) h
def t44 : Tab := t43.addP s_call_Is
theorem t44_ok : TabOK P t44 := t43_ok.addP (by kernel_rfl) (by kernel_rfl) c_call_Is

/- pileup/kit.IsName -/
def F_kit_IsName (d : List G) : Option (List G) :=
  (bif ((gi d 0).str.toList == (⟨#[]⟩ : ByteArray).toList) then some [.t true] else (callF (F_kit_IsKey [.s (gi d 0).str]) fun g1 => some [.t (gi g1 0).bool]))
def s_kit_IsName : FSpec := ⟨145, [.s (.str)], [], [], [.s (.bool)], [], [], [], F_kit_IsName⟩
theorem b_kit_IsName : BodyOK P t44 noLoops Tryz.f145 s_kit_IsName := fun d => by kernel_rfl
theorem c_kit_IsName : ∀ d r, F_kit_IsName d = some r → ACallX P 145 (s_kit_IsName.args0 d) (denH (s_kit_IsName.H0 d)) (s_kit_IsName.out r) (denH (s_kit_IsName.H1 r)) := fun d r h => body_sound hm t44_ok (sp := s_kit_IsName) Tryz.func145 (by kernel_rfl) (noLoops_ok _ _ _) b_kit_IsName (by kernel_rfl) h
def t45 : Tab := t44.addP s_kit_IsName
theorem t45_ok : TabOK P t45 := t44_ok.addP (by kernel_rfl) (by kernel_rfl) c_kit_IsName

/- pileup/log.CheckContact -/
def F_log_CheckContact (d : List G) : Option (List G) :=
  (callF (F_kit_IsMoment [.i (gi (gi d 0).row 0).int]) fun g1 => (bif (!(gi g1 0).bool) then some [.i 1] else (callF (F_kit_IsMode [.i (gi (gi d 0).row 1).int]) fun g2 => (bif (!(gi g2 0).bool) then some [.i 4] else (callF (F_kit_IsKey [.s (gi (gi d 0).row 2).str]) fun g3 => (bif (!(gi g3 0).bool) then some [.i 5] else (callF (F_call_Is [.s (gi (gi d 0).row 3).str]) fun g4 => (bif (!(gi g4 0).bool) then some [.i 3] else (callF (F_kit_Outside [.i (gi (gi d 0).row 4).int, .i 0, .i 99999]) fun g5 => (bif (gi g5 0).bool then some [.i 1] else (callF (F_kit_Outside [.i (gi (gi d 0).row 5).int, .i 0, .i 99999]) fun g6 => (bif (gi g6 0).bool then some [.i 1] else (callF (F_kit_IsName [.s (gi (gi d 0).row 6).str]) fun g7 => (bif (!(gi g7 0).bool) then some [.i 5] else (callF (F_kit_IsName [.s (gi (gi d 0).row 7).str]) fun g8 => (bif (!(gi g8 0).bool) then some [.i 5] else some [.i 0]))))))))))))))))
def s_log_CheckContact : FSpec := ⟨92, [.s (.row KContact)], [], [], [.s (.int .i64)], [], [], [], F_log_CheckContact⟩
theorem b_log_CheckContact : BodyOK P t45 noLoops Tryz.f92 s_log_CheckContact := fun d => by kernel_rfl
theorem c_log_CheckContact : ∀ d r, F_log_CheckContact d = some r → ACallX P 92 (s_log_CheckContact.args0 d) (denH (s_log_CheckContact.H0 d)) (s_log_CheckContact.out r) (denH (s_log_CheckContact.H1 r)) := fun d r h => body_sound hm t45_ok (sp := s_log_CheckContact) Tryz.func92 (by kernel_rfl) (noLoops_ok _ _ _) b_log_CheckContact (by kernel_rfl) h
def t46 : Tab := t45.addP s_log_CheckContact
theorem t46_ok : TabOK P t46 := t45_ok.addP (by kernel_rfl) (by kernel_rfl) c_log_CheckContact

/- pileup/net.logFault -/
def F_net_logFault (d : List G) : Option (List G) :=
  (callF (F_log_CheckContact [.l [[.i (gi (gi d 0).row 4).int, .i (gi (gi d 0).row 5).int, .s (gi (gi d 0).row 6).str, .s (gi (gi d 0).row 7).str, .i (gi (gi d 0).row 8).int, .i (gi (gi d 0).row 9).int, .s (gi (gi d 0).row 10).str, .s (gi (gi d 0).row 11).str]]]) fun g1 => (bif ((gi g1 0).int != 0) then some [.i (gi g1 0).int] else (bif (ltI (gi (gi d 0).row 2).int (gi (gi d 0).row 4).int) then some [.i 1] else some [.i 0])))
def s_net_logFault : FSpec := ⟨204, [.s (.row KDeed)], [], [], [.s (.int .i64)], [], [], [], F_net_logFault⟩
theorem b_net_logFault : BodyOK P t46 noLoops Tryz.f204 s_net_logFault := fun d => by kernel_rfl
theorem c_net_logFault : ∀ d r, F_net_logFault d = some r → ACallX P 204 (s_net_logFault.args0 d) (denH (s_net_logFault.H0 d)) (s_net_logFault.out r) (denH (s_net_logFault.H1 r)) := fun d r h => body_sound hm t46_ok (sp := s_net_logFault) Tryz.func204 (by kernel_rfl) (noLoops_ok _ _ _) b_net_logFault (by kernel_rfl) h
def t47 : Tab := t46.addP s_net_logFault
theorem t47_ok : TabOK P t47 := t46_ok.addP (by kernel_rfl) (by kernel_rfl) c_net_logFault

/- pileup/net.usedFault -/
def F_net_usedFault (d : List G) : Option (List G) :=
  (bif ((gi (gi d 0).row 3).int == 1) then (callF (F_net_logFault [.l [(gEta KDeed (gi d 0).row)]]) fun g1 => some [.i (gi g1 0).int]) else (bif ((gi (gi d 0).row 3).int == 2) then (callF (F_kit_IsKey [.s (gi (gi d 0).row 12).str]) fun g2 => (bif (!(gi g2 0).bool) then some [.i 5] else some [.i 0])) else (bif ((gi (gi d 0).row 3).int == 5) then (callF (F_kit_IsKey [.s (gi (gi d 0).row 13).str]) fun g3 => (bif (!(gi g3 0).bool) then some [.i 5] else (callF (F_kit_Outside [.i (gi (gi d 0).row 14).int, .i 1, .i 1000000]) fun g4 => (bif (gi g4 0).bool then some [.i 1] else some [.i 0])))) else (callF (F_kit_Outside [.i (gi (gi d 0).row 8).int, .i 1, .i 99999]) fun g5 => (bif (gi g5 0).bool then some [.i 1] else some [.i 0])))))
def s_net_usedFault : FSpec := ⟨141, [.s (.row KDeed)], [], [], [.s (.int .i64)], [], [], [], F_net_usedFault⟩
theorem b_net_usedFault : BodyOK P t47 noLoops Tryz.f141 s_net_usedFault := fun d => by kernel_rfl
theorem c_net_usedFault : ∀ d r, F_net_usedFault d = some r → ACallX P 141 (s_net_usedFault.args0 d) (denH (s_net_usedFault.H0 d)) (s_net_usedFault.out r) (denH (s_net_usedFault.H1 r)) := fun d r h => body_sound hm t47_ok (sp := s_net_usedFault) Tryz.func141 (by kernel_rfl) (noLoops_ok _ _ _) b_net_usedFault (by kernel_rfl) h
def t48 : Tab := t47.addP s_net_usedFault
theorem t48_ok : TabOK P t48 := t47_ok.addP (by kernel_rfl) (by kernel_rfl) c_net_usedFault

end
end Go.Proofs.SYtkdippipiidcmaaGreatDoor
