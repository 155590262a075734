/-
 What is proved here: functions of the program as functions on data. No condition.
-/
import Derived.Test.YtchcbaapbinpbaaGreatDoorML3
set_option linter.all false
namespace Go.Proofs.SYtchcbaapbinpbaaGreatDoor
open Go Go.AL Go.Proofs
noncomputable section
def st_net_Read_6 (d : List G) : Option (Option Nat × List G) :=
 (bif (ltI (gi d 5).int (gi d 4).int) then (bif ((nnI (gi d 5).int) && (ltI (gi d 5).int (((gi d 3).rows.length : Nat) : Int))) then (callF (F_net_readDeed [.s (gi ((gi d 3).rows.getD (((gi d 5).int).toNat) []) 0).str]) fun g2 => (bif (!(gi g2 1).bool) then some (some 0, [.l [], .i (gi d 5).int, .i 9]) else (bif (!(gi d 2).bool) then (bif (inI ((((gi d 1).rows.length : Nat) : Int) - 1)) then (bif ((gi d 5).int == ((((gi d 1).rows.length : Nat) : Int) - 1)) then some (some 0, [.l [], .i (gi d 5).int, .i 9]) else (bif ((Nat.beq (gi d 0).rows.length (gi d 0).rows.length) && (decide (((gi d 0).rows.length + 1) ≤ 1048576))) then (bif (inI ((gi d 5).int + 1)) then (bif ((Nat.beq ((gi d 0).rows ++ ([(gEta KDeed (gi g2 0).row)] : List (List G))).length ((gi d 0).rows ++ ([(gEta KDeed (gi g2 0).row)] : List (List G))).length) && true) then some (none, [.l ((gi d 0).rows ++ ([(gEta KDeed (gi g2 0).row)] : List (List G))), .l (gi d 1).rows, .t (gi d 2).bool, .l (gi d 3).rows, .i (gi d 4).int, .i ((gi d 5).int + 1)]) else none) else none) else none)) else none) else (bif ((Nat.beq (gi d 0).rows.length (gi d 0).rows.length) && (decide (((gi d 0).rows.length + 1) ≤ 1048576))) then (bif (inI ((gi d 5).int + 1)) then (bif ((Nat.beq ((gi d 0).rows ++ ([(gEta KDeed (gi g2 0).row)] : List (List G))).length ((gi d 0).rows ++ ([(gEta KDeed (gi g2 0).row)] : List (List G))).length) && true) then some (none, [.l ((gi d 0).rows ++ ([(gEta KDeed (gi g2 0).row)] : List (List G))), .l (gi d 1).rows, .t (gi d 2).bool, .l (gi d 3).rows, .i (gi d 4).int, .i ((gi d 5).int + 1)]) else none) else none) else none)))) else none) else (bif ((Nat.beq (gi d 0).rows.length (gi d 0).rows.length) && true) then some (some 1, [.l (gi d 0).rows]) else none))
def l_net_Read_6 : LSpec := ⟨6, [(7, KDeed)], ⟨58, [(5, .s (.list [.str])), (6, .s (.bool)), (7, .s (.vec 0 15)), (21, .s (.list [.str])), (22, .s (.int .i64)), (23, .s (.int .i64))], [.vec KDeed 0]⟩, [.slot 7], [⟨.ret, ⟨58, [(2, .s (.list KDeed)), (3, .s (.int .i64)), (4, .s (.int .i64))], []⟩, []⟩, ⟨.exit 0, ⟨58, [(7, .s (.vec 0 15))], [.vec KDeed 0]⟩, [.slot 7]⟩], st_net_Read_6⟩
theorem r_net_Read_6 : RoundOK P (t95.lessPf [51]) nL0 0 (loopAt Tryz.f19 6) l_net_Read_6 := fun d => by kernel_rfl
def L_net_Read_6 : LT := nL0.add 0 l_net_Read_6
theorem L_net_Read_6_ok : LpK P 0 L_net_Read_6 (bodyOf Tryz.f19) := LpK.add hm (t95_ok.lessPf [51]) (by kernel_rfl) (nLk _ _ _) r_net_Read_6
def F_net_Read (d : List G) : Option (List G) :=
 (bif (ltI 200000 (((gi d 0).str.size : Nat) : Int)) then some [.l [], .i 0, .i 2] else (callF (F_kit_Lines [.s (gi d 0).str]) fun g1 => (loopB true (LRun st_net_Read_6 [.l [], .l (gi g1 0).rows, .t (gi g1 1).bool, .l (gi g1 0).rows, .i (((gi g1 0).rows.length : Nat) : Int), .i 0]) fun cg3 g3 => (bif Nat.beq cg3 0 then some [.l (gi g3 0).rows, .i (gi g3 1).int, .i (gi g3 2).int] else (callB (((Nat.beq (gi g3 0).rows.length (gi g3 0).rows.length) && true) && (F_net_CheckDeeds [.l (gi g3 0).rows]).isSome) (F_net_CheckDeeds [.l (gi g3 0).rows]) fun g4 => (bif ((gi g4 0).int != 0) then some [.l [], .i 0, .i (gi g4 0).int] else (bif ((Nat.beq (gi g3 0).rows.length (gi g3 0).rows.length) && true) then some [.l (gi g3 0).rows, .i 0, .i 0] else none)))))))
def s_net_Read : FSpec := ⟨19, [.s (.str)], [], [], [.s (.list KDeed), .s (.int .i64), .s (.int .i64)], [], [], [], F_net_Read⟩
theorem b_net_Read : BodyOK P (t95.lessPf [51]) L_net_Read_6 Tryz.f19 s_net_Read := fun d => by kernel_rfl
theorem c_net_Read : COK P s_net_Read := bodyC hm (t95_ok.lessPf [51]) Tryz.func19 (by kernel_rfl) L_net_Read_6_ok b_net_Read (by kernel_rfl)
def t96 : Tab := t95.addP s_net_Read
theorem t96_ok : TabOK P t96 := t95_ok.aP c_net_Read

def st_k2_errs_2 (d : List G) : Option (Option Nat × List G) :=
 (bif (ltI (gi d 2).int (gi d 1).int) then (bif ((nnI (gi d 2).int) && (ltI (gi d 2).int (((gi d 0).rows.length : Nat) : Int))) then (bif ((gi ((gi d 0).rows.getD (((gi d 2).int).toNat) []) 0).int != 0) then some (some 0, [.i (gi ((gi d 0).rows.getD (((gi d 2).int).toNat) []) 0).int]) else (bif (inI ((gi d 2).int + 1)) then some (none, [.l (gi d 0).rows, .i (gi d 1).int, .i ((gi d 2).int + 1)]) else none)) else none) else some (some 1, []))
def l_k2_errs_2 : LSpec := ⟨2, [], ⟨15, [(5, .s (.list [.int .i64])), (6, .s (.int .i64)), (7, .s (.int .i64))], []⟩, [], [⟨.ret, ⟨15, [(2, .s (.int .i64))], []⟩, []⟩, ⟨.exit 0, ⟨15, [], []⟩, []⟩], st_k2_errs_2⟩
theorem r_k2_errs_2 : RoundOK P t96 nL0 0 (loopAt Tryz.f12 2) l_k2_errs_2 := fun d => by kernel_rfl
def L_k2_errs_2 : LT := nL0.add 0 l_k2_errs_2
theorem L_k2_errs_2_ok : LpK P 0 L_k2_errs_2 (bodyOf Tryz.f12) := LpK.a hm t96_ok (nLk _ _ _) r_k2_errs_2
def F_k2_errs (d : List G) : Option (List G) :=
 (loopB true (LRun st_k2_errs_2 [.l (gi d 0).rows, .i (((gi d 0).rows.length : Nat) : Int), .i 0]) fun cg1 g1 => (bif Nat.beq cg1 0 then some [.i (gi g1 0).int] else some [.i 0]))
def s_k2_errs : FSpec := ⟨12, [.s (.list [.int .i64])], [], [], [.s (.int .i64)], [], [], [], F_k2_errs⟩
theorem b_k2_errs : BodyOK P t96 L_k2_errs_2 Tryz.f12 s_k2_errs := fun d => by kernel_rfl
theorem c_k2_errs : COK P s_k2_errs := bdC hm t96_ok Tryz.func12 L_k2_errs_2_ok b_k2_errs
def t97 : Tab := t96.addP s_k2_errs
theorem t97_ok : TabOK P t97 := t96_ok.aP c_k2_errs

def st_sl_Equal_Deed_4 (d : List G) : Option (Option Nat × List G) :=
 (bif (ltI (gi d 3).int (gi d 2).int) then (bif ((nnI (gi d 3).int) && (ltI (gi d 3).int (((gi d 0).rows.length : Nat) : Int))) then (bif ((nnI (gi d 3).int) && (ltI (gi d 3).int (((gi d 1).rows.length : Nat) : Int))) then (bif (!(rowEq KDeed (gEta KDeed ((gi d 0).rows.getD (((gi d 3).int).toNat) [])) (gEta KDeed ((gi d 1).rows.getD (((gi d 3).int).toNat) [])))) then some (some 0, [.t false]) else (bif (inI ((gi d 3).int + 1)) then some (none, [.l (gi d 0).rows, .l (gi d 1).rows, .i (gi d 2).int, .i ((gi d 3).int + 1)]) else none)) else none) else none) else some (some 1, []))
def l_sl_Equal_Deed_4 : LSpec := ⟨4, [], ⟨26, [(0, .s (.list KDeed)), (1, .s (.list KDeed)), (12, .s (.int .i64)), (13, .s (.int .i64))], []⟩, [], [⟨.ret, ⟨26, [(4, .s (.bool))], []⟩, []⟩, ⟨.exit 0, ⟨26, [], []⟩, []⟩], st_sl_Equal_Deed_4⟩
theorem r_sl_Equal_Deed_4 : RoundOK P t97 nL0 0 (loopAt Tryz.f20 4) l_sl_Equal_Deed_4 := fun d => by kernel_rfl
def L_sl_Equal_Deed_4 : LT := nL0.add 0 l_sl_Equal_Deed_4
theorem L_sl_Equal_Deed_4_ok : LpK P 0 L_sl_Equal_Deed_4 (bodyOf Tryz.f20) := LpK.a hm t97_ok (nLk _ _ _) r_sl_Equal_Deed_4
def F_sl_Equal_Deed (d : List G) : Option (List G) :=
 (bif ((((gi d 0).rows.length : Nat) : Int) != (((gi d 1).rows.length : Nat) : Int)) then some [.t false] else (loopB true (LRun st_sl_Equal_Deed_4 [.l (gi d 0).rows, .l (gi d 1).rows, .i (((gi d 0).rows.length : Nat) : Int), .i 0]) fun cg1 g1 => (bif Nat.beq cg1 0 then some [.t (gi g1 0).bool] else some [.t true])))
def s_sl_Equal_Deed : FSpec := ⟨20, [.s (.list KDeed), .s (.list KDeed)], [], [], [.s (.bool)], [], [], [], F_sl_Equal_Deed⟩
theorem b_sl_Equal_Deed : BodyOK P t97 L_sl_Equal_Deed_4 Tryz.f20 s_sl_Equal_Deed := fun d => by kernel_rfl
theorem c_sl_Equal_Deed : COK P s_sl_Equal_Deed := bdC hm t97_ok Tryz.func20 L_sl_Equal_Deed_4_ok b_sl_Equal_Deed
def t98 : Tab := t97.addP s_sl_Equal_Deed
theorem t98_ok : TabOK P t98 := t97_ok.aP c_sl_Equal_Deed

def F_net_askedFault (d : List G) : Option (List G) :=
 (callF (F_net_CheckDeeds [.l (gi d 0).rows]) fun g1 => (bif ((gi g1 0).int != 0) then some [.i (gi g1 0).int] else (callF (F_kit_IsMoment [.i (gi d 1).int]) fun g2 => (bif (!(gi g2 0).bool) then some [.i 1] else some [.i 0]))))
def s_net_askedFault : FSpec := ⟨57, [.s (.list KDeed), .s (.int .i64)], [], [], [.s (.int .i64)], [], [], [], F_net_askedFault⟩
theorem b_net_askedFault : BodyOK P t98 nL0 Tryz.f57 s_net_askedFault := fun d => by kernel_rfl
theorem c_net_askedFault : COK P s_net_askedFault := bdC hm t98_ok Tryz.func57 (nLk _ _ _) b_net_askedFault
def t99 : Tab := t98.addP s_net_askedFault
theorem t99_ok : TabOK P t99 := t98_ok.aP c_net_askedFault

def t100 : Tab := t99.inlineW P 120 Tryz.f120
theorem t100_ok : TabOK P t100 := t99_ok.inlineW hm Tryz.func120 (by kernel_rfl) (by kernel_rfl)

theorem bwf_186 : BwFact P ⟨186, 44, 51, 15, 15, true⟩ := bwFact_of Tryz.func186 (by kernel_rfl) rfl rfl rfl ⟨⟨_, _, _, _, _, _, rfl, ⟨rfl, rfl, rfl⟩, ⟨rfl, rfl, rfl⟩, ⟨rfl, rfl, rfl⟩, ⟨rfl, rfl, rfl⟩⟩, ⟨_, _, _, _, rfl, ⟨rfl, rfl, rfl⟩, ⟨rfl, rfl, rfl⟩⟩, ⟨_, _, _, _, _, rfl, ⟨rfl, rfl, rfl⟩, ⟨rfl, rfl, rfl⟩, ⟨rfl, rfl, rfl⟩⟩, ⟨_, _, _, _, _, _, _, _, _, _, rfl, ⟨rfl, rfl, rfl⟩, ⟨rfl, rfl, rfl⟩, ⟨rfl, rfl, rfl⟩, ⟨rfl, rfl, rfl⟩, ⟨rfl, rfl, rfl⟩, ⟨rfl, rfl, rfl⟩, ⟨rfl, rfl, rfl⟩, ⟨rfl, rfl, rfl⟩⟩⟩ (by kernel_rfl)
def br_net_counting_3 (i : Int) (r d : List G) : Option (List G) :=
 (bif (ltI (gi d 0).int (gi r 2).int) then (bif ((((Nat.beq (gi d 3).rows.length (gi d 3).rows.length) && true) && true) && true) then some [.i (gi d 0).int, .l (gi d 1).rows, .i (((gi d 2).int.toNat : Nat) : Int), .l (gi d 3).rows] else none) else (bif (gi (mget [.str, .int .i64] (gi d 1).rows (gEta [.str, .int .i64] r) [.t false]) 0).bool then (bif ((((Nat.beq (gi d 3).rows.length (gi d 3).rows.length) && true) && true) && true) then some [.i (gi d 0).int, .l (gi d 1).rows, .i (((gi d 2).int.toNat : Nat) : Int), .l (gi d 3).rows] else none) else (bif ((Nat.beq (gi d 3).rows.length (gi d 3).rows.length) && (decide (((gi d 3).rows.length + 1) ≤ 1048576))) then (bif ((gi r 3).int == 5) then (bif ((((Nat.beq ((gi d 3).rows ++ ([[.i i]] : List (List G))).length ((gi d 3).rows ++ ([[.i i]] : List (List G))).length) && true) && true) && true) then some [.i (gi d 0).int, .l (mput [.str, .int .i64] (gi d 1).rows [.s (gi r 13).str, .i (gi r 14).int] [.t true] (gi d 2).int.toNat), .i (((mclk [.str, .int .i64] (gi d 1).rows [.s (gi r 13).str, .i (gi r 14).int] (gi d 2).int.toNat) : Nat) : Int), .l ((gi d 3).rows ++ ([[.i i]] : List (List G)))] else none) else (bif ((((Nat.beq ((gi d 3).rows ++ ([[.i i]] : List (List G))).length ((gi d 3).rows ++ ([[.i i]] : List (List G))).length) && true) && true) && true) then some [.i (gi d 0).int, .l (gi d 1).rows, .i (((gi d 2).int.toNat : Nat) : Int), .l ((gi d 3).rows ++ ([[.i i]] : List (List G)))] else none)) else none)))
def bi_net_counting_3 (d : List G) : List G := [.i (gi d 0).int, .l (gi d 1).rows, .i (((gi d 2).int.toNat : Nat) : Int), .l []]
def bd_net_counting_3 (d : List G) : Bool := true
def bs_net_counting_3 : BSpec := ⟨⟨43, [(3, .s (.ptr 0 0)), (5, .s (.ptr 1 0)), (6, .s (.ptr 3 0))], [.box [.int .i64], .box [.map 2], .map (.agg [.str, .int .i64]) (.one (.bool)), .box [.vec 4 1], .vec [.int .i64] 1]⟩, [.slot 3, .slot 5, .cell 1 0, .slot 6, .cell 3 0], [], KDeed, true, 15, 5, 12, 13, bi_net_counting_3, bd_net_counting_3, br_net_counting_3⟩
theorem w_net_counting_3 : BRound P t100 (nL0.hinted [(2, [.openCell 6 0 [.int .i64]]), (3, [.openCell 6 0 [.int .i64]])]) bs_net_counting_3 (kAs (cutAt Tryz.f58 3)) (kBd (cutAt Tryz.f58 3)) := fun i r d => by kernel_rfl
def tr_net_counting_3 (d : List G) : Option (Option Nat × List G) :=
 (callB (((Nat.beq (gi d 3).rows.length (gi d 3).rows.length) && true) && (F_sl_Reverse_int [.l (gi d 3).rows]).isSome) (F_sl_Reverse_int [.l (gi d 3).rows]) fun g1 => (bif ((Nat.beq (gi d 3).rows.length (gi g1 0).rows.length) && true) then some (some 0, [.l (gi g1 0).rows]) else none))
def l_net_counting_3r : LSpec := ⟨10, [], ⟨43, [(3, .s (.ptr 0 0)), (5, .s (.ptr 1 0)), (6, .s (.ptr 3 0))], [.box [.int .i64], .box [.map 2], .map (.agg [.str, .int .i64]) (.one (.bool)), .box [.vec 4 1], .vec [.int .i64] 1]⟩, [], [⟨.ret, ⟨43, [(4, .s (.vec 0 1))], [.vec [.int .i64] 0]⟩, [.slot 4]⟩], tr_net_counting_3⟩
theorem v_net_counting_3 : CutOK P t100 (nL0.hinted [(2, [.openCell 6 0 [.int .i64]]), (3, [.openCell 6 0 [.int .i64]])]) 0 (rRest (cutAt Tryz.f58 3)) l_net_counting_3r := fun d => by kernel_rfl
def tl_net_counting_3 (d : List G) : Option (Option Nat × List G) :=
 backR bs_net_counting_3 tr_net_counting_3 ((gi d 3).rows) d
def l_net_counting_3c : LSpec := ⟨3, [], ⟨43, [(0, .s (.list KDeed)), (3, .s (.ptr 0 0)), (5, .s (.ptr 1 0)), (6, .s (.ptr 3 0))], [.box [.int .i64], .box [.map 2], .map (.agg [.str, .int .i64]) (.one (.bool)), .box [.nil]]⟩, [.slot 3, .slot 5, .cell 1 0, .slot 6], [⟨.ret, ⟨43, [(4, .s (.vec 0 1))], [.vec [.int .i64] 0]⟩, [.slot 4]⟩], tl_net_counting_3⟩
def L_net_counting_3c : LT := (nL0.hinted [(2, [.openCell 6 0 [.int .i64]]), (3, [.openCell 6 0 [.int .i64]])]).addCut 0 l_net_counting_3c
theorem L_net_counting_3c_ok : LpK P 0 L_net_counting_3c (bodyOf Tryz.f58) := LpK.addBack (i := ⟨186, 44, 51, 15, 15, true⟩) (q := l_net_counting_3c) (qr := l_net_counting_3r) (sp := bs_net_counting_3) (b := 0) (g := 11) (wd := 0) (L0 := (nL0.hinted [(2, [.openCell 6 0 [.int .i64]]), (3, [.openCell 6 0 [.int .i64]])])) (rows := fun d => (gi d 3).rows) (pre := fun d => preB P t100 (nL0.hinted [(2, [.openCell 6 0 [.int .i64]]), (3, [.openCell 6 0 [.int .i64]])]) (cutAt Tryz.f58 3) (mkSt l_net_counting_3c.inv d)) hm t100_ok bwf_186 (by kernel_rfl) (hinted_ok _) (fun _ _ => hinted_ok _) (by kernel_rfl) w_net_counting_3 (by kernel_rfl) (by kernel_rfl) (fun d => by kernel_rfl) (fun d => by kernel_rfl) (fun d => by kernel_rfl) (fun d => by kernel_rfl) (fun d => by kernel_rfl) rfl rfl v_net_counting_3 (fun d => rfl)
def F_net_counting (d : List G) : Option (List G) :=
 (loopB true (cutR (tl_net_counting_3 [.i (gi d 1).int, .l [], .i 0, .l (gi d 0).rows])) fun cg2 g2 => (bif ((Nat.beq (gi g2 0).rows.length (gi g2 0).rows.length) && true) then some [.l (gi g2 0).rows] else none))
def s_net_counting : FSpec := ⟨58, [.s (.list KDeed), .s (.int .i64)], [], [], [.s (.list [.int .i64])], [], [], [], F_net_counting⟩
theorem b_net_counting : BodyOK P t100 L_net_counting_3c Tryz.f58 s_net_counting := fun d => by kernel_rfl
theorem c_net_counting : COK P s_net_counting := bdC hm t100_ok Tryz.func58 L_net_counting_3c_ok b_net_counting
def t101 : Tab := t100.addP s_net_counting
theorem t101_ok : TabOK P t101 := t100_ok.aP c_net_counting

def F_net_Counting (d : List G) : Option (List G) :=
 (callF (F_net_askedFault [.l (gi d 0).rows, .i (gi d 1).int]) fun g1 => (bif ((gi g1 0).int != 0) then some [.l [], .i (gi g1 0).int] else (callF (F_net_counting [.l (gi d 0).rows, .i (gi d 1).int]) fun g2 => some [.l (gi g2 0).rows, .i 0])))
def s_net_Counting : FSpec := ⟨21, [.s (.list KDeed), .s (.int .i64)], [], [], [.s (.list [.int .i64]), .s (.int .i64)], [], [], [], F_net_Counting⟩
theorem b_net_Counting : BodyOK P t101 nL0 Tryz.f21 s_net_Counting := fun d => by kernel_rfl
theorem c_net_Counting : COK P s_net_Counting := bdC hm t101_ok Tryz.func21 (nLk _ _ _) b_net_Counting
def t102 : Tab := t101.addP s_net_Counting
theorem t102_ok : TabOK P t102 := t101_ok.aP c_net_Counting

attribute [instance] drF
theorem w102_ok : TabOK P t102 := t102_ok.anyDr
def F_strings_Join (d : List G) : Option (List G) :=
 joinF d
def s_strings_Join : FSpec := ⟨91, [.s (.list [.str]), .s (.str)], [], [], [.s (.str)], [], [], [], F_strings_Join⟩
theorem c_strings_Join : ∀ d r, F_strings_Join d = some r → ACallX P 91 (s_strings_Join.args0 d) (denH (s_strings_Join.H0 d)) (s_strings_Join.out r) (denH (s_strings_Join.H1 r)) := fun d r h => join_call rfl Tryz.laysJoin Tryz.laysJoin_x d r h
def t103 : Tab := t102.addP s_strings_Join
theorem t103_ok : TabOK P t103 := w102_ok.aP c_strings_Join

def F_kit_Join (d : List G) : Option (List G) :=
 (callF (F_strings_Join [.l (gi d 0).rows, .s (⟨#[32]⟩ : ByteArray)]) fun g1 => (bif (Nat.ble ((gi g1 0).str.size + 1) 9223372036854775807) then some [.s ((gi g1 0).str ++ (⟨#[10]⟩ : ByteArray))] else none))
def s_kit_Join : FSpec := ⟨38, [.s (.list [.str])], [], [], [.s (.str)], [], [], [], F_kit_Join⟩
theorem b_kit_Join : BodyOK P t103 nL0 Tryz.f38 s_kit_Join := fun d => by kernel_rfl
theorem c_kit_Join : COK P s_kit_Join := bdC hm t103_ok Tryz.func38 (nLk _ _ _) b_kit_Join
def t104 : Tab := t103.addP s_kit_Join
theorem t104_ok : TabOK P t104 := t103_ok.aP c_kit_Join

def F_log_Line (d : List G) : Option (List G) :=
 (callF (F_strconv_Itoa [.i (gi (gi d 0).row 0).int]) fun g1 => (callF (F_kit_ModeWords []) fun g2 => (bif ((nnI (gi (gi d 0).row 1).int) && (ltI (gi (gi d 0).row 1).int (((gi g2 0).rows.length : Nat) : Int))) then (callF (F_strconv_Itoa [.i (gi (gi d 0).row 4).int]) fun g3 => (callF (F_kit_Dash [.s (gi (gi d 0).row 6).str]) fun g4 => (callF (F_strconv_Itoa [.i (gi (gi d 0).row 5).int]) fun g5 => (callF (F_kit_Dash [.s (gi (gi d 0).row 7).str]) fun g6 => (callF (F_kit_Join [.l [[.s (gi g1 0).str], [.s (gi ((gi g2 0).rows.getD (((gi (gi d 0).row 1).int).toNat) []) 0).str], [.s (gi (gi d 0).row 2).str], [.s (gi (gi d 0).row 3).str], [.s (gi g3 0).str], [.s (gi g4 0).str], [.s (gi g5 0).str], [.s (gi g6 0).str]]]) fun g7 => some [.s (gi g7 0).str]))))) else none)))
def s_log_Line : FSpec := ⟨68, [.s (.row KCt)], [], [], [.s (.str)], [], [], [], F_log_Line⟩
theorem b_log_Line : BodyOK P t104 nL0 Tryz.f68 s_log_Line := fun d => by kernel_rfl
theorem c_log_Line : COK P s_log_Line := bdC hm t104_ok Tryz.func68 (nLk _ _ _) b_log_Line
def t105 : Tab := t104.addP s_log_Line
theorem t105_ok : TabOK P t105 := t104_ok.aP c_log_Line

def F_net_deedText (d : List G) : Option (List G) :=
 (bif (Nat.ble ((gi (gi d 0).row 0).str.size + 1) 9223372036854775807) then (callF (F_strconv_Itoa [.i (gi (gi d 0).row 1).int]) fun g1 => (bif (Nat.ble (((gi (gi d 0).row 0).str ++ (⟨#[32]⟩ : ByteArray)).size + (gi g1 0).str.size) 9223372036854775807) then (bif (Nat.ble ((((gi (gi d 0).row 0).str ++ (⟨#[32]⟩ : ByteArray)) ++ (gi g1 0).str).size + 1) 9223372036854775807) then (callF (F_strconv_Itoa [.i (gi (gi d 0).row 2).int]) fun g2 => (bif (Nat.ble (((((gi (gi d 0).row 0).str ++ (⟨#[32]⟩ : ByteArray)) ++ (gi g1 0).str) ++ (⟨#[32]⟩ : ByteArray)).size + (gi g2 0).str.size) 9223372036854775807) then (bif (Nat.ble ((((((gi (gi d 0).row 0).str ++ (⟨#[32]⟩ : ByteArray)) ++ (gi g1 0).str) ++ (⟨#[32]⟩ : ByteArray)) ++ (gi g2 0).str).size + 1) 9223372036854775807) then (callF (F_net_kindWords []) fun g3 => (bif ((nnI (gi (gi d 0).row 3).int) && (ltI (gi (gi d 0).row 3).int (((gi g3 0).rows.length : Nat) : Int))) then (bif (Nat.ble (((((((gi (gi d 0).row 0).str ++ (⟨#[32]⟩ : ByteArray)) ++ (gi g1 0).str) ++ (⟨#[32]⟩ : ByteArray)) ++ (gi g2 0).str) ++ (⟨#[32]⟩ : ByteArray)).size + (gi ((gi g3 0).rows.getD (((gi (gi d 0).row 3).int).toNat) []) 0).str.size) 9223372036854775807) then (bif (Nat.ble ((((((((gi (gi d 0).row 0).str ++ (⟨#[32]⟩ : ByteArray)) ++ (gi g1 0).str) ++ (⟨#[32]⟩ : ByteArray)) ++ (gi g2 0).str) ++ (⟨#[32]⟩ : ByteArray)) ++ (gi ((gi g3 0).rows.getD (((gi (gi d 0).row 3).int).toNat) []) 0).str).size + 1) 9223372036854775807) then (bif ((gi (gi d 0).row 3).int == 1) then (callF (F_log_Line [.l [[.i (gi (gi d 0).row 4).int, .i (gi (gi d 0).row 5).int, .s (gi (gi d 0).row 6).str, .s (gi (gi d 0).row 7).str, .i (gi (gi d 0).row 8).int, .i (gi (gi d 0).row 9).int, .s (gi (gi d 0).row 10).str, .s (gi (gi d 0).row 11).str]]]) fun g4 => (bif (Nat.ble (((((((((gi (gi d 0).row 0).str ++ (⟨#[32]⟩ : ByteArray)) ++ (gi g1 0).str) ++ (⟨#[32]⟩ : ByteArray)) ++ (gi g2 0).str) ++ (⟨#[32]⟩ : ByteArray)) ++ (gi ((gi g3 0).rows.getD (((gi (gi d 0).row 3).int).toNat) []) 0).str) ++ (⟨#[32]⟩ : ByteArray)).size + (gi g4 0).str.size) 9223372036854775807) then some [.s (((((((((gi (gi d 0).row 0).str ++ (⟨#[32]⟩ : ByteArray)) ++ (gi g1 0).str) ++ (⟨#[32]⟩ : ByteArray)) ++ (gi g2 0).str) ++ (⟨#[32]⟩ : ByteArray)) ++ (gi ((gi g3 0).rows.getD (((gi (gi d 0).row 3).int).toNat) []) 0).str) ++ (⟨#[32]⟩ : ByteArray)) ++ (gi g4 0).str)] else none)) else (bif ((gi (gi d 0).row 3).int == 2) then (callF (F_kit_Join [.l [[.s (gi (gi d 0).row 12).str]]]) fun g5 => (bif (Nat.ble (((((((((gi (gi d 0).row 0).str ++ (⟨#[32]⟩ : ByteArray)) ++ (gi g1 0).str) ++ (⟨#[32]⟩ : ByteArray)) ++ (gi g2 0).str) ++ (⟨#[32]⟩ : ByteArray)) ++ (gi ((gi g3 0).rows.getD (((gi (gi d 0).row 3).int).toNat) []) 0).str) ++ (⟨#[32]⟩ : ByteArray)).size + (gi g5 0).str.size) 9223372036854775807) then some [.s (((((((((gi (gi d 0).row 0).str ++ (⟨#[32]⟩ : ByteArray)) ++ (gi g1 0).str) ++ (⟨#[32]⟩ : ByteArray)) ++ (gi g2 0).str) ++ (⟨#[32]⟩ : ByteArray)) ++ (gi ((gi g3 0).rows.getD (((gi (gi d 0).row 3).int).toNat) []) 0).str) ++ (⟨#[32]⟩ : ByteArray)) ++ (gi g5 0).str)] else none)) else (bif ((gi (gi d 0).row 3).int == 5) then (callF (F_strconv_Itoa [.i (gi (gi d 0).row 14).int]) fun g6 => (callF (F_kit_Join [.l [[.s (gi (gi d 0).row 13).str], [.s (gi g6 0).str]]]) fun g7 => (bif (Nat.ble (((((((((gi (gi d 0).row 0).str ++ (⟨#[32]⟩ : ByteArray)) ++ (gi g1 0).str) ++ (⟨#[32]⟩ : ByteArray)) ++ (gi g2 0).str) ++ (⟨#[32]⟩ : ByteArray)) ++ (gi ((gi g3 0).rows.getD (((gi (gi d 0).row 3).int).toNat) []) 0).str) ++ (⟨#[32]⟩ : ByteArray)).size + (gi g7 0).str.size) 9223372036854775807) then some [.s (((((((((gi (gi d 0).row 0).str ++ (⟨#[32]⟩ : ByteArray)) ++ (gi g1 0).str) ++ (⟨#[32]⟩ : ByteArray)) ++ (gi g2 0).str) ++ (⟨#[32]⟩ : ByteArray)) ++ (gi ((gi g3 0).rows.getD (((gi (gi d 0).row 3).int).toNat) []) 0).str) ++ (⟨#[32]⟩ : ByteArray)) ++ (gi g7 0).str)] else none))) else (callF (F_strconv_Itoa [.i (gi (gi d 0).row 8).int]) fun g8 => (callF (F_kit_Join [.l [[.s (gi g8 0).str]]]) fun g9 => (bif (Nat.ble (((((((((gi (gi d 0).row 0).str ++ (⟨#[32]⟩ : ByteArray)) ++ (gi g1 0).str) ++ (⟨#[32]⟩ : ByteArray)) ++ (gi g2 0).str) ++ (⟨#[32]⟩ : ByteArray)) ++ (gi ((gi g3 0).rows.getD (((gi (gi d 0).row 3).int).toNat) []) 0).str) ++ (⟨#[32]⟩ : ByteArray)).size + (gi g9 0).str.size) 9223372036854775807) then some [.s (((((((((gi (gi d 0).row 0).str ++ (⟨#[32]⟩ : ByteArray)) ++ (gi g1 0).str) ++ (⟨#[32]⟩ : ByteArray)) ++ (gi g2 0).str) ++ (⟨#[32]⟩ : ByteArray)) ++ (gi ((gi g3 0).rows.getD (((gi (gi d 0).row 3).int).toNat) []) 0).str) ++ (⟨#[32]⟩ : ByteArray)) ++ (gi g9 0).str)] else none)))))) else none) else none) else none)) else none) else none)) else none) else none)) else none)
def s_net_deedText : FSpec := ⟨55, [.s (.row KDeed)], [], [], [.s (.str)], [], [], [], F_net_deedText⟩
theorem b_net_deedText : BodyOK P t105 nL0 Tryz.f55 s_net_deedText := fun d => by kernel_rfl
theorem c_net_deedText : COK P s_net_deedText := bdC hm t105_ok Tryz.func55 (nLk _ _ _) b_net_deedText
def t106 : Tab := t105.addP s_net_deedText
theorem t106_ok : TabOK P t106 := t105_ok.aP c_net_deedText

def F_strings_Builder_WriteString (d : List G) : Option (List G) :=
 bldWF d
def s_strings_Builder_WriteString : FSpec := ⟨37, [.s (.ptr 0 0), .s (.str)], [.bld 0 80 5], [.slot 0], [.s (.int .i64), .s (.any)], [.bld 0 80 5], [.fix 0], [], F_strings_Builder_WriteString⟩
theorem c_strings_Builder_WriteString : ∀ d r, F_strings_Builder_WriteString d = some r → ACallX P 37 (s_strings_Builder_WriteString.args0 d) (denH (s_strings_Builder_WriteString.H0 d)) (s_strings_Builder_WriteString.out r) (denH (s_strings_Builder_WriteString.H1 r)) := fun d r h => bldW_call Tryz.laysBldW Tryz.laysBldW_x rfl d r h
def t107 : Tab := t106.addW s_strings_Builder_WriteString
theorem t107_ok : TabOK P t107 := t106_ok.aW c_strings_Builder_WriteString

def F_strings_Builder_Len (d : List G) : Option (List G) :=
 bldLF d
def s_strings_Builder_Len : FSpec := ⟨40, [.s (.ptr 0 0)], [.bld 0 80 5], [.slot 0], [.s (.int .i64)], [.bld 0 80 5], [.fix 0], [], F_strings_Builder_Len⟩
theorem c_strings_Builder_Len : ∀ d r, F_strings_Builder_Len d = some r → ACallX P 40 (s_strings_Builder_Len.args0 d) (denH (s_strings_Builder_Len.H0 d)) (s_strings_Builder_Len.out r) (denH (s_strings_Builder_Len.H1 r)) := fun d r h => bldL_call Tryz.laysBldL rfl d r h
def t108 : Tab := t107.addW s_strings_Builder_Len
theorem t108_ok : TabOK P t108 := t107_ok.aW c_strings_Builder_Len

def F_strings_Builder_String (d : List G) : Option (List G) :=
 bldSF d
def s_strings_Builder_String : FSpec := ⟨41, [.s (.ptr 0 0)], [.bld 0 80 5], [.slot 0], [.s (.str)], [.bld 0 80 5], [.fix 0], [], F_strings_Builder_String⟩
theorem c_strings_Builder_String : ∀ d r, F_strings_Builder_String d = some r → ACallX P 41 (s_strings_Builder_String.args0 d) (denH (s_strings_Builder_String.H0 d)) (s_strings_Builder_String.out r) (denH (s_strings_Builder_String.H1 r)) := fun d r h => bldS_call Tryz.laysBldS Tryz.laysBldS_x rfl d r h
def t109 : Tab := t108.addW s_strings_Builder_String
theorem t109_ok : TabOK P t109 := t108_ok.aW c_strings_Builder_String

def st_net_Text_6 (d : List G) : Option (Option Nat × List G) :=
 (bif (ltI (gi d 3).int (gi d 2).int) then (bif ((nnI (gi d 3).int) && (ltI (gi d 3).int (((gi d 1).rows.length : Nat) : Int))) then (callF (F_net_deedText [.l [(gEta KDeed ((gi d 1).rows.getD (((gi d 3).int).toNat) []))]]) fun g2 => (callF (F_strings_Builder_WriteString [.s (gi d 0).str, .s (gi g2 0).str]) fun g3 => (bif (inI ((gi d 3).int + 1)) then some (none, [.s (gi g3 0).str, .l (gi d 1).rows, .i (gi d 2).int, .i ((gi d 3).int + 1)]) else none))) else none) else some (some 0, [.s (gi d 0).str]))
def l_net_Text_6 : LSpec := ⟨6, [], ⟨26, [(5, .s (.ptr 0 0)), (13, .s (.list KDeed)), (14, .s (.int .i64)), (15, .s (.int .i64))], [.bld 0 80 5]⟩, [.slot 5], [⟨.exit 0, ⟨26, [(5, .s (.ptr 0 0))], [.bld 0 80 5]⟩, [.slot 5]⟩], st_net_Text_6⟩
theorem r_net_Text_6 : RoundOK P t109 nL0 0 (loopAt Tryz.f18 6) l_net_Text_6 := fun d => by kernel_rfl
def L_net_Text_6 : LT := nL0.add 0 l_net_Text_6
theorem L_net_Text_6_ok : LpK P 0 L_net_Text_6 (bodyOf Tryz.f18) := LpK.a hm t109_ok (nLk _ _ _) r_net_Text_6
def F_net_Text (d : List G) : Option (List G) :=
 (callF (F_net_CheckDeeds [.l (gi d 0).rows]) fun g1 => (bif ((gi g1 0).int != 0) then some [.s (⟨#[]⟩ : ByteArray), .i (gi g1 0).int] else (loopB true (LRun st_net_Text_6 [.s (⟨#[]⟩ : ByteArray), .l (gi d 0).rows, .i (((gi d 0).rows.length : Nat) : Int), .i 0]) fun cg4 g4 => (callF (F_strings_Builder_Len [.s (gi g4 0).str]) fun g5 => (bif (ltI 200000 (gi g5 1).int) then some [.s (⟨#[]⟩ : ByteArray), .i 2] else (callF (F_strings_Builder_String [.s (gi g5 0).str]) fun g6 => some [.s (gi g6 1).str, .i 0]))))))
def s_net_Text : FSpec := ⟨18, [.s (.list KDeed)], [], [], [.s (.str), .s (.int .i64)], [], [], [], F_net_Text⟩
theorem b_net_Text : BodyOK P t109 L_net_Text_6 Tryz.f18 s_net_Text := fun d => by kernel_rfl
theorem c_net_Text : COK P s_net_Text := bdC hm t109_ok Tryz.func18 L_net_Text_6_ok b_net_Text
def t110 : Tab := t109.addP s_net_Text
theorem t110_ok : TabOK P t110 := t109_ok.aP c_net_Text

def st_k2_DeedsAgree_12 (d : List G) : Option (Option Nat × List G) :=
 (bif (ltI (gi d 4).int (gi d 3).int) then (bif ((nnI (gi d 4).int) && (ltI (gi d 4).int (((gi d 2).rows.length : Nat) : Int))) then (bif ((gi ((gi d 2).rows.getD (((gi d 4).int).toNat) []) 3).int != 5) then (bif ((Nat.beq (gi d 0).rows.length (gi d 0).rows.length) && (decide (((gi d 0).rows.length + 1) ≤ 1048576))) then (bif (inI ((gi d 4).int + 1)) then (bif ((Nat.beq ((gi d 0).rows ++ ([(gEta KDeed ((gi d 2).rows.getD (((gi d 4).int).toNat) []))] : List (List G))).length ((gi d 0).rows ++ ([(gEta KDeed ((gi d 2).rows.getD (((gi d 4).int).toNat) []))] : List (List G))).length) && true) then some (none, [.l ((gi d 0).rows ++ ([(gEta KDeed ((gi d 2).rows.getD (((gi d 4).int).toNat) []))] : List (List G))), .i (gi d 1).int, .l (gi d 2).rows, .i (gi d 3).int, .i ((gi d 4).int + 1)]) else none) else none) else none) else (bif (inI ((gi d 4).int + 1)) then (bif ((Nat.beq (gi d 0).rows.length (gi d 0).rows.length) && true) then some (none, [.l (gi d 0).rows, .i (gi d 1).int, .l (gi d 2).rows, .i (gi d 3).int, .i ((gi d 4).int + 1)]) else none) else none)) else none) else (bif ((Nat.beq (gi d 0).rows.length (gi d 0).rows.length) && true) then some (some 0, [.l (gi d 0).rows, .i (gi d 1).int]) else none))
def l_k2_DeedsAgree_12 : LSpec := ⟨12, [(17, KDeed)], ⟨131, [(5, .s (.int .i64)), (17, .s (.vec 0 15)), (87, .s (.list KDeed)), (88, .s (.int .i64)), (89, .s (.int .i64))], [.vec KDeed 0]⟩, [.slot 17], [⟨.exit 0, ⟨131, [(5, .s (.int .i64)), (17, .s (.vec 0 15))], [.vec KDeed 0]⟩, [.slot 17]⟩], st_k2_DeedsAgree_12⟩
theorem r_k2_DeedsAgree_12 : RoundOK P (t110.lessPf [21]) (nL0.hinted [(17, [.freeze 17])]) 0 (loopAt Tryz.f4 12) l_k2_DeedsAgree_12 := fun d => by kernel_rfl
def L_k2_DeedsAgree_12 : LT := (nL0.hinted [(17, [.freeze 17])]).add 0 l_k2_DeedsAgree_12
theorem L_k2_DeedsAgree_12_ok : LpK P 0 L_k2_DeedsAgree_12 (bodyOf Tryz.f4) := LpK.add hm (t110_ok.lessPf [21]) (by kernel_rfl) (hinted_ok _) r_k2_DeedsAgree_12
def st_k2_DeedsAgree_20 (d : List G) : Option (Option Nat × List G) :=
 (bif (ltI (gi d 6).int (gi d 5).int) then (bif ((nnI (gi d 6).int) && (ltI (gi d 6).int (((gi d 4).rows.length : Nat) : Int))) then (bif (leI (gi ((gi d 4).rows.getD (((gi d 6).int).toNat) []) 2).int (gi d 0).int) then (bif (inI ((gi d 3).int + 1)) then (bif (inI ((gi d 6).int + 1)) then some (none, [.i (gi d 0).int, .i (gi d 1).int, .l (gi d 2).rows, .i ((gi d 3).int + 1), .l (gi d 4).rows, .i (gi d 5).int, .i ((gi d 6).int + 1)]) else none) else none) else (bif (inI ((gi d 6).int + 1)) then some (none, [.i (gi d 0).int, .i (gi d 1).int, .l (gi d 2).rows, .i (gi d 3).int, .l (gi d 4).rows, .i (gi d 5).int, .i ((gi d 6).int + 1)]) else none)) else none) else some (some 0, [.i (gi d 1).int, .l (gi d 2).rows, .i (gi d 3).int]))
def l_k2_DeedsAgree_20 : LSpec := ⟨20, [], ⟨131, [(5, .s (.int .i64)), (9, .s (.int .i64)), (20, .s (.list [.int .i64])), (21, .s (.int .i64)), (107, .s (.list KDeed)), (108, .s (.int .i64)), (109, .s (.int .i64))], []⟩, [], [⟨.exit 2, ⟨131, [(9, .s (.int .i64)), (20, .s (.list [.int .i64])), (21, .s (.int .i64))], []⟩, []⟩], st_k2_DeedsAgree_20⟩
theorem r_k2_DeedsAgree_20 : RoundOK P (t110.lessPf [21]) L_k2_DeedsAgree_12 0 (loopAt Tryz.f4 20) l_k2_DeedsAgree_20 := fun d => by kernel_rfl
def L_k2_DeedsAgree_20 : LT := L_k2_DeedsAgree_12.add 0 l_k2_DeedsAgree_20
theorem L_k2_DeedsAgree_20_ok : LpK P 0 L_k2_DeedsAgree_20 (bodyOf Tryz.f4) := LpK.add hm (t110_ok.lessPf [21]) (by kernel_rfl) L_k2_DeedsAgree_12_ok r_k2_DeedsAgree_20
def F_k2_DeedsAgree (d : List G) : Option (List G) :=
 (callF (F_mk_Range [.l (gi d 0).rows, .i 0, .i 0, .i 12]) fun g1 => (callF (F_mk_RightDeeds [.l (gi g1 0).rows, .i (gi g1 1).int, .i (gi g1 2).int]) fun g2 => (callF (F_mk_Range [.l (gi g2 0).rows, .i (gi g2 1).int, .i 0, .i 60]) fun g3 => (callF (F_k2_parts_Deed [.l (gi g3 0).rows, .i (gi g3 1).int, .l (gi g2 2).rows]) fun g4 => (callF (F_net_Merge [.l (gi g4 2).rows, .l (gi g4 3).rows]) fun g5 => (callF (F_net_Merge [.l (gi g4 3).rows, .l (gi g4 2).rows]) fun g6 => (callF (F_net_Text [.l (gi g2 2).rows]) fun g7 => (callF (F_net_Read [.s (gi g7 0).str]) fun g8 => (callF (F_k2_errs [.l [[.i (gi g5 1).int], [.i (gi g6 1).int], [.i (gi g7 1).int], [.i (gi g8 2).int]]]) fun g9 => (bif ((gi g9 0).int != 0) then some [.t false] else (callF (F_sl_Equal_Deed [.l (gi g5 0).rows, .l (gi g2 2).rows]) fun g10 => (bif (!(gi g10 0).bool) then some [.t false] else (callF (F_sl_Equal_Deed [.l (gi g6 0).rows, .l (gi g2 2).rows]) fun g11 => (bif (!(gi g11 0).bool) then some [.t false] else (callF (F_sl_Equal_Deed [.l (gi g8 0).rows, .l (gi g2 2).rows]) fun g12 => (bif (!(gi g12 0).bool) then some [.t false] else (loopB true (LRun st_k2_DeedsAgree_12 [.l [], .i (gi g3 2).int, .l (gi g2 2).rows, .i (((gi g2 2).rows.length : Nat) : Int), .i 0]) fun cg13 g13 => (bif ((Nat.beq (gi g13 0).rows.length (gi g13 0).rows.length) && true) then (callF (F_net_Counting [.l (gi g13 0).rows, .i (gi g13 1).int]) fun g14 => (loopB true (LRun st_k2_DeedsAgree_20 [.i (gi g13 1).int, .i (gi g14 1).int, .l (gi g14 0).rows, .i 0, .l (gi g13 0).rows, .i (((gi g13 0).rows.length : Nat) : Int), .i 0]) fun cg15 g15 => (bif ((gi g15 0).int == 0) then (bif ((((gi g15 1).rows.length : Nat) : Int) == (gi g15 2).int) then (callF (F_k2_ready []) fun g16 => some [.t (gi g16 0).bool]) else some [.t false]) else some [.t false]))) else none))))))))))))))))))
def s_k2_DeedsAgree : FSpec := ⟨4, [.s (.list [.int .i64])], [], [], [.s (.bool)], [], [], [], F_k2_DeedsAgree⟩
theorem b_k2_DeedsAgree : BodyOK P (t110.lessPf [21]) L_k2_DeedsAgree_20 Tryz.f4 s_k2_DeedsAgree := fun d => by kernel_rfl
theorem c_k2_DeedsAgree : COK P s_k2_DeedsAgree := bodyC hm (t110_ok.lessPf [21]) Tryz.func4 (by kernel_rfl) L_k2_DeedsAgree_20_ok b_k2_DeedsAgree (by kernel_rfl)
def t111 : Tab := t110.addP s_k2_DeedsAgree
theorem t111_ok : TabOK P t111 := t110_ok.aP c_k2_DeedsAgree

end
end Go.Proofs.SYtchcbaapbinpbaaGreatDoor
