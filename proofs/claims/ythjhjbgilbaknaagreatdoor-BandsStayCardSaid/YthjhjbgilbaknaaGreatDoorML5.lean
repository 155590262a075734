/-
 What is proved here: functions of the program as functions on data. No condition.
-/
import Derived.Test.YthjhjbgilbaknaaGreatDoorML4
set_option linter.unusedSimpArgs false
set_option linter.unusedVariables false
set_option linter.unusedSectionVars false
namespace Go.Proofs.SYthjhjbgilbaknaaGreatDoor
open Go Go.AL Go.Proofs
noncomputable section
def st_sl_Equal_int_4 (d : List G) : Option (Option Nat × List G) :=
 (bif (ltI (gi d 3).int (gi d 2).int) then (bif ((nnI (gi d 3).int) && (ltI (gi d 3).int (((gi d 0).rows.length : Nat) : Int))) then (bif ((nnI (gi d 3).int) && (ltI (gi d 3).int (((gi d 1).rows.length : Nat) : Int))) then (bif ((gi ((gi d 0).rows.getD (((gi d 3).int).toNat) []) 0).int != (gi ((gi d 1).rows.getD (((gi d 3).int).toNat) []) 0).int) then some (some 0, [.t false]) else (bif (inI ((gi d 3).int + 1)) then some (none, [.l (gi d 0).rows, .l (gi d 1).rows, .i (gi d 2).int, .i ((gi d 3).int + 1)]) else none)) else none) else none) else some (some 1, []))
def l_sl_Equal_int_4 : LSpec := ⟨4, [], ⟨26, [(0, .s (.list [.int .i64])), (1, .s (.list [.int .i64])), (12, .s (.int .i64)), (13, .s (.int .i64))], []⟩, [], [⟨.ret, ⟨26, [(4, .s (.bool))], []⟩, []⟩, ⟨.exit 0, ⟨26, [], []⟩, []⟩], st_sl_Equal_int_4⟩
theorem r_sl_Equal_int_4 : RoundOK P t119 nL0 0 (loopAt Tryz.f49 4) l_sl_Equal_int_4 := fun d => by kernel_rfl
def L_sl_Equal_int_4 : LT := nL0.add 0 l_sl_Equal_int_4
theorem L_sl_Equal_int_4_ok : LpK P 0 L_sl_Equal_int_4 (bodyOf Tryz.f49) := LpK.add hm t119_ok (by kernel_rfl) (nLk _ _ _) r_sl_Equal_int_4
def F_sl_Equal_int (d : List G) : Option (List G) :=
 (bif ((((gi d 0).rows.length : Nat) : Int) != (((gi d 1).rows.length : Nat) : Int)) then some [.t false] else (loopB true (LRun st_sl_Equal_int_4 [.l (gi d 0).rows, .l (gi d 1).rows, .i (((gi d 0).rows.length : Nat) : Int), .i 0]) fun cg1 g1 => (bif Nat.beq cg1 0 then some [.t (gi g1 0).bool] else some [.t true])))
def s_sl_Equal_int : FSpec := ⟨49, [.s (.list [.int .i64]), .s (.list [.int .i64])], [], [], [.s (.bool)], [], [], [], F_sl_Equal_int⟩
theorem b_sl_Equal_int : BodyOK P t119 L_sl_Equal_int_4 Tryz.f49 s_sl_Equal_int := fun d => by kernel_rfl
theorem c_sl_Equal_int : ∀ d r, F_sl_Equal_int d = some r → ACallX P 49 (s_sl_Equal_int.args0 d) (denH (s_sl_Equal_int.H0 d)) (s_sl_Equal_int.out r) (denH (s_sl_Equal_int.H1 r)) := fun d r h => bSd hm t119_ok (sp := s_sl_Equal_int) Tryz.func49 (by kernel_rfl) L_sl_Equal_int_4_ok b_sl_Equal_int (by kernel_rfl) h
def t120 : Tab := t119.addP s_sl_Equal_int
theorem t120_ok : TabOK P t120 := t119_ok.addP (by kernel_rfl) (by kernel_rfl) c_sl_Equal_int

def F_k2_BandsStay_1 (d : List G) : Option (List G) :=
 (bif ((gi (gi d 0).row 0).str.toList == (gi (gi d 1).row 0).str.toList) then (bif ((gi (gi d 0).row 1).int == (gi (gi d 1).row 1).int) then (bif ((gi (gi d 0).row 2).int == (gi (gi d 1).row 2).int) then (bif (rowEq [.int .i64, .int .i64] [.i (gi (gi d 0).row 4).int, .i (gi (gi d 0).row 5).int] [.i (gi (gi d 1).row 4).int, .i (gi (gi d 1).row 5).int]) then (callF (F_sl_Equal_int [.l (gi (gi d 0).row 3).rows, .l (gi (gi d 1).row 3).rows]) fun g1 => some [.t (gi g1 0).bool]) else some [.t false]) else some [.t false]) else some [.t false]) else some [.t false])
def s_k2_BandsStay_1 : FSpec := ⟨48, [.s (.row KSegment), .s (.row KSegment)], [], [], [.s (.bool)], [], [], [], F_k2_BandsStay_1⟩
theorem b_k2_BandsStay_1 : BodyOK P t120 nL0 Tryz.f48 s_k2_BandsStay_1 := fun d => by kernel_rfl
theorem c_k2_BandsStay_1 : ∀ d r, F_k2_BandsStay_1 d = some r → ACallX P 48 (s_k2_BandsStay_1.args0 d) (denH (s_k2_BandsStay_1.H0 d)) (s_k2_BandsStay_1.out r) (denH (s_k2_BandsStay_1.H1 r)) := fun d r h => bSd hm t120_ok (sp := s_k2_BandsStay_1) Tryz.func48 (by kernel_rfl) (nLk _ _ _) b_k2_BandsStay_1 (by kernel_rfl) h
def t121 : Tab := t120.addP s_k2_BandsStay_1
theorem t121_ok : TabOK P t121 := t120_ok.addP (by kernel_rfl) (by kernel_rfl) c_k2_BandsStay_1

def st_sl_EqualFunc_Segment_4 (d : List G) : Option (Option Nat × List G) :=
 (bif (ltI (gi d 3).int (gi d 2).int) then (bif ((nnI (gi d 3).int) && (ltI (gi d 3).int (((gi d 1).rows.length : Nat) : Int))) then (bif ((nnI (gi d 3).int) && (ltI (gi d 3).int (((gi d 0).rows.length : Nat) : Int))) then (callF (F_k2_BandsStay_1 [.l [(gEta KSegment ((gi d 1).rows.getD (((gi d 3).int).toNat) []))], .l [(gEta KSegment ((gi d 0).rows.getD (((gi d 3).int).toNat) []))]]) fun g1 => (bif (!(gi g1 0).bool) then some (some 0, [.t false]) else (bif (inI ((gi d 3).int + 1)) then some (none, [.l (gi d 0).rows, .l (gi d 1).rows, .i (gi d 2).int, .i ((gi d 3).int + 1)]) else none))) else none) else none) else some (some 1, []))
def l_sl_EqualFunc_Segment_4 : LSpec := ⟨4, [], ⟨32, [(1, .s (.list KSegment)), (2, .s (.fn 48)), (15, .s (.list KSegment)), (16, .s (.int .i64)), (17, .s (.int .i64))], []⟩, [], [⟨.ret, ⟨32, [(6, .s (.bool))], []⟩, []⟩, ⟨.exit 0, ⟨32, [], []⟩, []⟩], st_sl_EqualFunc_Segment_4⟩
theorem r_sl_EqualFunc_Segment_4 : RoundOK P t121 nL0 0 (loopAt Tryz.f50 4) l_sl_EqualFunc_Segment_4 := fun d => by kernel_rfl
def L_sl_EqualFunc_Segment_4 : LT := nL0.add 0 l_sl_EqualFunc_Segment_4
theorem L_sl_EqualFunc_Segment_4_ok : LpK P 0 L_sl_EqualFunc_Segment_4 (bodyOf Tryz.f50) := LpK.add hm t121_ok (by kernel_rfl) (nLk _ _ _) r_sl_EqualFunc_Segment_4
def F_sl_EqualFunc_Segment (d : List G) : Option (List G) :=
 (bif ((((gi d 0).rows.length : Nat) : Int) != (((gi d 1).rows.length : Nat) : Int)) then some [.t false] else (loopB true (LRun st_sl_EqualFunc_Segment_4 [.l (gi d 1).rows, .l (gi d 0).rows, .i (((gi d 0).rows.length : Nat) : Int), .i 0]) fun cg2 g2 => (bif Nat.beq cg2 0 then some [.t (gi g2 0).bool] else some [.t true])))
def s_sl_EqualFunc_Segment : FSpec := ⟨50, [.s (.list KSegment), .s (.list KSegment), .s (.fn 48)], [], [], [.s (.bool)], [], [], [], F_sl_EqualFunc_Segment⟩
theorem b_sl_EqualFunc_Segment : BodyOK P t121 L_sl_EqualFunc_Segment_4 Tryz.f50 s_sl_EqualFunc_Segment := fun d => by kernel_rfl
theorem c_sl_EqualFunc_Segment : ∀ d r, F_sl_EqualFunc_Segment d = some r → ACallX P 50 (s_sl_EqualFunc_Segment.args0 d) (denH (s_sl_EqualFunc_Segment.H0 d)) (s_sl_EqualFunc_Segment.out r) (denH (s_sl_EqualFunc_Segment.H1 r)) := fun d r h => bSd hm t121_ok (sp := s_sl_EqualFunc_Segment) Tryz.func50 (by kernel_rfl) L_sl_EqualFunc_Segment_4_ok b_sl_EqualFunc_Segment (by kernel_rfl) h
def t122 : Tab := t121.addP s_sl_EqualFunc_Segment
theorem t122_ok : TabOK P t122 := t121_ok.addP (by kernel_rfl) (by kernel_rfl) c_sl_EqualFunc_Segment

def st_sl_Equal_Busy_4 (d : List G) : Option (Option Nat × List G) :=
 (bif (ltI (gi d 3).int (gi d 2).int) then (bif ((nnI (gi d 3).int) && (ltI (gi d 3).int (((gi d 0).rows.length : Nat) : Int))) then (bif ((nnI (gi d 3).int) && (ltI (gi d 3).int (((gi d 1).rows.length : Nat) : Int))) then (bif (!(rowEq KBusy (gEta KBusy ((gi d 0).rows.getD (((gi d 3).int).toNat) [])) (gEta KBusy ((gi d 1).rows.getD (((gi d 3).int).toNat) [])))) then some (some 0, [.t false]) else (bif (inI ((gi d 3).int + 1)) then some (none, [.l (gi d 0).rows, .l (gi d 1).rows, .i (gi d 2).int, .i ((gi d 3).int + 1)]) else none)) else none) else none) else some (some 1, []))
def l_sl_Equal_Busy_4 : LSpec := ⟨4, [], ⟨26, [(0, .s (.list KBusy)), (1, .s (.list KBusy)), (12, .s (.int .i64)), (13, .s (.int .i64))], []⟩, [], [⟨.ret, ⟨26, [(4, .s (.bool))], []⟩, []⟩, ⟨.exit 0, ⟨26, [], []⟩, []⟩], st_sl_Equal_Busy_4⟩
theorem r_sl_Equal_Busy_4 : RoundOK P t122 nL0 0 (loopAt Tryz.f51 4) l_sl_Equal_Busy_4 := fun d => by kernel_rfl
def L_sl_Equal_Busy_4 : LT := nL0.add 0 l_sl_Equal_Busy_4
theorem L_sl_Equal_Busy_4_ok : LpK P 0 L_sl_Equal_Busy_4 (bodyOf Tryz.f51) := LpK.add hm t122_ok (by kernel_rfl) (nLk _ _ _) r_sl_Equal_Busy_4
def F_sl_Equal_Busy (d : List G) : Option (List G) :=
 (bif ((((gi d 0).rows.length : Nat) : Int) != (((gi d 1).rows.length : Nat) : Int)) then some [.t false] else (loopB true (LRun st_sl_Equal_Busy_4 [.l (gi d 0).rows, .l (gi d 1).rows, .i (((gi d 0).rows.length : Nat) : Int), .i 0]) fun cg1 g1 => (bif Nat.beq cg1 0 then some [.t (gi g1 0).bool] else some [.t true])))
def s_sl_Equal_Busy : FSpec := ⟨51, [.s (.list KBusy), .s (.list KBusy)], [], [], [.s (.bool)], [], [], [], F_sl_Equal_Busy⟩
theorem b_sl_Equal_Busy : BodyOK P t122 L_sl_Equal_Busy_4 Tryz.f51 s_sl_Equal_Busy := fun d => by kernel_rfl
theorem c_sl_Equal_Busy : ∀ d r, F_sl_Equal_Busy d = some r → ACallX P 51 (s_sl_Equal_Busy.args0 d) (denH (s_sl_Equal_Busy.H0 d)) (s_sl_Equal_Busy.out r) (denH (s_sl_Equal_Busy.H1 r)) := fun d r h => bSd hm t122_ok (sp := s_sl_Equal_Busy) Tryz.func51 (by kernel_rfl) L_sl_Equal_Busy_4_ok b_sl_Equal_Busy (by kernel_rfl) h
def t123 : Tab := t122.addP s_sl_Equal_Busy
theorem t123_ok : TabOK P t123 := t122_ok.addP (by kernel_rfl) (by kernel_rfl) c_sl_Equal_Busy

def st_sl_Equal_Spot_4 (d : List G) : Option (Option Nat × List G) :=
 (bif (ltI (gi d 3).int (gi d 2).int) then (bif ((nnI (gi d 3).int) && (ltI (gi d 3).int (((gi d 0).rows.length : Nat) : Int))) then (bif ((nnI (gi d 3).int) && (ltI (gi d 3).int (((gi d 1).rows.length : Nat) : Int))) then (bif (!(rowEq KSpot (gEta KSpot ((gi d 0).rows.getD (((gi d 3).int).toNat) [])) (gEta KSpot ((gi d 1).rows.getD (((gi d 3).int).toNat) [])))) then some (some 0, [.t false]) else (bif (inI ((gi d 3).int + 1)) then some (none, [.l (gi d 0).rows, .l (gi d 1).rows, .i (gi d 2).int, .i ((gi d 3).int + 1)]) else none)) else none) else none) else some (some 1, []))
def l_sl_Equal_Spot_4 : LSpec := ⟨4, [], ⟨26, [(0, .s (.list KSpot)), (1, .s (.list KSpot)), (12, .s (.int .i64)), (13, .s (.int .i64))], []⟩, [], [⟨.ret, ⟨26, [(4, .s (.bool))], []⟩, []⟩, ⟨.exit 0, ⟨26, [], []⟩, []⟩], st_sl_Equal_Spot_4⟩
theorem r_sl_Equal_Spot_4 : RoundOK P t123 nL0 0 (loopAt Tryz.f23 4) l_sl_Equal_Spot_4 := fun d => by kernel_rfl
def L_sl_Equal_Spot_4 : LT := nL0.add 0 l_sl_Equal_Spot_4
theorem L_sl_Equal_Spot_4_ok : LpK P 0 L_sl_Equal_Spot_4 (bodyOf Tryz.f23) := LpK.add hm t123_ok (by kernel_rfl) (nLk _ _ _) r_sl_Equal_Spot_4
def F_sl_Equal_Spot (d : List G) : Option (List G) :=
 (bif ((((gi d 0).rows.length : Nat) : Int) != (((gi d 1).rows.length : Nat) : Int)) then some [.t false] else (loopB true (LRun st_sl_Equal_Spot_4 [.l (gi d 0).rows, .l (gi d 1).rows, .i (((gi d 0).rows.length : Nat) : Int), .i 0]) fun cg1 g1 => (bif Nat.beq cg1 0 then some [.t (gi g1 0).bool] else some [.t true])))
def s_sl_Equal_Spot : FSpec := ⟨23, [.s (.list KSpot), .s (.list KSpot)], [], [], [.s (.bool)], [], [], [], F_sl_Equal_Spot⟩
theorem b_sl_Equal_Spot : BodyOK P t123 L_sl_Equal_Spot_4 Tryz.f23 s_sl_Equal_Spot := fun d => by kernel_rfl
theorem c_sl_Equal_Spot : ∀ d r, F_sl_Equal_Spot d = some r → ACallX P 23 (s_sl_Equal_Spot.args0 d) (denH (s_sl_Equal_Spot.H0 d)) (s_sl_Equal_Spot.out r) (denH (s_sl_Equal_Spot.H1 r)) := fun d r h => bSd hm t123_ok (sp := s_sl_Equal_Spot) Tryz.func23 (by kernel_rfl) L_sl_Equal_Spot_4_ok b_sl_Equal_Spot (by kernel_rfl) h
def t124 : Tab := t123.addP s_sl_Equal_Spot
theorem t124_ok : TabOK P t124 := t123_ok.addP (by kernel_rfl) (by kernel_rfl) c_sl_Equal_Spot

def st_sl_Equal_Band_4 (d : List G) : Option (Option Nat × List G) :=
 (bif (ltI (gi d 3).int (gi d 2).int) then (bif ((nnI (gi d 3).int) && (ltI (gi d 3).int (((gi d 0).rows.length : Nat) : Int))) then (bif ((nnI (gi d 3).int) && (ltI (gi d 3).int (((gi d 1).rows.length : Nat) : Int))) then (bif (!(rowEq KBand (gEta KBand ((gi d 0).rows.getD (((gi d 3).int).toNat) [])) (gEta KBand ((gi d 1).rows.getD (((gi d 3).int).toNat) [])))) then some (some 0, [.t false]) else (bif (inI ((gi d 3).int + 1)) then some (none, [.l (gi d 0).rows, .l (gi d 1).rows, .i (gi d 2).int, .i ((gi d 3).int + 1)]) else none)) else none) else none) else some (some 1, []))
def l_sl_Equal_Band_4 : LSpec := ⟨4, [], ⟨26, [(0, .s (.list KBand)), (1, .s (.list KBand)), (12, .s (.int .i64)), (13, .s (.int .i64))], []⟩, [], [⟨.ret, ⟨26, [(4, .s (.bool))], []⟩, []⟩, ⟨.exit 0, ⟨26, [], []⟩, []⟩], st_sl_Equal_Band_4⟩
theorem r_sl_Equal_Band_4 : RoundOK P t124 nL0 0 (loopAt Tryz.f52 4) l_sl_Equal_Band_4 := fun d => by kernel_rfl
def L_sl_Equal_Band_4 : LT := nL0.add 0 l_sl_Equal_Band_4
theorem L_sl_Equal_Band_4_ok : LpK P 0 L_sl_Equal_Band_4 (bodyOf Tryz.f52) := LpK.add hm t124_ok (by kernel_rfl) (nLk _ _ _) r_sl_Equal_Band_4
def F_sl_Equal_Band (d : List G) : Option (List G) :=
 (bif ((((gi d 0).rows.length : Nat) : Int) != (((gi d 1).rows.length : Nat) : Int)) then some [.t false] else (loopB true (LRun st_sl_Equal_Band_4 [.l (gi d 0).rows, .l (gi d 1).rows, .i (((gi d 0).rows.length : Nat) : Int), .i 0]) fun cg1 g1 => (bif Nat.beq cg1 0 then some [.t (gi g1 0).bool] else some [.t true])))
def s_sl_Equal_Band : FSpec := ⟨52, [.s (.list KBand), .s (.list KBand)], [], [], [.s (.bool)], [], [], [], F_sl_Equal_Band⟩
theorem b_sl_Equal_Band : BodyOK P t124 L_sl_Equal_Band_4 Tryz.f52 s_sl_Equal_Band := fun d => by kernel_rfl
theorem c_sl_Equal_Band : ∀ d r, F_sl_Equal_Band d = some r → ACallX P 52 (s_sl_Equal_Band.args0 d) (denH (s_sl_Equal_Band.H0 d)) (s_sl_Equal_Band.out r) (denH (s_sl_Equal_Band.H1 r)) := fun d r h => bSd hm t124_ok (sp := s_sl_Equal_Band) Tryz.func52 (by kernel_rfl) L_sl_Equal_Band_4_ok b_sl_Equal_Band (by kernel_rfl) h
def t125 : Tab := t124.addP s_sl_Equal_Band
theorem t125_ok : TabOK P t125 := t124_ok.addP (by kernel_rfl) (by kernel_rfl) c_sl_Equal_Band

def F_k2_BandsStay (d : List G) : Option (List G) :=
 (callF (F_mk_Segments [.l (gi d 0).rows, .i 0]) fun g1 => (callF (F_mk_Busies [.l (gi g1 0).rows, .i (gi g1 1).int]) fun g2 => (callF (F_mk_RightSpots [.l (gi g2 0).rows, .i (gi g2 1).int, .i 8]) fun g3 => (callF (F_mk_RightBands [.l (gi g3 0).rows, .i (gi g3 1).int]) fun g4 => (callF (F_mk_Segments [.l (gi d 0).rows, .i 0]) fun g5 => (callF (F_mk_Busies [.l (gi g5 0).rows, .i (gi g5 1).int]) fun g6 => (callF (F_mk_RightSpots [.l (gi g6 0).rows, .i (gi g6 1).int, .i 8]) fun g7 => (callF (F_mk_RightBands [.l (gi g7 0).rows, .i (gi g7 1).int]) fun g8 => (callF (F_band_Free_f [.l (gi g1 2).rows, .l (gi g2 2).rows, .s (⟨#[102, 117, 108, 108]⟩ : ByteArray), .i 1, .i 5, .i 20]) fun g9 => (callB (((Nat.beq (gi g9 0).rows.length (gi g9 0).rows.length) && true) && (F_k2_spoil_Row [.l (gi g9 0).rows]).isSome) (F_k2_spoil_Row [.l (gi g9 0).rows]) fun g10 => (callF (F_band_Merge_f [.l (gi g3 2).rows, .l []]) fun g11 => (callB (((Nat.beq (gi g11 0).rows.length (gi g11 0).rows.length) && true) && (F_k2_spoil_Spot [.l (gi g11 0).rows]).isSome) (F_k2_spoil_Spot [.l (gi g11 0).rows]) fun g12 => (callF (F_band_Heard_f [.l (gi g4 2).rows, .l (gi g3 2).rows, .i 100, .i 50]) fun g13 => (callB (((Nat.beq (gi g13 0).rows.length (gi g13 0).rows.length) && true) && (F_k2_spoil_Spot [.l (gi g13 0).rows]).isSome) (F_k2_spoil_Spot [.l (gi g13 0).rows]) fun g14 => (callF (F_band_Sweep [.l (gi g4 2).rows, .l (gi g3 2).rows, .i 100, .i 50, .i 7000000]) fun g15 => (callF (F_sl_EqualFunc_Segment [.l (gi g1 2).rows, .l (gi g5 2).rows]) fun g16 => (bif (gi g16 0).bool then (callF (F_sl_Equal_Busy [.l (gi g2 2).rows, .l (gi g6 2).rows]) fun g17 => (bif (gi g17 0).bool then (callF (F_sl_Equal_Spot [.l (gi g3 2).rows, .l (gi g7 2).rows]) fun g18 => (bif (gi g18 0).bool then (callF (F_sl_Equal_Band [.l (gi g4 2).rows, .l (gi g8 2).rows]) fun g19 => (bif (gi g19 0).bool then (callF (F_k2_ready []) fun g20 => some [.t (gi g20 0).bool]) else some [.t false])) else some [.t false])) else some [.t false])) else some [.t false])))))))))))))))))
def s_k2_BandsStay : FSpec := ⟨6, [.s (.list [.int .i64])], [], [], [.s (.bool)], [], [], [], F_k2_BandsStay⟩
theorem b_k2_BandsStay : BodyOK P t125 nL0 Tryz.f6 s_k2_BandsStay := fun d => by kernel_rfl
theorem c_k2_BandsStay : ∀ d r, F_k2_BandsStay d = some r → ACallX P 6 (s_k2_BandsStay.args0 d) (denH (s_k2_BandsStay.H0 d)) (s_k2_BandsStay.out r) (denH (s_k2_BandsStay.H1 r)) := fun d r h => bSd hm t125_ok (sp := s_k2_BandsStay) Tryz.func6 (by kernel_rfl) (nLk _ _ _) b_k2_BandsStay (by kernel_rfl) h
def t126 : Tab := t125.addP s_k2_BandsStay
theorem t126_ok : TabOK P t126 := t125_ok.addP (by kernel_rfl) (by kernel_rfl) c_k2_BandsStay

end
end Go.Proofs.SYthjhjbgilbaknaaGreatDoor
