/-
  What is proved here: functions of the program as functions on data. No condition.
-/
import Derived.Test.YtmgdncpkhfgooaaGreatDoorMG
import Derived.Test.YtmgdncpkhfgooaaGreatDoorChecked
import Derived.Shelf.Small.Strs
import Derived.Shelf.Strings.Search1
import Derived.Shelf.Strings.SlTrimAscii
set_option linter.unusedSimpArgs false
set_option linter.unusedVariables false
set_option linter.unusedSectionVars false
namespace Go.Proofs
open Go.Shelf Go.RowKit
set_option maxHeartbeats 4000000
def Tryz.laysCompare_ren : Go.Shelf.Ren := ⟨fun | 106 => 82 | 213 => 128 | 265 => 176 | n => n, fun | 9 => 9 | 3 => 3 | n => n, fun | n => n⟩
theorem Tryz.laysCompare : Go.Proofs.Lays.n106 Tryz.prog Tryz.laysCompare_ren := { mixed := by kernel_rfl, f106 := Tryz.func82.trans (congrArg some (by kernel_rfl)), f213 := Tryz.func128.trans (congrArg some (by kernel_rfl)), f265 := Tryz.func176.trans (congrArg some (by kernel_rfl)), t3 := Tryz.underlying3, a3 := Tryz.isAgg3, z3 := Tryz.sizeOf3, v3 := Tryz.zeroValue3, t9 := Tryz.underlying9, a9 := Tryz.isAgg9, z9 := Tryz.sizeOf9, v9 := Tryz.zeroValue9 }
def Tryz.laysIndexByte_ren : Go.Shelf.Ren := ⟨fun | 137 => 116 | 217 => 158 | 266 => 204 | n => n, fun | 9 => 9 | 5 => 5 | 3 => 3 | n => n, fun | n => n⟩
theorem Tryz.laysIndexByte : Go.Proofs.Lays.n137 Tryz.prog Tryz.laysIndexByte_ren := { mixed := by kernel_rfl, f137 := Tryz.func116.trans (congrArg some (by kernel_rfl)), f217 := Tryz.func158.trans (congrArg some (by kernel_rfl)), f266 := Tryz.func204.trans (congrArg some (by kernel_rfl)), t3 := Tryz.underlying3, a3 := Tryz.isAgg3, z3 := Tryz.sizeOf3, v3 := Tryz.zeroValue3, t5 := Tryz.underlying5, a5 := Tryz.isAgg5, z5 := Tryz.sizeOf5, v5 := Tryz.zeroValue5, t9 := Tryz.underlying9, a9 := Tryz.isAgg9, z9 := Tryz.sizeOf9, v9 := Tryz.zeroValue9 }
def Tryz.laysTrim_ren : Go.Shelf.Ren := ⟨fun | 160 => 117 | 232 => 160 | 231 => 159 | 227 => 161 | 234 => 163 | 233 => 162 | 236 => 165 | 235 => 164 | 228 => 205 | 271 => 208 | 151 => 207 | 197 => 206 | 120 => 247 | 152 => 236 | 260 => 246 | 137 => 116 | 119 => 269 | 224 => 267 | 225 => 266 | 217 => 158 | 266 => 204 | n => n, fun | 9 => 9 | 4 => 4 | 3 => 3 | 5 => 5 | 117 => 184 | 116 => 183 | 0 => 0 | 124 => 187 | 21 => 21 | 105 => 224 | 46 => 169 | 119 => 267 | 139 => 270 | 138 => 269 | n => n, fun | 3 => 1 | 4 => 2 | n => n⟩
theorem Tryz.laysTrim : Go.Proofs.Lays.n160 Tryz.prog Tryz.laysTrim_ren := { mixed := by kernel_rfl, f119 := Tryz.func269.trans (congrArg some (by kernel_rfl)), f120 := Tryz.func247.trans (congrArg some (by kernel_rfl)), f137 := Tryz.func116.trans (congrArg some (by kernel_rfl)), f151 := Tryz.func207.trans (congrArg some (by kernel_rfl)), f152 := Tryz.func236.trans (congrArg some (by kernel_rfl)), f160 := Tryz.func117.trans (congrArg some (by kernel_rfl)), f197 := Tryz.func206.trans (congrArg some (by kernel_rfl)), f217 := Tryz.func158.trans (congrArg some (by kernel_rfl)), f224 := Tryz.func267.trans (congrArg some (by kernel_rfl)), f225 := Tryz.func266.trans (congrArg some (by kernel_rfl)), f227 := Tryz.func161.trans (congrArg some (by kernel_rfl)), f228 := Tryz.func205.trans (congrArg some (by kernel_rfl)), f231 := Tryz.func159.trans (congrArg some (by kernel_rfl)), f232 := Tryz.func160.trans (congrArg some (by kernel_rfl)), f233 := Tryz.func162.trans (congrArg some (by kernel_rfl)), f234 := Tryz.func163.trans (congrArg some (by kernel_rfl)), f235 := Tryz.func164.trans (congrArg some (by kernel_rfl)), f236 := Tryz.func165.trans (congrArg some (by kernel_rfl)), f260 := Tryz.func246.trans (congrArg some (by kernel_rfl)), f266 := Tryz.func204.trans (congrArg some (by kernel_rfl)), f271 := Tryz.func208.trans (congrArg some (by kernel_rfl)), t0 := Tryz.underlying0, a0 := Tryz.isAgg0, z0 := Tryz.sizeOf0, v0 := Tryz.zeroValue0, t3 := Tryz.underlying3, a3 := Tryz.isAgg3, z3 := Tryz.sizeOf3, v3 := Tryz.zeroValue3, t4 := Tryz.underlying4, a4 := Tryz.isAgg4, z4 := Tryz.sizeOf4, v4 := Tryz.zeroValue4, t5 := Tryz.underlying5, a5 := Tryz.isAgg5, z5 := Tryz.sizeOf5, v5 := Tryz.zeroValue5, t9 := Tryz.underlying9, a9 := Tryz.isAgg9, z9 := Tryz.sizeOf9, v9 := Tryz.zeroValue9, t21 := Tryz.underlying21, a21 := Tryz.isAgg21, z21 := Tryz.sizeOf21, v21 := Tryz.zeroValue21, t46 := Tryz.underlying169, a46 := Tryz.isAgg169, z46 := Tryz.sizeOf169, v46 := Tryz.zeroValue169, t105 := Tryz.underlying224, a105 := Tryz.isAgg224, z105 := Tryz.sizeOf224, v105 := Tryz.zeroValue224, t116 := Tryz.underlying183, a116 := Tryz.isAgg183, z116 := Tryz.sizeOf183, t117 := Tryz.underlying184, a117 := Tryz.isAgg184, z117 := Tryz.sizeOf184, v117 := Tryz.zeroValue184, t119 := Tryz.underlying267, a119 := Tryz.isAgg267, z119 := Tryz.sizeOf267, t124 := Tryz.underlying187, a124 := Tryz.isAgg187, z124 := Tryz.sizeOf187, v124 := Tryz.zeroValue187, t138 := Tryz.underlying269, a138 := Tryz.isAgg269, z138 := Tryz.sizeOf269, v138 := Tryz.zeroValue269, t139 := Tryz.underlying270, a139 := Tryz.isAgg270, z139 := Tryz.sizeOf270, v139 := Tryz.zeroValue270, g3 := by kernel_rfl, g4 := by kernel_rfl }
def Tryz.laysSlIndexByte_ren : Go.Shelf.Ren := ⟨fun | 217 => 158 | 266 => 204 | n => n, fun | 9 => 9 | 5 => 5 | 3 => 3 | n => n, fun | n => n⟩
theorem Tryz.laysSlIndexByte : Go.Proofs.Lays.n217 Tryz.prog Tryz.laysSlIndexByte_ren := { mixed := by kernel_rfl, f217 := Tryz.func158.trans (congrArg some (by kernel_rfl)), f266 := Tryz.func204.trans (congrArg some (by kernel_rfl)), t3 := Tryz.underlying3, a3 := Tryz.isAgg3, z3 := Tryz.sizeOf3, v3 := Tryz.zeroValue3, t5 := Tryz.underlying5, a5 := Tryz.isAgg5, z5 := Tryz.sizeOf5, v5 := Tryz.zeroValue5, t9 := Tryz.underlying9, a9 := Tryz.isAgg9, z9 := Tryz.sizeOf9, v9 := Tryz.zeroValue9 }
end Go.Proofs
namespace Go.Proofs.SYtmgdncpkhfgooaaGreatDoor
open Go Go.AL Go.Proofs
noncomputable section
abbrev P : Program := Tryz.prog
theorem hm : P.follows .mixedOrders = true := Tryz.checked.mixed
def cmpS (a b : ByteArray) : Int := Lib.compareBytes a.data.toList b.data.toList
def idxB (s : ByteArray) (c : Int) : Int := Lib.indexByte s.data.toList c.toNat.toUInt8
def trimB (s cut : ByteArray) : ByteArray := ⟨(Lib.trimS s.data.toList cut.data.toList).toArray⟩
def ascii (cut : ByteArray) : Bool := cut.data.toList.all fun b => Nat.blt b.toNat 128
def eqS (a b : ByteArray) : Bool := a.data.toList == b.data.toList
theorem eqS_eq {a b : ByteArray} (h : eqS a b = true) : a = b := by
  unfold eqS at h
  rw [beq_iff_eq] at h
  cases a with
  | mk a =>
    cases b with
    | mk b =>
      congr 1
      exact Array.ext' h
def lookS {α : Type} : List (ByteArray × α) → ByteArray → Option α
  | [], _ => none
  | (k, v) :: l, s => bif eqS k s then some v else lookS l s
theorem lookS_mem {α : Type} {s : ByteArray} {v : α} : ∀ {l : List (ByteArray × α)}, lookS l s = some v → (s, v) ∈ l
  | [], h => by cases h
  | (k, u) :: l, h => by
    simp only [lookS] at h
    cases hk : eqS k s with
    | true =>
      rw [hk] at h
      cases h
      rw [eqS_eq hk]
      exact List.mem_cons_self
    | false =>
      rw [hk] at h
      exact List.mem_cons_of_mem _ (lookS_mem h)
abbrev KPlace : List Kd := [.int .i64, .int .i64, .str]
abbrev KBusy : List Kd := [.str, .int .i64, .int .i64, .int .i64, .int .i64]
abbrev KContact : List Kd := [.int .i64, .int .i64, .str, .str, .int .i64, .int .i64, .str, .str]
abbrev KChange : List Kd := [.int .i64, .int .i64, .int .i64, .int .i64, .str, .str, .int .i64, .int .i64, .str, .str, .int .i64, .int .i64, .str, .str, .int .i64, .int .i64, .str, .str]
abbrev KEntrant : List Kd := [.str, .str, .int .i64, .str]
abbrev KSegment : List Kd := [.str, .int .i64, .int .i64, .list [.int .i64], .int .i64, .int .i64]
abbrev KDeed : List Kd := [.str, .int .i64, .int .i64, .int .i64, .int .i64, .int .i64, .str, .str, .int .i64, .int .i64, .str, .str, .str, .str, .int .i64]
abbrev KParts : List Kd := [.str, .str, .str, .int .i64, .str]
def t0 : Tab := tabM [130]
theorem t0_ok : TabOK P t0 := tabM_ok P _
def F_strings_Compare (d : List G) : Option (List G) := some [.i (cmpS (gi d 0).str (gi d 1).str)]
def s_strings_Compare : FSpec := ⟨82, [.s (.str), .s (.str)], [], [], [.s (.int .i64)], [], [], [], F_strings_Compare⟩
theorem c_strings_Compare : ∀ d r, F_strings_Compare d = some r → ACallX P 82 (s_strings_Compare.args0 d) (denH (s_strings_Compare.H0 d)) (s_strings_Compare.out r) (denH (s_strings_Compare.H1 r)) := fun d r h => by
  cases h
  exact (pcall_lits (vs := [.string (gi d 0).str, .string (gi d 1).str]) fun w => (Proofs.Any.strings_Compare Tryz.laysCompare (gi d 0).str (gi d 1).str w).mono fun e w' h => ⟨h.1, h.2 ▸ Ext.refl w⟩) []
def t1 : Tab := t0.addP s_strings_Compare
theorem t1_ok : TabOK P t1 := t0_ok.addP (by kernel_rfl) (by kernel_rfl) c_strings_Compare
def F_strings_IndexByte (d : List G) : Option (List G) := some [.i (idxB (gi d 0).str (gi d 1).int)]
def s_strings_IndexByte : FSpec := ⟨116, [.s (.str), .s (.int .u8)], [], [], [.s (.int .i64)], [], [], [], F_strings_IndexByte⟩
theorem c_strings_IndexByte : ∀ d r, F_strings_IndexByte d = some r → ACallX P 116 (s_strings_IndexByte.args0 d) (denH (s_strings_IndexByte.H0 d)) (s_strings_IndexByte.out r) (denH (s_strings_IndexByte.H1 r)) := fun d r h => by
  cases h
  exact (pcall_lits (vs := [.string (gi d 0).str, .int .u8 (gi d 1).int]) fun w => (Proofs.Any.strings_IndexByte Tryz.laysIndexByte (gi d 0).str (gi d 1).int w).mono fun e w' h => ⟨h.1, h.2 ▸ Ext.refl w⟩) []
def t2 : Tab := t1.addP s_strings_IndexByte
theorem t2_ok : TabOK P t2 := t1_ok.addP (by kernel_rfl) (by kernel_rfl) c_strings_IndexByte
def F_strings_Trim (d : List G) : Option (List G) := bif (ascii (gi d 1).str && (Nat.blt (gi d 1).str.size 4294967281 && Nat.ble (gi d 0).str.size 9223372036854775807)) then some [.s (trimB (gi d 0).str (gi d 1).str)] else none
def s_strings_Trim : FSpec := ⟨117, [.s (.str), .s (.str)], [], [], [.s (.str)], [], [], [], F_strings_Trim⟩
theorem c_strings_Trim : ∀ d r, F_strings_Trim d = some r → ACallX P 117 (s_strings_Trim.args0 d) (denH (s_strings_Trim.H0 d)) (s_strings_Trim.out r) (denH (s_strings_Trim.H1 r)) := fun d r h => by
  unfold F_strings_Trim at h
  cases hb : (ascii (gi d 1).str && (Nat.blt (gi d 1).str.size 4294967281 && Nat.ble (gi d 0).str.size 9223372036854775807)) with
  | false => rw [hb] at h; cases h
  | true =>
    rw [hb] at h
    cases h
    simp only [Bool.and_eq_true, Nat.blt_eq, Nat.ble_eq] at hb
    exact (pcall_lits (vs := [.string (gi d 0).str, .string (gi d 1).str]) fun w => (Proofs.Any.strings_Trim_laid Tryz.laysTrim (by kernel_rfl) (gi d 0).str (gi d 1).str w hb.2.2 hb.2.1 fun j b hj => by
      have := List.all_eq_true.1 hb.1 b (List.mem_of_getElem? hj)
      simpa [Nat.blt_eq] using this).mono fun _ _ h => ⟨h.1, ⟨h.2.size, fun b hb => h.2.block b hb, ⟨h.2.os, h.2.output⟩⟩⟩) []
def t3 : Tab := t2.addP s_strings_Trim
theorem t3_ok : TabOK P t3 := t2_ok.addP (by kernel_rfl) (by kernel_rfl) c_strings_Trim
def F_stringslite_IndexByte (d : List G) : Option (List G) := some [.i (idxB (gi d 0).str (gi d 1).int)]
def s_stringslite_IndexByte : FSpec := ⟨158, [.s (.str), .s (.int .u8)], [], [], [.s (.int .i64)], [], [], [], F_stringslite_IndexByte⟩
theorem c_stringslite_IndexByte : ∀ d r, F_stringslite_IndexByte d = some r → ACallX P 158 (s_stringslite_IndexByte.args0 d) (denH (s_stringslite_IndexByte.H0 d)) (s_stringslite_IndexByte.out r) (denH (s_stringslite_IndexByte.H1 r)) := fun d r h => by
  cases h
  exact (pcall_lits (vs := [.string (gi d 0).str, .int .u8 (gi d 1).int]) fun w => (Proofs.Any.stringslite_IndexByte Tryz.laysSlIndexByte (gi d 0).str (gi d 1).int w).mono fun e w' h => ⟨h.1, h.2 ▸ Ext.refl w⟩) []
def t4 : Tab := t3.addP s_stringslite_IndexByte
theorem t4_ok : TabOK P t4 := t3_ok.addP (by kernel_rfl) (by kernel_rfl) c_stringslite_IndexByte
end
end Go.Proofs.SYtmgdncpkhfgooaaGreatDoor
