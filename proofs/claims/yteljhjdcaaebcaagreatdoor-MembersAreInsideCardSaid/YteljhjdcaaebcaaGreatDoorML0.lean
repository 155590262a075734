/-
  What is proved here: functions of the program as functions on data. No condition.
-/
import Derived.Test.YteljhjdcaaebcaaGreatDoorMG
import Derived.Test.YteljhjdcaaebcaaGreatDoorChecked
import Derived.Test.YteljhjdcaaebcaaGreatDoorMI
import Derived.Shelf.SortM.Plain
import Derived.Shelf.SortM.SortNone
import Derived.Shelf.Small.Strs
import Derived.Shelf.Strings.Search1
import Derived.Shelf.Strings.SlTrimAscii
set_option linter.unusedSimpArgs false
set_option linter.unusedVariables false
set_option linter.unusedSectionVars false
namespace Go.Proofs
open Go.Shelf Go.RowKit
set_option maxHeartbeats 4000000
def Tryz.laysCompare_ren : Go.Shelf.Ren := ⟨fun | 106 => 98 | 213 => 134 | 265 => 164 | n => n, fun | 9 => 9 | 3 => 3 | n => n, fun | n => n⟩
theorem Tryz.laysCompare : Go.Proofs.Lays.n106 Tryz.prog Tryz.laysCompare_ren := { mixed := by kernel_rfl, f106 := Tryz.func98.trans (congrArg some (by kernel_rfl)), f213 := Tryz.func134.trans (congrArg some (by kernel_rfl)), f265 := Tryz.func164.trans (congrArg some (by kernel_rfl)), t3 := Tryz.underlying3, a3 := Tryz.isAgg3, z3 := Tryz.sizeOf3, v3 := Tryz.zeroValue3, t9 := Tryz.underlying9, a9 := Tryz.isAgg9, z9 := Tryz.sizeOf9, v9 := Tryz.zeroValue9 }
def Tryz.laysIndexByte_ren : Go.Shelf.Ren := ⟨fun | 137 => 91 | 217 => 123 | 266 => 160 | n => n, fun | 9 => 9 | 5 => 5 | 3 => 3 | n => n, fun | n => n⟩
theorem Tryz.laysIndexByte : Go.Proofs.Lays.n137 Tryz.prog Tryz.laysIndexByte_ren := { mixed := by kernel_rfl, f137 := Tryz.func91.trans (congrArg some (by kernel_rfl)), f217 := Tryz.func123.trans (congrArg some (by kernel_rfl)), f266 := Tryz.func160.trans (congrArg some (by kernel_rfl)), t3 := Tryz.underlying3, a3 := Tryz.isAgg3, z3 := Tryz.sizeOf3, v3 := Tryz.zeroValue3, t5 := Tryz.underlying5, a5 := Tryz.isAgg5, z5 := Tryz.sizeOf5, v5 := Tryz.zeroValue5, t9 := Tryz.underlying9, a9 := Tryz.isAgg9, z9 := Tryz.sizeOf9, v9 := Tryz.zeroValue9 }
def Tryz.laysTrim_ren : Go.Shelf.Ren := ⟨fun | 160 => 92 | 232 => 125 | 231 => 124 | 227 => 126 | 234 => 128 | 233 => 127 | 236 => 130 | 235 => 129 | 228 => 157 | 271 => 158 | 151 => 162 | 197 => 161 | 120 => 188 | 152 => 155 | 260 => 189 | 137 => 91 | 119 => 187 | 224 => 185 | 225 => 184 | 217 => 123 | 266 => 160 | n => n, fun | 9 => 9 | 4 => 4 | 3 => 3 | 5 => 5 | 117 => 161 | 116 => 160 | 0 => 0 | 124 => 164 | 21 => 21 | 105 => 193 | 46 => 151 | 119 => 235 | 139 => 238 | 138 => 237 | n => n, fun | 3 => 1 | 4 => 2 | n => n⟩
theorem Tryz.laysTrim : Go.Proofs.Lays.n160 Tryz.prog Tryz.laysTrim_ren := { mixed := by kernel_rfl, f119 := Tryz.func187.trans (congrArg some (by kernel_rfl)), f120 := Tryz.func188.trans (congrArg some (by kernel_rfl)), f137 := Tryz.func91.trans (congrArg some (by kernel_rfl)), f151 := Tryz.func162.trans (congrArg some (by kernel_rfl)), f152 := Tryz.func155.trans (congrArg some (by kernel_rfl)), f160 := Tryz.func92.trans (congrArg some (by kernel_rfl)), f197 := Tryz.func161.trans (congrArg some (by kernel_rfl)), f217 := Tryz.func123.trans (congrArg some (by kernel_rfl)), f224 := Tryz.func185.trans (congrArg some (by kernel_rfl)), f225 := Tryz.func184.trans (congrArg some (by kernel_rfl)), f227 := Tryz.func126.trans (congrArg some (by kernel_rfl)), f228 := Tryz.func157.trans (congrArg some (by kernel_rfl)), f231 := Tryz.func124.trans (congrArg some (by kernel_rfl)), f232 := Tryz.func125.trans (congrArg some (by kernel_rfl)), f233 := Tryz.func127.trans (congrArg some (by kernel_rfl)), f234 := Tryz.func128.trans (congrArg some (by kernel_rfl)), f235 := Tryz.func129.trans (congrArg some (by kernel_rfl)), f236 := Tryz.func130.trans (congrArg some (by kernel_rfl)), f260 := Tryz.func189.trans (congrArg some (by kernel_rfl)), f266 := Tryz.func160.trans (congrArg some (by kernel_rfl)), f271 := Tryz.func158.trans (congrArg some (by kernel_rfl)), t0 := Tryz.underlying0, a0 := Tryz.isAgg0, z0 := Tryz.sizeOf0, v0 := Tryz.zeroValue0, t3 := Tryz.underlying3, a3 := Tryz.isAgg3, z3 := Tryz.sizeOf3, v3 := Tryz.zeroValue3, t4 := Tryz.underlying4, a4 := Tryz.isAgg4, z4 := Tryz.sizeOf4, v4 := Tryz.zeroValue4, t5 := Tryz.underlying5, a5 := Tryz.isAgg5, z5 := Tryz.sizeOf5, v5 := Tryz.zeroValue5, t9 := Tryz.underlying9, a9 := Tryz.isAgg9, z9 := Tryz.sizeOf9, v9 := Tryz.zeroValue9, t21 := Tryz.underlying21, a21 := Tryz.isAgg21, z21 := Tryz.sizeOf21, v21 := Tryz.zeroValue21, t46 := Tryz.underlying151, a46 := Tryz.isAgg151, z46 := Tryz.sizeOf151, v46 := Tryz.zeroValue151, t105 := Tryz.underlying193, a105 := Tryz.isAgg193, z105 := Tryz.sizeOf193, v105 := Tryz.zeroValue193, t116 := Tryz.underlying160, a116 := Tryz.isAgg160, z116 := Tryz.sizeOf160, t117 := Tryz.underlying161, a117 := Tryz.isAgg161, z117 := Tryz.sizeOf161, v117 := Tryz.zeroValue161, t119 := Tryz.underlying235, a119 := Tryz.isAgg235, z119 := Tryz.sizeOf235, t124 := Tryz.underlying164, a124 := Tryz.isAgg164, z124 := Tryz.sizeOf164, v124 := Tryz.zeroValue164, t138 := Tryz.underlying237, a138 := Tryz.isAgg237, z138 := Tryz.sizeOf237, v138 := Tryz.zeroValue237, t139 := Tryz.underlying238, a139 := Tryz.isAgg238, z139 := Tryz.sizeOf238, v139 := Tryz.zeroValue238, g3 := by kernel_rfl, g4 := by kernel_rfl }
def Tryz.laysSlIndexByte_ren : Go.Shelf.Ren := ⟨fun | 217 => 123 | 266 => 160 | n => n, fun | 9 => 9 | 5 => 5 | 3 => 3 | n => n, fun | n => n⟩
theorem Tryz.laysSlIndexByte : Go.Proofs.Lays.n217 Tryz.prog Tryz.laysSlIndexByte_ren := { mixed := by kernel_rfl, f217 := Tryz.func123.trans (congrArg some (by kernel_rfl)), f266 := Tryz.func160.trans (congrArg some (by kernel_rfl)), t3 := Tryz.underlying3, a3 := Tryz.isAgg3, z3 := Tryz.sizeOf3, v3 := Tryz.zeroValue3, t5 := Tryz.underlying5, a5 := Tryz.isAgg5, z5 := Tryz.sizeOf5, v5 := Tryz.zeroValue5, t9 := Tryz.underlying9, a9 := Tryz.isAgg9, z9 := Tryz.sizeOf9, v9 := Tryz.zeroValue9 }
def Tryz.laysKeys40_ren : Go.Shelf.Ren := ⟨fun | 7 => 40 | 10 => 74 | n => n, fun | 23 => 84 | 26 => 9 | 3 => 47 | 28 => 88 | 0 => 0 | 27 => 87 | 33 => 50 | 4 => 4 | n => n, fun | n => n⟩
theorem Tryz.laysKeys40 : Go.Proofs.SlLaysZ.n7 Tryz.prog Tryz.laysKeys40_ren := { mixed := by kernel_rfl, f7 := ⟨Tryz.f40.name, by kernel_rfl, Tryz.func40.trans (congrArg some (by kernel_rfl))⟩, f10 := ⟨Tryz.f74.name, by kernel_rfl, Tryz.func74.trans (congrArg some (by kernel_rfl))⟩, t0 := Tryz.underlying0, a0 := Tryz.isAgg0, z0 := Tryz.sizeOf0, v0 := Tryz.zeroValue0, t4 := Tryz.underlying4, a4 := Tryz.isAgg4, z4 := Tryz.sizeOf4, v4 := Tryz.zeroValue4, t23 := Tryz.underlying84, a23 := Tryz.isAgg84, z23 := Tryz.sizeOf84, v23 := Tryz.zeroValue84, t26 := Tryz.underlying9, a26 := Tryz.isAgg9, z26 := Tryz.sizeOf9, v26 := Tryz.zeroValue9, t27 := Tryz.underlying87, a27 := Tryz.isAgg87, z27 := Tryz.sizeOf87, v27 := Tryz.zeroValue87, t28 := Tryz.underlying88, a28 := Tryz.isAgg88, z28 := Tryz.sizeOf88, v28 := Tryz.zeroValue88, t33 := Tryz.underlying50, a33 := Tryz.isAgg50, z33 := Tryz.sizeOf50, v33 := Tryz.zeroValue50 }
def Tryz.laysSorted39_ren : Go.Shelf.Ren := ⟨fun | 6 => 39 | 8 => 72 | 9 => 73 | 11 => 107 | 13 => 109 | 12 => 108 | 23 => 149 | 24 => 150 | 14 => 141 | 15 => 142 | 16 => 143 | 17 => 144 | 18 => 145 | 19 => 146 | 20 => 42 | 21 => 147 | 22 => 148 | 25 => 178 | 26 => 179 | 27 => 180 | 28 => 181 | 29 => 182 | 30 => 77 | 31 => 212 | n => n, fun | 26 => 9 | 28 => 88 | 24 => 34 | 0 => 0 | 3 => 3 | 37 => 151 | 48 => 187 | 50 => 189 | 4 => 4 | 40 => 181 | 39 => 180 | 45 => 120 | 5 => 5 | 9 => 9 | 51 => 209 | 55 => 213 | 57 => 230 | 58 => 231 | 33 => 50 | n => n, fun | n => n⟩
theorem Tryz.laysSorted39 : Go.Proofs.SlLaysZ.n6 Tryz.prog Tryz.laysSorted39_ren := { mixed := by kernel_rfl, f6 := ⟨Tryz.f39.name, by kernel_rfl, Tryz.func39.trans (congrArg some (by kernel_rfl))⟩, f8 := ⟨Tryz.f72.name, by kernel_rfl, Tryz.func72.trans (congrArg some (by kernel_rfl))⟩, f11 := ⟨Tryz.f107.name, by kernel_rfl, Tryz.func107.trans (congrArg some (by kernel_rfl))⟩, t0 := Tryz.underlying0, a0 := Tryz.isAgg0, z0 := Tryz.sizeOf0, v0 := Tryz.zeroValue0, t24 := Tryz.underlying34, a24 := Tryz.isAgg34, z24 := Tryz.sizeOf34, v24 := Tryz.zeroValue34, t26 := Tryz.underlying9, a26 := Tryz.isAgg9, z26 := Tryz.sizeOf9, v26 := Tryz.zeroValue9, t28 := Tryz.underlying88, a28 := Tryz.isAgg88, z28 := Tryz.sizeOf88, v28 := Tryz.zeroValue88, i26 := by kernel_rfl }
def Tryz.laysSortS_ren : Go.Shelf.Ren := ⟨fun | 6 => 73 | 8 => 109 | 9 => 108 | 19 => 149 | 20 => 150 | 21 => 141 | 22 => 142 | 23 => 143 | 24 => 144 | 25 => 145 | 26 => 146 | 27 => 42 | 28 => 147 | 29 => 148 | 36 => 178 | 31 => 179 | 32 => 180 | 37 => 181 | 38 => 182 | 39 => 77 | 41 => 212 | n => n, fun | 27 => 34 | 29 => 9 | 3 => 3 | 32 => 151 | 26 => 34 | 0 => 0 | 44 => 187 | 46 => 189 | 4 => 4 | 36 => 181 | 35 => 180 | 41 => 120 | 5 => 5 | 9 => 9 | 53 => 209 | 57 => 213 | 63 => 230 | 64 => 231 | n => n, fun | n => n⟩
theorem Tryz.laysSortS : Go.Proofs.SlLaysM.n6 Tryz.prog Tryz.laysSortS_ren := { mixed := by kernel_rfl, f6 := ⟨Tryz.f73.name, by kernel_rfl, Tryz.func73.trans (congrArg some (by kernel_rfl))⟩, f8 := Tryz.func109.trans (congrArg some (by kernel_rfl)), f9 := ⟨Tryz.f108.name, by kernel_rfl, Tryz.func108.trans (congrArg some (by kernel_rfl))⟩, f19 := Tryz.func149.trans (congrArg some (by kernel_rfl)), f20 := Tryz.func150.trans (congrArg some (by kernel_rfl)), f21 := ⟨Tryz.f141.name, by kernel_rfl, Tryz.func141.trans (congrArg some (by kernel_rfl))⟩, f22 := ⟨Tryz.f142.name, by kernel_rfl, Tryz.func142.trans (congrArg some (by kernel_rfl))⟩, f23 := ⟨Tryz.f143.name, by kernel_rfl, Tryz.func143.trans (congrArg some (by kernel_rfl))⟩, f24 := ⟨Tryz.f144.name, by kernel_rfl, Tryz.func144.trans (congrArg some (by kernel_rfl))⟩, f25 := ⟨Tryz.f145.name, by kernel_rfl, Tryz.func145.trans (congrArg some (by kernel_rfl))⟩, f26 := ⟨Tryz.f146.name, by kernel_rfl, Tryz.func146.trans (congrArg some (by kernel_rfl))⟩, f27 := ⟨Tryz.f42.name, by kernel_rfl, Tryz.func42.trans (congrArg some (by kernel_rfl))⟩, f28 := ⟨Tryz.f147.name, by kernel_rfl, Tryz.func147.trans (congrArg some (by kernel_rfl))⟩, f29 := ⟨Tryz.f148.name, by kernel_rfl, Tryz.func148.trans (congrArg some (by kernel_rfl))⟩, f31 := Tryz.func179.trans (congrArg some (by kernel_rfl)), f32 := Tryz.func180.trans (congrArg some (by kernel_rfl)), f36 := ⟨Tryz.f178.name, by kernel_rfl, Tryz.func178.trans (congrArg some (by kernel_rfl))⟩, f37 := ⟨Tryz.f181.name, by kernel_rfl, Tryz.func181.trans (congrArg some (by kernel_rfl))⟩, f38 := ⟨Tryz.f182.name, by kernel_rfl, Tryz.func182.trans (congrArg some (by kernel_rfl))⟩, f39 := ⟨Tryz.f77.name, by kernel_rfl, Tryz.func77.trans (congrArg some (by kernel_rfl))⟩, f41 := ⟨Tryz.f212.name, by kernel_rfl, Tryz.func212.trans (congrArg some (by kernel_rfl))⟩, t0 := Tryz.underlying0, a0 := Tryz.isAgg0, z0 := Tryz.sizeOf0, v0 := Tryz.zeroValue0, t3 := Tryz.underlying3, a3 := Tryz.isAgg3, z3 := Tryz.sizeOf3, v3 := Tryz.zeroValue3, t4 := Tryz.underlying4, a4 := Tryz.isAgg4, z4 := Tryz.sizeOf4, v4 := Tryz.zeroValue4, t5 := Tryz.underlying5, a5 := Tryz.isAgg5, z5 := Tryz.sizeOf5, v5 := Tryz.zeroValue5, t9 := Tryz.underlying9, a9 := Tryz.isAgg9, z9 := Tryz.sizeOf9, v9 := Tryz.zeroValue9, t26 := Tryz.underlying34, a26 := Tryz.isAgg34, z26 := Tryz.sizeOf34, v26 := Tryz.zeroValue34, t27 := Tryz.underlying34, a27 := Tryz.isAgg34, z27 := Tryz.sizeOf34, v27 := Tryz.zeroValue34, t29 := Tryz.underlying9, a29 := Tryz.isAgg9, z29 := Tryz.sizeOf9, v29 := Tryz.zeroValue9, t32 := Tryz.underlying151, a32 := Tryz.isAgg151, z32 := Tryz.sizeOf151, v32 := Tryz.zeroValue151, t35 := Tryz.underlying180, a35 := Tryz.isAgg180, z35 := Tryz.sizeOf180, v35 := Tryz.zeroValue180, t36 := Tryz.underlying181, a36 := Tryz.isAgg181, z36 := Tryz.sizeOf181, v36 := Tryz.zeroValue181, t41 := Tryz.underlying120, a41 := Tryz.isAgg120, z41 := Tryz.sizeOf120, v41 := Tryz.zeroValue120, t44 := Tryz.underlying187, a44 := Tryz.isAgg187, z44 := Tryz.sizeOf187, v44 := Tryz.zeroValue187, t46 := Tryz.underlying189, a46 := Tryz.isAgg189, z46 := Tryz.sizeOf189, v46 := Tryz.zeroValue189, t53 := Tryz.underlying209, a53 := Tryz.isAgg209, z53 := Tryz.sizeOf209, v53 := Tryz.zeroValue209, t57 := Tryz.underlying213, a57 := Tryz.isAgg213, z57 := Tryz.sizeOf213, v57 := Tryz.zeroValue213, t63 := Tryz.underlying230, a63 := Tryz.isAgg230, z63 := Tryz.sizeOf230, v63 := Tryz.zeroValue230, t64 := Tryz.underlying231, a64 := Tryz.isAgg231, z64 := Tryz.sizeOf231, v64 := Tryz.zeroValue231 }
end Go.Proofs
namespace Go.Proofs.SYteljhjdcaaebcaaGreatDoor
open Go Go.AL Go.Proofs
noncomputable section
abbrev P : Program := Tryz.prog
theorem hm : P.follows .mixedOrders = true := Tryz.checked.mixed
def cmpS (a b : ByteArray) : Int := Lib.compareBytes a.data.toList b.data.toList
def idxB (s : ByteArray) (c : Int) : Int := Lib.indexByte s.data.toList c.toNat.toUInt8
def trimB (s cut : ByteArray) : ByteArray := ⟨(Lib.trimS s.data.toList cut.data.toList).toArray⟩
def ascii (cut : ByteArray) : Bool := cut.data.toList.all fun b => Nat.blt b.toNat 128
def eqS (a b : ByteArray) : Bool := a.data.toList == b.data.toList
theorem eqS_eq {a b : ByteArray} (h : eqS a b = true) : a = b := by
  unfold eqS at h
  rw [beq_iff_eq] at h
  cases a with
  | mk a =>
    cases b with
    | mk b =>
      congr 1
      exact Array.ext' h
def lookS {α : Type} : List (ByteArray × α) → ByteArray → Option α
  | [], _ => none
  | (k, v) :: l, s => bif eqS k s then some v else lookS l s
theorem lookS_mem {α : Type} {s : ByteArray} {v : α} : ∀ {l : List (ByteArray × α)}, lookS l s = some v → (s, v) ∈ l
  | [], h => by cases h
  | (k, u) :: l, h => by
    simp only [lookS] at h
    cases hk : eqS k s with
    | true =>
      rw [hk] at h
      cases h
      rw [eqS_eq hk]
      exact List.mem_cons_self
    | false =>
      rw [hk] at h
      exact List.mem_cons_of_mem _ (lookS_mem h)
abbrev KMember : List Kd := [.str, .str, .int .i64, .str]
abbrev KContact : List Kd := [.int .i64, .int .i64, .str, .str, .int .i64, .int .i64, .str, .str]
abbrev KSegment : List Kd := [.str, .int .i64, .int .i64, .list [.int .i64], .int .i64, .int .i64]
abbrev KDeed : List Kd := [.str, .int .i64, .int .i64, .int .i64, .int .i64, .int .i64, .str, .str, .int .i64, .int .i64, .str, .str, .str, .str, .int .i64]
abbrev KParts : List Kd := [.str, .str, .str, .int .i64, .str]
abbrev KPlace : List Kd := [.int .i64, .int .i64, .str]
def t0 : Tab := tabM []
theorem t0_ok : TabOK P t0 := tabM_ok P _
def F_strings_Compare (d : List G) : Option (List G) := some [.i (cmpS (gi d 0).str (gi d 1).str)]
def s_strings_Compare : FSpec := ⟨98, [.s (.str), .s (.str)], [], [], [.s (.int .i64)], [], [], [], F_strings_Compare⟩
theorem c_strings_Compare : ∀ d r, F_strings_Compare d = some r → ACallX P 98 (s_strings_Compare.args0 d) (denH (s_strings_Compare.H0 d)) (s_strings_Compare.out r) (denH (s_strings_Compare.H1 r)) := fun d r h => by
  cases h
  exact (pcall_lits (vs := [.string (gi d 0).str, .string (gi d 1).str]) fun w => (Proofs.Any.strings_Compare Tryz.laysCompare (gi d 0).str (gi d 1).str w).mono fun e w' h => ⟨h.1, h.2 ▸ Ext.refl w⟩) []
def t1 : Tab := t0.addP s_strings_Compare
theorem t1_ok : TabOK P t1 := t0_ok.addP (by kernel_rfl) (by kernel_rfl) c_strings_Compare
def F_strings_IndexByte (d : List G) : Option (List G) := some [.i (idxB (gi d 0).str (gi d 1).int)]
def s_strings_IndexByte : FSpec := ⟨91, [.s (.str), .s (.int .u8)], [], [], [.s (.int .i64)], [], [], [], F_strings_IndexByte⟩
theorem c_strings_IndexByte : ∀ d r, F_strings_IndexByte d = some r → ACallX P 91 (s_strings_IndexByte.args0 d) (denH (s_strings_IndexByte.H0 d)) (s_strings_IndexByte.out r) (denH (s_strings_IndexByte.H1 r)) := fun d r h => by
  cases h
  exact (pcall_lits (vs := [.string (gi d 0).str, .int .u8 (gi d 1).int]) fun w => (Proofs.Any.strings_IndexByte Tryz.laysIndexByte (gi d 0).str (gi d 1).int w).mono fun e w' h => ⟨h.1, h.2 ▸ Ext.refl w⟩) []
def t2 : Tab := t1.addP s_strings_IndexByte
theorem t2_ok : TabOK P t2 := t1_ok.addP (by kernel_rfl) (by kernel_rfl) c_strings_IndexByte
def F_strings_Trim (d : List G) : Option (List G) := bif (ascii (gi d 1).str && (Nat.ble 2 (gi d 1).str.size && (Nat.blt (gi d 1).str.size 4294967281 && (Nat.ble 1 (gi d 0).str.size && Nat.ble (gi d 0).str.size 9223372036854775807)))) then some [.s (trimB (gi d 0).str (gi d 1).str)] else none
def s_strings_Trim : FSpec := ⟨92, [.s (.str), .s (.str)], [], [], [.s (.str)], [], [], [], F_strings_Trim⟩
theorem c_strings_Trim : ∀ d r, F_strings_Trim d = some r → ACallX P 92 (s_strings_Trim.args0 d) (denH (s_strings_Trim.H0 d)) (s_strings_Trim.out r) (denH (s_strings_Trim.H1 r)) := fun d r h => by
  unfold F_strings_Trim at h
  cases hb : (ascii (gi d 1).str && (Nat.ble 2 (gi d 1).str.size && (Nat.blt (gi d 1).str.size 4294967281 && (Nat.ble 1 (gi d 0).str.size && Nat.ble (gi d 0).str.size 9223372036854775807)))) with
  | false => rw [hb] at h; cases h
  | true =>
    rw [hb] at h
    cases h
    simp only [Bool.and_eq_true, Nat.blt_eq, Nat.ble_eq] at hb
    have hz : (Tryz.prog.info? (Tryz.laysTrim_ren.t 116)).map (fun i => (i.zero, i.size)) = some (some (.agg (Array.replicate 256 (.bool false))), 256) := by kernel_rfl
    exact (pcall_lits (vs := [.string (gi d 0).str, .string (gi d 1).str]) fun w => (Proofs.Any.strings_Trim_set Tryz.laysTrim (zero_of_info hz).1 (zero_of_info hz).2 (gi d 0).str (gi d 1).str w hb.2.1 hb.2.2.2.1 hb.2.2.2.2 hb.2.2.1 fun j b hj => by
      have := List.all_eq_true.1 hb.1 b (List.mem_of_getElem? hj)
      simpa [Nat.blt_eq] using this).mono fun _ _ h => ⟨h.1, by
        obtain ⟨_, q, rfl⟩ := h
        exact ((Ext.push w _).trans (Ext.push _ _)).trans (Ext.drawn _ _ (Nat.le_add_right _ _))⟩) []
def t3 : Tab := t2.addP s_strings_Trim
theorem t3_ok : TabOK P t3 := t2_ok.addP (by kernel_rfl) (by kernel_rfl) c_strings_Trim
def F_stringslite_IndexByte (d : List G) : Option (List G) := some [.i (idxB (gi d 0).str (gi d 1).int)]
def s_stringslite_IndexByte : FSpec := ⟨123, [.s (.str), .s (.int .u8)], [], [], [.s (.int .i64)], [], [], [], F_stringslite_IndexByte⟩
theorem c_stringslite_IndexByte : ∀ d r, F_stringslite_IndexByte d = some r → ACallX P 123 (s_stringslite_IndexByte.args0 d) (denH (s_stringslite_IndexByte.H0 d)) (s_stringslite_IndexByte.out r) (denH (s_stringslite_IndexByte.H1 r)) := fun d r h => by
  cases h
  exact (pcall_lits (vs := [.string (gi d 0).str, .int .u8 (gi d 1).int]) fun w => (Proofs.Any.stringslite_IndexByte Tryz.laysSlIndexByte (gi d 0).str (gi d 1).int w).mono fun e w' h => ⟨h.1, h.2 ▸ Ext.refl w⟩) []
def t4 : Tab := t3.addP s_stringslite_IndexByte
theorem t4_ok : TabOK P t4 := t3_ok.addP (by kernel_rfl) (by kernel_rfl) c_stringslite_IndexByte
end
end Go.Proofs.SYteljhjdcaaebcaaGreatDoor
