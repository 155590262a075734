/-
  What is proved here: functions of the program as functions on data. No condition.
-/
import Derived.Test.YtbckadmdebkogaaGreatDoorMG
import Derived.Test.YtbckadmdebkogaaGreatDoorChecked
import Derived.Test.YtbckadmdebkogaaGreatDoorMI
import Derived.Shelf.SortM.Plain
import Derived.Shelf.SortM.SortNone
import Derived.Shelf.Small.Strs
import Derived.Shelf.Strings.Search1
import Derived.Shelf.Strings.SlTrimAscii
set_option linter.unusedSimpArgs false
set_option linter.unusedVariables false
set_option linter.unusedSectionVars false
namespace Go.Proofs
open Go.Shelf Go.RowKit
set_option maxHeartbeats 4000000
def Tryz.laysCompare_ren : Go.Shelf.Ren := ⟨fun | 106 => 77 | 213 => 111 | 265 => 154 | n => n, fun | 9 => 9 | 3 => 3 | n => n, fun | n => n⟩
theorem Tryz.laysCompare : Go.Proofs.Lays.n106 Tryz.prog Tryz.laysCompare_ren := { mixed := by kernel_rfl, f106 := Tryz.func77.trans (congrArg some (by kernel_rfl)), f213 := Tryz.func111.trans (congrArg some (by kernel_rfl)), f265 := Tryz.func154.trans (congrArg some (by kernel_rfl)), t3 := Tryz.underlying3, a3 := Tryz.isAgg3, z3 := Tryz.sizeOf3, v3 := Tryz.zeroValue3, t9 := Tryz.underlying9, a9 := Tryz.isAgg9, z9 := Tryz.sizeOf9, v9 := Tryz.zeroValue9 }
def Tryz.laysIndexByte_ren : Go.Shelf.Ren := ⟨fun | 137 => 101 | 217 => 132 | 266 => 183 | n => n, fun | 9 => 9 | 5 => 5 | 3 => 3 | n => n, fun | n => n⟩
theorem Tryz.laysIndexByte : Go.Proofs.Lays.n137 Tryz.prog Tryz.laysIndexByte_ren := { mixed := by kernel_rfl, f137 := Tryz.func101.trans (congrArg some (by kernel_rfl)), f217 := Tryz.func132.trans (congrArg some (by kernel_rfl)), f266 := Tryz.func183.trans (congrArg some (by kernel_rfl)), t3 := Tryz.underlying3, a3 := Tryz.isAgg3, z3 := Tryz.sizeOf3, v3 := Tryz.zeroValue3, t5 := Tryz.underlying5, a5 := Tryz.isAgg5, z5 := Tryz.sizeOf5, v5 := Tryz.zeroValue5, t9 := Tryz.underlying9, a9 := Tryz.isAgg9, z9 := Tryz.sizeOf9, v9 := Tryz.zeroValue9 }
def Tryz.laysTrim_ren : Go.Shelf.Ren := ⟨fun | 160 => 102 | 232 => 134 | 231 => 133 | 227 => 135 | 234 => 137 | 233 => 136 | 236 => 139 | 235 => 138 | 228 => 184 | 271 => 187 | 151 => 186 | 197 => 185 | 120 => 214 | 152 => 210 | 260 => 213 | 137 => 101 | 119 => 225 | 224 => 222 | 225 => 221 | 217 => 132 | 266 => 183 | n => n, fun | 9 => 9 | 4 => 4 | 3 => 3 | 5 => 5 | 117 => 158 | 116 => 157 | 0 => 0 | 124 => 161 | 21 => 21 | 105 => 191 | 46 => 140 | 119 => 218 | 139 => 221 | 138 => 220 | n => n, fun | 3 => 1 | 4 => 2 | n => n⟩
theorem Tryz.laysTrim : Go.Proofs.Lays.n160 Tryz.prog Tryz.laysTrim_ren := { mixed := by kernel_rfl, f119 := Tryz.func225.trans (congrArg some (by kernel_rfl)), f120 := Tryz.func214.trans (congrArg some (by kernel_rfl)), f137 := Tryz.func101.trans (congrArg some (by kernel_rfl)), f151 := Tryz.func186.trans (congrArg some (by kernel_rfl)), f152 := Tryz.func210.trans (congrArg some (by kernel_rfl)), f160 := Tryz.func102.trans (congrArg some (by kernel_rfl)), f197 := Tryz.func185.trans (congrArg some (by kernel_rfl)), f217 := Tryz.func132.trans (congrArg some (by kernel_rfl)), f224 := Tryz.func222.trans (congrArg some (by kernel_rfl)), f225 := Tryz.func221.trans (congrArg some (by kernel_rfl)), f227 := Tryz.func135.trans (congrArg some (by kernel_rfl)), f228 := Tryz.func184.trans (congrArg some (by kernel_rfl)), f231 := Tryz.func133.trans (congrArg some (by kernel_rfl)), f232 := Tryz.func134.trans (congrArg some (by kernel_rfl)), f233 := Tryz.func136.trans (congrArg some (by kernel_rfl)), f234 := Tryz.func137.trans (congrArg some (by kernel_rfl)), f235 := Tryz.func138.trans (congrArg some (by kernel_rfl)), f236 := Tryz.func139.trans (congrArg some (by kernel_rfl)), f260 := Tryz.func213.trans (congrArg some (by kernel_rfl)), f266 := Tryz.func183.trans (congrArg some (by kernel_rfl)), f271 := Tryz.func187.trans (congrArg some (by kernel_rfl)), t0 := Tryz.underlying0, a0 := Tryz.isAgg0, z0 := Tryz.sizeOf0, v0 := Tryz.zeroValue0, t3 := Tryz.underlying3, a3 := Tryz.isAgg3, z3 := Tryz.sizeOf3, v3 := Tryz.zeroValue3, t4 := Tryz.underlying4, a4 := Tryz.isAgg4, z4 := Tryz.sizeOf4, v4 := Tryz.zeroValue4, t5 := Tryz.underlying5, a5 := Tryz.isAgg5, z5 := Tryz.sizeOf5, v5 := Tryz.zeroValue5, t9 := Tryz.underlying9, a9 := Tryz.isAgg9, z9 := Tryz.sizeOf9, v9 := Tryz.zeroValue9, t21 := Tryz.underlying21, a21 := Tryz.isAgg21, z21 := Tryz.sizeOf21, v21 := Tryz.zeroValue21, t46 := Tryz.underlying140, a46 := Tryz.isAgg140, z46 := Tryz.sizeOf140, v46 := Tryz.zeroValue140, t105 := Tryz.underlying191, a105 := Tryz.isAgg191, z105 := Tryz.sizeOf191, v105 := Tryz.zeroValue191, t116 := Tryz.underlying157, a116 := Tryz.isAgg157, z116 := Tryz.sizeOf157, t117 := Tryz.underlying158, a117 := Tryz.isAgg158, z117 := Tryz.sizeOf158, v117 := Tryz.zeroValue158, t119 := Tryz.underlying218, a119 := Tryz.isAgg218, z119 := Tryz.sizeOf218, t124 := Tryz.underlying161, a124 := Tryz.isAgg161, z124 := Tryz.sizeOf161, v124 := Tryz.zeroValue161, t138 := Tryz.underlying220, a138 := Tryz.isAgg220, z138 := Tryz.sizeOf220, v138 := Tryz.zeroValue220, t139 := Tryz.underlying221, a139 := Tryz.isAgg221, z139 := Tryz.sizeOf221, v139 := Tryz.zeroValue221, g3 := by kernel_rfl, g4 := by kernel_rfl }
def Tryz.laysSlIndexByte_ren : Go.Shelf.Ren := ⟨fun | 217 => 132 | 266 => 183 | n => n, fun | 9 => 9 | 5 => 5 | 3 => 3 | n => n, fun | n => n⟩
theorem Tryz.laysSlIndexByte : Go.Proofs.Lays.n217 Tryz.prog Tryz.laysSlIndexByte_ren := { mixed := by kernel_rfl, f217 := Tryz.func132.trans (congrArg some (by kernel_rfl)), f266 := Tryz.func183.trans (congrArg some (by kernel_rfl)), t3 := Tryz.underlying3, a3 := Tryz.isAgg3, z3 := Tryz.sizeOf3, v3 := Tryz.zeroValue3, t5 := Tryz.underlying5, a5 := Tryz.isAgg5, z5 := Tryz.sizeOf5, v5 := Tryz.zeroValue5, t9 := Tryz.underlying9, a9 := Tryz.isAgg9, z9 := Tryz.sizeOf9, v9 := Tryz.zeroValue9 }
def Tryz.laysKeys54_ren : Go.Shelf.Ren := ⟨fun | 7 => 54 | 10 => 92 | n => n, fun | 23 => 85 | 26 => 9 | 3 => 82 | 28 => 90 | 0 => 0 | 27 => 89 | 33 => 83 | 4 => 4 | n => n, fun | n => n⟩
theorem Tryz.laysKeys54 : Go.Proofs.SlLaysZ.n7 Tryz.prog Tryz.laysKeys54_ren := { mixed := by kernel_rfl, f7 := ⟨Tryz.f54.name, by kernel_rfl, Tryz.func54.trans (congrArg some (by kernel_rfl))⟩, f10 := ⟨Tryz.f92.name, by kernel_rfl, Tryz.func92.trans (congrArg some (by kernel_rfl))⟩, t0 := Tryz.underlying0, a0 := Tryz.isAgg0, z0 := Tryz.sizeOf0, v0 := Tryz.zeroValue0, t4 := Tryz.underlying4, a4 := Tryz.isAgg4, z4 := Tryz.sizeOf4, v4 := Tryz.zeroValue4, t23 := Tryz.underlying85, a23 := Tryz.isAgg85, z23 := Tryz.sizeOf85, v23 := Tryz.zeroValue85, t26 := Tryz.underlying9, a26 := Tryz.isAgg9, z26 := Tryz.sizeOf9, v26 := Tryz.zeroValue9, t27 := Tryz.underlying89, a27 := Tryz.isAgg89, z27 := Tryz.sizeOf89, v27 := Tryz.zeroValue89, t28 := Tryz.underlying90, a28 := Tryz.isAgg90, z28 := Tryz.sizeOf90, v28 := Tryz.zeroValue90, t33 := Tryz.underlying83, a33 := Tryz.isAgg83, z33 := Tryz.sizeOf83, v33 := Tryz.zeroValue83 }
def Tryz.laysSorted53_ren : Go.Shelf.Ren := ⟨fun | 6 => 53 | 8 => 90 | 9 => 91 | 11 => 122 | 13 => 110 | 12 => 123 | 23 => 152 | 24 => 153 | 14 => 169 | 15 => 170 | 16 => 171 | 17 => 172 | 18 => 173 | 19 => 174 | 20 => 175 | 21 => 176 | 22 => 177 | 25 => 207 | 26 => 190 | 27 => 191 | 28 => 208 | 29 => 209 | 30 => 143 | 31 => 224 | n => n, fun | 26 => 9 | 28 => 90 | 24 => 35 | 0 => 0 | 3 => 3 | 37 => 140 | 48 => 173 | 50 => 175 | 4 => 4 | 40 => 167 | 39 => 166 | 45 => 128 | 5 => 5 | 9 => 9 | 51 => 194 | 55 => 198 | 57 => 210 | 58 => 211 | 33 => 83 | n => n, fun | n => n⟩
theorem Tryz.laysSorted53 : Go.Proofs.SlLaysZ.n6 Tryz.prog Tryz.laysSorted53_ren := { mixed := by kernel_rfl, f6 := ⟨Tryz.f53.name, by kernel_rfl, Tryz.func53.trans (congrArg some (by kernel_rfl))⟩, f8 := ⟨Tryz.f90.name, by kernel_rfl, Tryz.func90.trans (congrArg some (by kernel_rfl))⟩, f11 := ⟨Tryz.f122.name, by kernel_rfl, Tryz.func122.trans (congrArg some (by kernel_rfl))⟩, t0 := Tryz.underlying0, a0 := Tryz.isAgg0, z0 := Tryz.sizeOf0, v0 := Tryz.zeroValue0, t24 := Tryz.underlying35, a24 := Tryz.isAgg35, z24 := Tryz.sizeOf35, v24 := Tryz.zeroValue35, t26 := Tryz.underlying9, a26 := Tryz.isAgg9, z26 := Tryz.sizeOf9, v26 := Tryz.zeroValue9, t28 := Tryz.underlying90, a28 := Tryz.isAgg90, z28 := Tryz.sizeOf90, v28 := Tryz.zeroValue90, i26 := by kernel_rfl }
def Tryz.laysSortS_ren : Go.Shelf.Ren := ⟨fun | 6 => 91 | 8 => 110 | 9 => 123 | 19 => 152 | 20 => 153 | 21 => 169 | 22 => 170 | 23 => 171 | 24 => 172 | 25 => 173 | 26 => 174 | 27 => 175 | 28 => 176 | 29 => 177 | 36 => 207 | 31 => 190 | 32 => 191 | 37 => 208 | 38 => 209 | 39 => 143 | 41 => 224 | n => n, fun | 27 => 35 | 29 => 9 | 3 => 3 | 32 => 140 | 26 => 35 | 0 => 0 | 44 => 173 | 46 => 175 | 4 => 4 | 36 => 167 | 35 => 166 | 41 => 128 | 5 => 5 | 9 => 9 | 53 => 194 | 57 => 198 | 63 => 210 | 64 => 211 | n => n, fun | n => n⟩
theorem Tryz.laysSortS : Go.Proofs.SlLaysM.n6 Tryz.prog Tryz.laysSortS_ren := { mixed := by kernel_rfl, f6 := ⟨Tryz.f91.name, by kernel_rfl, Tryz.func91.trans (congrArg some (by kernel_rfl))⟩, f8 := Tryz.func110.trans (congrArg some (by kernel_rfl)), f9 := ⟨Tryz.f123.name, by kernel_rfl, Tryz.func123.trans (congrArg some (by kernel_rfl))⟩, f19 := Tryz.func152.trans (congrArg some (by kernel_rfl)), f20 := Tryz.func153.trans (congrArg some (by kernel_rfl)), f21 := ⟨Tryz.f169.name, by kernel_rfl, Tryz.func169.trans (congrArg some (by kernel_rfl))⟩, f22 := ⟨Tryz.f170.name, by kernel_rfl, Tryz.func170.trans (congrArg some (by kernel_rfl))⟩, f23 := ⟨Tryz.f171.name, by kernel_rfl, Tryz.func171.trans (congrArg some (by kernel_rfl))⟩, f24 := ⟨Tryz.f172.name, by kernel_rfl, Tryz.func172.trans (congrArg some (by kernel_rfl))⟩, f25 := ⟨Tryz.f173.name, by kernel_rfl, Tryz.func173.trans (congrArg some (by kernel_rfl))⟩, f26 := ⟨Tryz.f174.name, by kernel_rfl, Tryz.func174.trans (congrArg some (by kernel_rfl))⟩, f27 := ⟨Tryz.f175.name, by kernel_rfl, Tryz.func175.trans (congrArg some (by kernel_rfl))⟩, f28 := ⟨Tryz.f176.name, by kernel_rfl, Tryz.func176.trans (congrArg some (by kernel_rfl))⟩, f29 := ⟨Tryz.f177.name, by kernel_rfl, Tryz.func177.trans (congrArg some (by kernel_rfl))⟩, f31 := Tryz.func190.trans (congrArg some (by kernel_rfl)), f32 := Tryz.func191.trans (congrArg some (by kernel_rfl)), f36 := ⟨Tryz.f207.name, by kernel_rfl, Tryz.func207.trans (congrArg some (by kernel_rfl))⟩, f37 := ⟨Tryz.f208.name, by kernel_rfl, Tryz.func208.trans (congrArg some (by kernel_rfl))⟩, f38 := ⟨Tryz.f209.name, by kernel_rfl, Tryz.func209.trans (congrArg some (by kernel_rfl))⟩, f39 := ⟨Tryz.f143.name, by kernel_rfl, Tryz.func143.trans (congrArg some (by kernel_rfl))⟩, f41 := ⟨Tryz.f224.name, by kernel_rfl, Tryz.func224.trans (congrArg some (by kernel_rfl))⟩, t0 := Tryz.underlying0, a0 := Tryz.isAgg0, z0 := Tryz.sizeOf0, v0 := Tryz.zeroValue0, t3 := Tryz.underlying3, a3 := Tryz.isAgg3, z3 := Tryz.sizeOf3, v3 := Tryz.zeroValue3, t4 := Tryz.underlying4, a4 := Tryz.isAgg4, z4 := Tryz.sizeOf4, v4 := Tryz.zeroValue4, t5 := Tryz.underlying5, a5 := Tryz.isAgg5, z5 := Tryz.sizeOf5, v5 := Tryz.zeroValue5, t9 := Tryz.underlying9, a9 := Tryz.isAgg9, z9 := Tryz.sizeOf9, v9 := Tryz.zeroValue9, t26 := Tryz.underlying35, a26 := Tryz.isAgg35, z26 := Tryz.sizeOf35, v26 := Tryz.zeroValue35, t27 := Tryz.underlying35, a27 := Tryz.isAgg35, z27 := Tryz.sizeOf35, v27 := Tryz.zeroValue35, t29 := Tryz.underlying9, a29 := Tryz.isAgg9, z29 := Tryz.sizeOf9, v29 := Tryz.zeroValue9, t32 := Tryz.underlying140, a32 := Tryz.isAgg140, z32 := Tryz.sizeOf140, v32 := Tryz.zeroValue140, t35 := Tryz.underlying166, a35 := Tryz.isAgg166, z35 := Tryz.sizeOf166, v35 := Tryz.zeroValue166, t36 := Tryz.underlying167, a36 := Tryz.isAgg167, z36 := Tryz.sizeOf167, v36 := Tryz.zeroValue167, t41 := Tryz.underlying128, a41 := Tryz.isAgg128, z41 := Tryz.sizeOf128, v41 := Tryz.zeroValue128, t44 := Tryz.underlying173, a44 := Tryz.isAgg173, z44 := Tryz.sizeOf173, v44 := Tryz.zeroValue173, t46 := Tryz.underlying175, a46 := Tryz.isAgg175, z46 := Tryz.sizeOf175, v46 := Tryz.zeroValue175, t53 := Tryz.underlying194, a53 := Tryz.isAgg194, z53 := Tryz.sizeOf194, v53 := Tryz.zeroValue194, t57 := Tryz.underlying198, a57 := Tryz.isAgg198, z57 := Tryz.sizeOf198, v57 := Tryz.zeroValue198, t63 := Tryz.underlying210, a63 := Tryz.isAgg210, z63 := Tryz.sizeOf210, v63 := Tryz.zeroValue210, t64 := Tryz.underlying211, a64 := Tryz.isAgg211, z64 := Tryz.sizeOf211, v64 := Tryz.zeroValue211 }
end Go.Proofs
namespace Go.Proofs.SYtbckadmdebkogaaGreatDoor
open Go Go.AL Go.Proofs
noncomputable section
abbrev P : Program := Tryz.prog
theorem hm : P.follows .mixedOrders = true := Tryz.checked.mixed
def cmpS (a b : ByteArray) : Int := Lib.compareBytes a.data.toList b.data.toList
def idxB (s : ByteArray) (c : Int) : Int := Lib.indexByte s.data.toList c.toNat.toUInt8
def trimB (s cut : ByteArray) : ByteArray := ⟨(Lib.trimS s.data.toList cut.data.toList).toArray⟩
def ascii (cut : ByteArray) : Bool := cut.data.toList.all fun b => Nat.blt b.toNat 128
def eqS (a b : ByteArray) : Bool := a.data.toList == b.data.toList
theorem eqS_eq {a b : ByteArray} (h : eqS a b = true) : a = b := by
  unfold eqS at h
  rw [beq_iff_eq] at h
  cases a with
  | mk a =>
    cases b with
    | mk b =>
      congr 1
      exact Array.ext' h
def lookS {α : Type} : List (ByteArray × α) → ByteArray → Option α
  | [], _ => none
  | (k, v) :: l, s => bif eqS k s then some v else lookS l s
theorem lookS_mem {α : Type} {s : ByteArray} {v : α} : ∀ {l : List (ByteArray × α)}, lookS l s = some v → (s, v) ∈ l
  | [], h => by cases h
  | (k, u) :: l, h => by
    simp only [lookS] at h
    cases hk : eqS k s with
    | true =>
      rw [hk] at h
      cases h
      rw [eqS_eq hk]
      exact List.mem_cons_self
    | false =>
      rw [hk] at h
      exact List.mem_cons_of_mem _ (lookS_mem h)
abbrev KBest : List Kd := [.str, .str, .int .i64, .int .i64]
abbrev KPlace : List Kd := [.int .i64, .int .i64, .str]
abbrev KMember : List Kd := [.str, .str, .int .i64, .str]
abbrev KTry : List Kd := [.int .i64, .str, .str, .int .i64]
abbrev KParts : List Kd := [.str, .str, .str, .int .i64, .str]
def t0 : Tab := tabM []
theorem t0_ok : TabOK P t0 := tabM_ok P _
def F_strings_Compare (d : List G) : Option (List G) := some [.i (cmpS (gi d 0).str (gi d 1).str)]
def s_strings_Compare : FSpec := ⟨77, [.s (.str), .s (.str)], [], [], [.s (.int .i64)], [], [], [], F_strings_Compare⟩
theorem c_strings_Compare : ∀ d r, F_strings_Compare d = some r → ACallX P 77 (s_strings_Compare.args0 d) (denH (s_strings_Compare.H0 d)) (s_strings_Compare.out r) (denH (s_strings_Compare.H1 r)) := fun d r h => by
  cases h
  exact (pcall_lits (vs := [.string (gi d 0).str, .string (gi d 1).str]) fun w => (Proofs.Any.strings_Compare Tryz.laysCompare (gi d 0).str (gi d 1).str w).mono fun e w' h => ⟨h.1, h.2 ▸ Ext.refl w⟩) []
def t1 : Tab := t0.addP s_strings_Compare
theorem t1_ok : TabOK P t1 := t0_ok.addP (by kernel_rfl) (by kernel_rfl) c_strings_Compare
def F_strings_IndexByte (d : List G) : Option (List G) := some [.i (idxB (gi d 0).str (gi d 1).int)]
def s_strings_IndexByte : FSpec := ⟨101, [.s (.str), .s (.int .u8)], [], [], [.s (.int .i64)], [], [], [], F_strings_IndexByte⟩
theorem c_strings_IndexByte : ∀ d r, F_strings_IndexByte d = some r → ACallX P 101 (s_strings_IndexByte.args0 d) (denH (s_strings_IndexByte.H0 d)) (s_strings_IndexByte.out r) (denH (s_strings_IndexByte.H1 r)) := fun d r h => by
  cases h
  exact (pcall_lits (vs := [.string (gi d 0).str, .int .u8 (gi d 1).int]) fun w => (Proofs.Any.strings_IndexByte Tryz.laysIndexByte (gi d 0).str (gi d 1).int w).mono fun e w' h => ⟨h.1, h.2 ▸ Ext.refl w⟩) []
def t2 : Tab := t1.addP s_strings_IndexByte
theorem t2_ok : TabOK P t2 := t1_ok.addP (by kernel_rfl) (by kernel_rfl) c_strings_IndexByte
def F_strings_Trim (d : List G) : Option (List G) := bif (ascii (gi d 1).str && (Nat.ble 2 (gi d 1).str.size && (Nat.blt (gi d 1).str.size 4294967281 && (Nat.ble 1 (gi d 0).str.size && Nat.ble (gi d 0).str.size 9223372036854775807)))) then some [.s (trimB (gi d 0).str (gi d 1).str)] else none
def s_strings_Trim : FSpec := ⟨102, [.s (.str), .s (.str)], [], [], [.s (.str)], [], [], [], F_strings_Trim⟩
theorem c_strings_Trim : ∀ d r, F_strings_Trim d = some r → ACallX P 102 (s_strings_Trim.args0 d) (denH (s_strings_Trim.H0 d)) (s_strings_Trim.out r) (denH (s_strings_Trim.H1 r)) := fun d r h => by
  unfold F_strings_Trim at h
  cases hb : (ascii (gi d 1).str && (Nat.ble 2 (gi d 1).str.size && (Nat.blt (gi d 1).str.size 4294967281 && (Nat.ble 1 (gi d 0).str.size && Nat.ble (gi d 0).str.size 9223372036854775807)))) with
  | false => rw [hb] at h; cases h
  | true =>
    rw [hb] at h
    cases h
    simp only [Bool.and_eq_true, Nat.blt_eq, Nat.ble_eq] at hb
    have hz : (Tryz.prog.info? (Tryz.laysTrim_ren.t 116)).map (fun i => (i.zero, i.size)) = some (some (.agg (Array.replicate 256 (.bool false))), 256) := by kernel_rfl
    exact (pcall_lits (vs := [.string (gi d 0).str, .string (gi d 1).str]) fun w => (Proofs.Any.strings_Trim_set Tryz.laysTrim (zero_of_info hz).1 (zero_of_info hz).2 (gi d 0).str (gi d 1).str w hb.2.1 hb.2.2.2.1 hb.2.2.2.2 hb.2.2.1 fun j b hj => by
      have := List.all_eq_true.1 hb.1 b (List.mem_of_getElem? hj)
      simpa [Nat.blt_eq] using this).mono fun _ _ h => ⟨h.1, by
        obtain ⟨_, q, rfl⟩ := h
        exact ((Ext.push w _).trans (Ext.push _ _)).trans (Ext.drawn _ _ (Nat.le_add_right _ _))⟩) []
def t3 : Tab := t2.addP s_strings_Trim
theorem t3_ok : TabOK P t3 := t2_ok.addP (by kernel_rfl) (by kernel_rfl) c_strings_Trim
def F_stringslite_IndexByte (d : List G) : Option (List G) := some [.i (idxB (gi d 0).str (gi d 1).int)]
def s_stringslite_IndexByte : FSpec := ⟨132, [.s (.str), .s (.int .u8)], [], [], [.s (.int .i64)], [], [], [], F_stringslite_IndexByte⟩
theorem c_stringslite_IndexByte : ∀ d r, F_stringslite_IndexByte d = some r → ACallX P 132 (s_stringslite_IndexByte.args0 d) (denH (s_stringslite_IndexByte.H0 d)) (s_stringslite_IndexByte.out r) (denH (s_stringslite_IndexByte.H1 r)) := fun d r h => by
  cases h
  exact (pcall_lits (vs := [.string (gi d 0).str, .int .u8 (gi d 1).int]) fun w => (Proofs.Any.stringslite_IndexByte Tryz.laysSlIndexByte (gi d 0).str (gi d 1).int w).mono fun e w' h => ⟨h.1, h.2 ▸ Ext.refl w⟩) []
def t4 : Tab := t3.addP s_stringslite_IndexByte
theorem t4_ok : TabOK P t4 := t3_ok.addP (by kernel_rfl) (by kernel_rfl) c_stringslite_IndexByte
end
end Go.Proofs.SYtbckadmdebkogaaGreatDoor
