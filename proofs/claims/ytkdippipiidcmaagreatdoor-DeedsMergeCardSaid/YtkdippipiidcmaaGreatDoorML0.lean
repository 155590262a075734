/-
  What is proved here: functions of the program as functions on data. No condition.
-/
import Derived.Test.YtkdippipiidcmaaGreatDoorMH
import Derived.Test.YtkdippipiidcmaaGreatDoorChecked
import Derived.Test.YtkdippipiidcmaaGreatDoorMR
import Derived.Shelf.Small.Strs
import Derived.Shelf.Strconv.Itoa3
import Derived.Shelf.Strings.Search1
import Derived.Shelf.Strings.SlTrimAscii
set_option linter.unusedSimpArgs false
set_option linter.unusedVariables false
set_option linter.unusedSectionVars false
namespace Go.Proofs
open Go.Shelf Go.RowKit
set_option maxHeartbeats 4000000
def Tryz.laysCompare_ren : Go.Shelf.Ren := ⟨fun | 106 => 131 | 213 => 190 | 265 => 253 | n => n, fun | 9 => 9 | 3 => 3 | n => n, fun | n => n⟩
theorem Tryz.laysCompare : Go.Proofs.Lays.n106 Tryz.prog Tryz.laysCompare_ren := { mixed := by kernel_rfl, f106 := Tryz.func131.trans (congrArg some (by kernel_rfl)), f213 := Tryz.func190.trans (congrArg some (by kernel_rfl)), f265 := Tryz.func253.trans (congrArg some (by kernel_rfl)), t3 := Tryz.underlying3, a3 := Tryz.isAgg3, z3 := Tryz.sizeOf3, v3 := Tryz.zeroValue3, t9 := Tryz.underlying9, a9 := Tryz.isAgg9, z9 := Tryz.sizeOf9, v9 := Tryz.zeroValue9 }
def Tryz.laysIndexByte_ren : Go.Shelf.Ren := ⟨fun | 137 => 202 | 217 => 259 | 266 => 315 | n => n, fun | 9 => 9 | 5 => 5 | 3 => 3 | n => n, fun | n => n⟩
theorem Tryz.laysIndexByte : Go.Proofs.Lays.n137 Tryz.prog Tryz.laysIndexByte_ren := { mixed := by kernel_rfl, f137 := Tryz.func202.trans (congrArg some (by kernel_rfl)), f217 := Tryz.func259.trans (congrArg some (by kernel_rfl)), f266 := Tryz.func315.trans (congrArg some (by kernel_rfl)), t3 := Tryz.underlying3, a3 := Tryz.isAgg3, z3 := Tryz.sizeOf3, v3 := Tryz.zeroValue3, t5 := Tryz.underlying5, a5 := Tryz.isAgg5, z5 := Tryz.sizeOf5, v5 := Tryz.zeroValue5, t9 := Tryz.underlying9, a9 := Tryz.isAgg9, z9 := Tryz.sizeOf9, v9 := Tryz.zeroValue9 }
def Tryz.laysTrim_ren : Go.Shelf.Ren := ⟨fun | 160 => 203 | 232 => 261 | 231 => 260 | 227 => 262 | 234 => 264 | 233 => 263 | 236 => 266 | 235 => 265 | 228 => 316 | 271 => 319 | 151 => 318 | 197 => 317 | 120 => 357 | 152 => 324 | 260 => 356 | 137 => 202 | 119 => 362 | 224 => 360 | 225 => 359 | 217 => 259 | 266 => 315 | n => n, fun | 9 => 9 | 4 => 4 | 3 => 3 | 5 => 5 | 117 => 294 | 116 => 293 | 0 => 0 | 124 => 297 | 21 => 21 | 105 => 333 | 46 => 176 | 119 => 370 | 139 => 373 | 138 => 372 | n => n, fun | 3 => 2 | 4 => 3 | n => n⟩
theorem Tryz.laysTrim : Go.Proofs.Lays.n160 Tryz.prog Tryz.laysTrim_ren := { mixed := by kernel_rfl, f119 := Tryz.func362.trans (congrArg some (by kernel_rfl)), f120 := Tryz.func357.trans (congrArg some (by kernel_rfl)), f137 := Tryz.func202.trans (congrArg some (by kernel_rfl)), f151 := Tryz.func318.trans (congrArg some (by kernel_rfl)), f152 := Tryz.func324.trans (congrArg some (by kernel_rfl)), f160 := Tryz.func203.trans (congrArg some (by kernel_rfl)), f197 := Tryz.func317.trans (congrArg some (by kernel_rfl)), f217 := Tryz.func259.trans (congrArg some (by kernel_rfl)), f224 := Tryz.func360.trans (congrArg some (by kernel_rfl)), f225 := Tryz.func359.trans (congrArg some (by kernel_rfl)), f227 := Tryz.func262.trans (congrArg some (by kernel_rfl)), f228 := Tryz.func316.trans (congrArg some (by kernel_rfl)), f231 := Tryz.func260.trans (congrArg some (by kernel_rfl)), f232 := Tryz.func261.trans (congrArg some (by kernel_rfl)), f233 := Tryz.func263.trans (congrArg some (by kernel_rfl)), f234 := Tryz.func264.trans (congrArg some (by kernel_rfl)), f235 := Tryz.func265.trans (congrArg some (by kernel_rfl)), f236 := Tryz.func266.trans (congrArg some (by kernel_rfl)), f260 := Tryz.func356.trans (congrArg some (by kernel_rfl)), f266 := Tryz.func315.trans (congrArg some (by kernel_rfl)), f271 := Tryz.func319.trans (congrArg some (by kernel_rfl)), t0 := Tryz.underlying0, a0 := Tryz.isAgg0, z0 := Tryz.sizeOf0, v0 := Tryz.zeroValue0, t3 := Tryz.underlying3, a3 := Tryz.isAgg3, z3 := Tryz.sizeOf3, v3 := Tryz.zeroValue3, t4 := Tryz.underlying4, a4 := Tryz.isAgg4, z4 := Tryz.sizeOf4, v4 := Tryz.zeroValue4, t5 := Tryz.underlying5, a5 := Tryz.isAgg5, z5 := Tryz.sizeOf5, v5 := Tryz.zeroValue5, t9 := Tryz.underlying9, a9 := Tryz.isAgg9, z9 := Tryz.sizeOf9, v9 := Tryz.zeroValue9, t21 := Tryz.underlying21, a21 := Tryz.isAgg21, z21 := Tryz.sizeOf21, v21 := Tryz.zeroValue21, t46 := Tryz.underlying176, a46 := Tryz.isAgg176, z46 := Tryz.sizeOf176, v46 := Tryz.zeroValue176, t105 := Tryz.underlying333, a105 := Tryz.isAgg333, z105 := Tryz.sizeOf333, v105 := Tryz.zeroValue333, t116 := Tryz.underlying293, a116 := Tryz.isAgg293, z116 := Tryz.sizeOf293, t117 := Tryz.underlying294, a117 := Tryz.isAgg294, z117 := Tryz.sizeOf294, v117 := Tryz.zeroValue294, t119 := Tryz.underlying370, a119 := Tryz.isAgg370, z119 := Tryz.sizeOf370, t124 := Tryz.underlying297, a124 := Tryz.isAgg297, z124 := Tryz.sizeOf297, v124 := Tryz.zeroValue297, t138 := Tryz.underlying372, a138 := Tryz.isAgg372, z138 := Tryz.sizeOf372, v138 := Tryz.zeroValue372, t139 := Tryz.underlying373, a139 := Tryz.isAgg373, z139 := Tryz.sizeOf373, v139 := Tryz.zeroValue373, g3 := by kernel_rfl, g4 := by kernel_rfl }
def Tryz.laysSlIndexByte_ren : Go.Shelf.Ren := ⟨fun | 217 => 259 | 266 => 315 | n => n, fun | 9 => 9 | 5 => 5 | 3 => 3 | n => n, fun | n => n⟩
theorem Tryz.laysSlIndexByte : Go.Proofs.Lays.n217 Tryz.prog Tryz.laysSlIndexByte_ren := { mixed := by kernel_rfl, f217 := Tryz.func259.trans (congrArg some (by kernel_rfl)), f266 := Tryz.func315.trans (congrArg some (by kernel_rfl)), t3 := Tryz.underlying3, a3 := Tryz.isAgg3, z3 := Tryz.sizeOf3, v3 := Tryz.zeroValue3, t5 := Tryz.underlying5, a5 := Tryz.isAgg5, z5 := Tryz.sizeOf5, v5 := Tryz.zeroValue5, t9 := Tryz.underlying9, a9 := Tryz.isAgg9, z9 := Tryz.sizeOf9, v9 := Tryz.zeroValue9 }
def Tryz.laysItoa_ren : Go.Shelf.Ren := ⟨fun | 171 => 117 | 243 => 165 | 246 => 222 | 283 => 289 | 284 => 290 | 285 => 291 | 286 => 292 | 129 => 199 | 317 => 339 | 318 => 340 | 319 => 341 | 320 => 342 | 337 => 375 | 338 => 376 | n => n, fun | 3 => 3 | 9 => 9 | 2 => 2 | 4 => 4 | 171 => 310 | 0 => 0 | 53 => 248 | 37 => 229 | 5 => 5 | 173 => 312 | 212 => 347 | 51 => 246 | 20 => 20 | 213 => 348 | 46 => 176 | 232 => 379 | 233 => 380 | n => n, fun | 17 => 1 | 18 => 4 | 19 => 5 | n => n⟩
theorem Tryz.laysItoa : Go.Proofs.Lays.n171 Tryz.prog Tryz.laysItoa_ren := { mixed := by kernel_rfl, f129 := Tryz.func199.trans (congrArg some (by kernel_rfl)), f171 := Tryz.func117.trans (congrArg some (by kernel_rfl)), f243 := Tryz.func165.trans (congrArg some (by kernel_rfl)), f246 := Tryz.func222.trans (congrArg some (by kernel_rfl)), f283 := Tryz.func289.trans (congrArg some (by kernel_rfl)), f284 := Tryz.func290.trans (congrArg some (by kernel_rfl)), f285 := Tryz.func291.trans (congrArg some (by kernel_rfl)), f286 := Tryz.func292.trans (congrArg some (by kernel_rfl)), f317 := Tryz.func339.trans (congrArg some (by kernel_rfl)), f318 := Tryz.func340.trans (congrArg some (by kernel_rfl)), f319 := Tryz.func341.trans (congrArg some (by kernel_rfl)), f320 := Tryz.func342.trans (congrArg some (by kernel_rfl)), f337 := Tryz.func375.trans (congrArg some (by kernel_rfl)), f338 := Tryz.func376.trans (congrArg some (by kernel_rfl)), t0 := Tryz.underlying0, a0 := Tryz.isAgg0, z0 := Tryz.sizeOf0, v0 := Tryz.zeroValue0, t2 := Tryz.underlying2, a2 := Tryz.isAgg2, z2 := Tryz.sizeOf2, v2 := Tryz.zeroValue2, t3 := Tryz.underlying3, a3 := Tryz.isAgg3, z3 := Tryz.sizeOf3, v3 := Tryz.zeroValue3, t4 := Tryz.underlying4, a4 := Tryz.isAgg4, z4 := Tryz.sizeOf4, v4 := Tryz.zeroValue4, t5 := Tryz.underlying5, a5 := Tryz.isAgg5, z5 := Tryz.sizeOf5, v5 := Tryz.zeroValue5, t9 := Tryz.underlying9, a9 := Tryz.isAgg9, z9 := Tryz.sizeOf9, v9 := Tryz.zeroValue9, t20 := Tryz.underlying20, a20 := Tryz.isAgg20, z20 := Tryz.sizeOf20, v20 := Tryz.zeroValue20, t37 := Tryz.underlying229, a37 := Tryz.isAgg229, z37 := Tryz.sizeOf229, v37 := Tryz.zeroValue229, t46 := Tryz.underlying176, a46 := Tryz.isAgg176, z46 := Tryz.sizeOf176, v46 := Tryz.zeroValue176, t51 := Tryz.underlying246, a51 := Tryz.isAgg246, z51 := Tryz.sizeOf246, v51 := Tryz.zeroValue246, t53 := Tryz.underlying248, a53 := Tryz.isAgg248, z53 := Tryz.sizeOf248, v53 := Tryz.zeroValue248, t171 := Tryz.underlying310, a171 := Tryz.isAgg310, z171 := Tryz.sizeOf310, v171 := Tryz.zeroValue310, t173 := Tryz.underlying312, a173 := Tryz.isAgg312, z173 := Tryz.sizeOf312, v173 := Tryz.zeroValue312, t212 := Tryz.underlying347, a212 := Tryz.isAgg347, z212 := Tryz.sizeOf347, v212 := Tryz.zeroValue347, t213 := Tryz.underlying348, a213 := Tryz.isAgg348, z213 := Tryz.sizeOf348, t232 := Tryz.underlying379, a232 := Tryz.isAgg379, z232 := Tryz.sizeOf379, v232 := Tryz.zeroValue379, t233 := Tryz.underlying380, a233 := Tryz.isAgg380, z233 := Tryz.sizeOf380, v233 := Tryz.zeroValue380, g17 := by kernel_rfl, g18 := by kernel_rfl, g19 := by kernel_rfl }
def Tryz.laysSort79_ren : Go.Shelf.Ren := ⟨fun | 6 => 79 | 15 => 134 | 14 => 133 | 28 => 198 | 29 => 199 | 20 => 188 | 21 => 191 | 22 => 192 | 23 => 193 | 24 => 194 | 25 => 195 | 26 => 196 | 27 => 197 | 46 => 254 | 47 => 255 | 48 => 256 | 49 => 257 | 50 => 258 | 57 => 314 | n => n, fun | 22 => 26 | 24 => 35 | 25 => 105 | 3 => 3 | 39 => 176 | 0 => 0 | 53 => 246 | 55 => 248 | 4 => 4 | 46 => 239 | 45 => 238 | 50 => 243 | 5 => 5 | 9 => 9 | 66 => 285 | 70 => 289 | 76 => 329 | 77 => 330 | n => n, fun | n => n⟩
theorem Tryz.laysSort79 : Go.Proofs.SlLaysF0.n6 Tryz.prog Tryz.laysSort79_ren := { mixed := by kernel_rfl, f6 := ⟨Tryz.f79.name, by kernel_rfl, Tryz.func79.trans (congrArg some (by kernel_rfl))⟩, f14 := ⟨Tryz.f133.name, by kernel_rfl, Tryz.func133.trans (congrArg some (by kernel_rfl))⟩, f15 := Tryz.func134.trans (congrArg some (by kernel_rfl)), f20 := ⟨Tryz.f188.name, by kernel_rfl, Tryz.func188.trans (congrArg some (by kernel_rfl))⟩, f21 := ⟨Tryz.f191.name, by kernel_rfl, Tryz.func191.trans (congrArg some (by kernel_rfl))⟩, f22 := ⟨Tryz.f192.name, by kernel_rfl, Tryz.func192.trans (congrArg some (by kernel_rfl))⟩, f23 := ⟨Tryz.f193.name, by kernel_rfl, Tryz.func193.trans (congrArg some (by kernel_rfl))⟩, f24 := ⟨Tryz.f194.name, by kernel_rfl, Tryz.func194.trans (congrArg some (by kernel_rfl))⟩, f25 := ⟨Tryz.f195.name, by kernel_rfl, Tryz.func195.trans (congrArg some (by kernel_rfl))⟩, f26 := ⟨Tryz.f196.name, by kernel_rfl, Tryz.func196.trans (congrArg some (by kernel_rfl))⟩, f27 := ⟨Tryz.f197.name, by kernel_rfl, Tryz.func197.trans (congrArg some (by kernel_rfl))⟩, f28 := Tryz.func198.trans (congrArg some (by kernel_rfl)), f29 := Tryz.func199.trans (congrArg some (by kernel_rfl)), f46 := ⟨Tryz.f254.name, by kernel_rfl, Tryz.func254.trans (congrArg some (by kernel_rfl))⟩, f47 := Tryz.func255.trans (congrArg some (by kernel_rfl)), f48 := Tryz.func256.trans (congrArg some (by kernel_rfl)), f49 := ⟨Tryz.f257.name, by kernel_rfl, Tryz.func257.trans (congrArg some (by kernel_rfl))⟩, f50 := ⟨Tryz.f258.name, by kernel_rfl, Tryz.func258.trans (congrArg some (by kernel_rfl))⟩, f57 := ⟨Tryz.f314.name, by kernel_rfl, Tryz.func314.trans (congrArg some (by kernel_rfl))⟩, t0 := Tryz.underlying0, a0 := Tryz.isAgg0, z0 := Tryz.sizeOf0, v0 := Tryz.zeroValue0, t3 := Tryz.underlying3, a3 := Tryz.isAgg3, z3 := Tryz.sizeOf3, v3 := Tryz.zeroValue3, t4 := Tryz.underlying4, a4 := Tryz.isAgg4, z4 := Tryz.sizeOf4, v4 := Tryz.zeroValue4, t5 := Tryz.underlying5, a5 := Tryz.isAgg5, z5 := Tryz.sizeOf5, v5 := Tryz.zeroValue5, t9 := Tryz.underlying9, a9 := Tryz.isAgg9, z9 := Tryz.sizeOf9, v9 := Tryz.zeroValue9, t22 := Tryz.underlying26, a22 := Tryz.isAgg26, z22 := Tryz.sizeOf26, v22 := Tryz.zeroValue26, t25 := Tryz.underlying105, a25 := Tryz.isAgg105, z25 := Tryz.sizeOf105, v25 := Tryz.zeroValue105, t39 := Tryz.underlying176, a39 := Tryz.isAgg176, z39 := Tryz.sizeOf176, v39 := Tryz.zeroValue176, t45 := Tryz.underlying238, a45 := Tryz.isAgg238, z45 := Tryz.sizeOf238, v45 := Tryz.zeroValue238, t46 := Tryz.underlying239, a46 := Tryz.isAgg239, z46 := Tryz.sizeOf239, v46 := Tryz.zeroValue239, t50 := Tryz.underlying243, a50 := Tryz.isAgg243, z50 := Tryz.sizeOf243, v50 := Tryz.zeroValue243, t53 := Tryz.underlying246, a53 := Tryz.isAgg246, z53 := Tryz.sizeOf246, v53 := Tryz.zeroValue246, t55 := Tryz.underlying248, a55 := Tryz.isAgg248, z55 := Tryz.sizeOf248, v55 := Tryz.zeroValue248, t66 := Tryz.underlying285, a66 := Tryz.isAgg285, z66 := Tryz.sizeOf285, v66 := Tryz.zeroValue285, t70 := Tryz.underlying289, a70 := Tryz.isAgg289, z70 := Tryz.sizeOf289, v70 := Tryz.zeroValue289, t76 := Tryz.underlying329, a76 := Tryz.isAgg329, z76 := Tryz.sizeOf329, v76 := Tryz.zeroValue329, t77 := Tryz.underlying330, a77 := Tryz.isAgg330, z77 := Tryz.sizeOf330, v77 := Tryz.zeroValue330 }
end Go.Proofs
namespace Go.Proofs.SYtkdippipiidcmaaGreatDoor
open Go Go.AL Go.Proofs
noncomputable section
abbrev P : Program := Tryz.prog
attribute [instance] drT
theorem hm : P.follows .mixedOrders = true := Tryz.checked.mixed
def cmpS (a b : ByteArray) : Int := Lib.compareBytes a.data.toList b.data.toList
def idxB (s : ByteArray) (c : Int) : Int := Lib.indexByte s.data.toList c.toNat.toUInt8
def trimB (s cut : ByteArray) : ByteArray := ⟨(Lib.trimS s.data.toList cut.data.toList).toArray⟩
def itoaB (n : Int) : ByteArray := ⟨(Lib.decDigits n.toNat).toArray⟩
def ascii (cut : ByteArray) : Bool := cut.data.toList.all fun b => Nat.blt b.toNat 128
def eqS (a b : ByteArray) : Bool := a.data.toList == b.data.toList
theorem eqS_eq {a b : ByteArray} (h : eqS a b = true) : a = b := by
  unfold eqS at h
  rw [beq_iff_eq] at h
  cases a with
  | mk a =>
    cases b with
    | mk b =>
      congr 1
      exact Array.ext' h
def lookS {α : Type} : List (ByteArray × α) → ByteArray → Option α
  | [], _ => none
  | (k, v) :: l, s => bif eqS k s then some v else lookS l s
theorem lookS_mem {α : Type} {s : ByteArray} {v : α} : ∀ {l : List (ByteArray × α)}, lookS l s = some v → (s, v) ∈ l
  | [], h => by cases h
  | (k, u) :: l, h => by
    simp only [lookS] at h
    cases hk : eqS k s with
    | true =>
      rw [hk] at h
      cases h
      rw [eqS_eq hk]
      exact List.mem_cons_self
    | false =>
      rw [hk] at h
      exact List.mem_cons_of_mem _ (lookS_mem h)
abbrev KContact : List Kd := [.int .i64, .int .i64, .str, .str, .int .i64, .int .i64, .str, .str]
abbrev KDeed : List Kd := [.str, .int .i64, .int .i64, .int .i64, .int .i64, .int .i64, .str, .str, .int .i64, .int .i64, .str, .str, .str, .str, .int .i64]
abbrev KDesk : List Kd := [.str, .str, .int .i64]
abbrev KSegment : List Kd := [.str, .int .i64, .int .i64, .list [.int .i64], .int .i64, .int .i64]
abbrev KEntrant : List Kd := [.str, .str, .int .i64, .str]
abbrev KParts : List Kd := [.str, .str, .str, .int .i64, .str]
abbrev KPlace : List Kd := [.int .i64, .int .i64, .str]
def t0 : Tab := tabM []
theorem t0_ok : TabOK P t0 := tabM_ok P _
def F_strings_Compare (d : List G) : Option (List G) := some [.i (cmpS (gi d 0).str (gi d 1).str)]
def s_strings_Compare : FSpec := ⟨131, [.s (.str), .s (.str)], [], [], [.s (.int .i64)], [], [], [], F_strings_Compare⟩
theorem c_strings_Compare : ∀ d r, F_strings_Compare d = some r → ACallX P 131 (s_strings_Compare.args0 d) (denH (s_strings_Compare.H0 d)) (s_strings_Compare.out r) (denH (s_strings_Compare.H1 r)) := fun d r h => by
  cases h
  exact (pcall_lits (vs := [.string (gi d 0).str, .string (gi d 1).str]) fun w => (Proofs.Any.strings_Compare Tryz.laysCompare (gi d 0).str (gi d 1).str w).mono fun e w' h => ⟨h.1, h.2 ▸ Ext.refl w⟩) []
def t1 : Tab := t0.addP s_strings_Compare
theorem t1_ok : TabOK P t1 := t0_ok.addP (by kernel_rfl) (by kernel_rfl) c_strings_Compare
def F_strings_IndexByte (d : List G) : Option (List G) := some [.i (idxB (gi d 0).str (gi d 1).int)]
def s_strings_IndexByte : FSpec := ⟨202, [.s (.str), .s (.int .u8)], [], [], [.s (.int .i64)], [], [], [], F_strings_IndexByte⟩
theorem c_strings_IndexByte : ∀ d r, F_strings_IndexByte d = some r → ACallX P 202 (s_strings_IndexByte.args0 d) (denH (s_strings_IndexByte.H0 d)) (s_strings_IndexByte.out r) (denH (s_strings_IndexByte.H1 r)) := fun d r h => by
  cases h
  exact (pcall_lits (vs := [.string (gi d 0).str, .int .u8 (gi d 1).int]) fun w => (Proofs.Any.strings_IndexByte Tryz.laysIndexByte (gi d 0).str (gi d 1).int w).mono fun e w' h => ⟨h.1, h.2 ▸ Ext.refl w⟩) []
def t2 : Tab := t1.addP s_strings_IndexByte
theorem t2_ok : TabOK P t2 := t1_ok.addP (by kernel_rfl) (by kernel_rfl) c_strings_IndexByte
def F_strconv_Itoa (d : List G) : Option (List G) := bif (nnI (gi d 0).int && ltI (gi d 0).int 100) then some [.s (itoaB (gi d 0).int)] else none
def s_strconv_Itoa : FSpec := ⟨117, [.s (.int .i64)], [], [], [.s (.str)], [], [], [], F_strconv_Itoa⟩
theorem c_strconv_Itoa : ∀ d r, F_strconv_Itoa d = some r → ACallX P 117 (s_strconv_Itoa.args0 d) (denH (s_strconv_Itoa.H0 d)) (s_strconv_Itoa.out r) (denH (s_strconv_Itoa.H1 r)) := fun d r h => by
  unfold F_strconv_Itoa at h
  cases hb : (nnI (gi d 0).int && ltI (gi d 0).int 100) with
  | false => rw [hb] at h; cases h
  | true =>
    rw [hb] at h
    cases h
    simp only [Bool.and_eq_true, nnI_eq, ltI_eq, decide_eq_true_eq] at hb
    have e : (gi d 0).int = ((gi d 0).int.toNat : Int) := by omega
    have key : PCall P 117 [.lit (.int .i64 (gi d 0).int)] (.lit (.string (itoaB (gi d 0).int))) := by
      rw [e]
      exact pcall_lits (vs := [.int .i64 ((gi d 0).int.toNat : Int)]) fun w => (Proofs.Any.strconv_Itoa_small Tryz.laysItoa (gi d 0).int.toNat (by omega) w).mono fun e w' h => ⟨h.1, h.2 ▸ Ext.refl w⟩
    exact key []
def t3 : Tab := t2.addP s_strconv_Itoa
theorem t3_ok : TabOK P t3 := t2_ok.addP (by kernel_rfl) (by kernel_rfl) c_strconv_Itoa
def F_strings_Trim (d : List G) : Option (List G) := bif (ascii (gi d 1).str && (Nat.ble 2 (gi d 1).str.size && (Nat.blt (gi d 1).str.size 4294967281 && (Nat.ble 1 (gi d 0).str.size && Nat.ble (gi d 0).str.size 9223372036854775807)))) then some [.s (trimB (gi d 0).str (gi d 1).str)] else none
def s_strings_Trim : FSpec := ⟨203, [.s (.str), .s (.str)], [], [], [.s (.str)], [], [], [], F_strings_Trim⟩
theorem c_strings_Trim : ∀ d r, F_strings_Trim d = some r → ACallX P 203 (s_strings_Trim.args0 d) (denH (s_strings_Trim.H0 d)) (s_strings_Trim.out r) (denH (s_strings_Trim.H1 r)) := fun d r h => by
  unfold F_strings_Trim at h
  cases hb : (ascii (gi d 1).str && (Nat.ble 2 (gi d 1).str.size && (Nat.blt (gi d 1).str.size 4294967281 && (Nat.ble 1 (gi d 0).str.size && Nat.ble (gi d 0).str.size 9223372036854775807)))) with
  | false => rw [hb] at h; cases h
  | true =>
    rw [hb] at h
    cases h
    simp only [Bool.and_eq_true, Nat.blt_eq, Nat.ble_eq] at hb
    have hz : (Tryz.prog.info? (Tryz.laysTrim_ren.t 116)).map (fun i => (i.zero, i.size)) = some (some (.agg (Array.replicate 256 (.bool false))), 256) := by kernel_rfl
    exact (pcall_lits (vs := [.string (gi d 0).str, .string (gi d 1).str]) fun w => (Proofs.Any.strings_Trim_set Tryz.laysTrim (zero_of_info hz).1 (zero_of_info hz).2 (gi d 0).str (gi d 1).str w hb.2.1 hb.2.2.2.1 hb.2.2.2.2 hb.2.2.1 fun j b hj => by
      have := List.all_eq_true.1 hb.1 b (List.mem_of_getElem? hj)
      simpa [Nat.blt_eq] using this).mono fun _ _ h => ⟨h.1, by
        obtain ⟨_, q, rfl⟩ := h
        exact ((Ext.push w _).trans (Ext.push _ _)).trans (Ext.drawn _ _ (Nat.le_add_right _ _))⟩) []
def t4 : Tab := t3.addP s_strings_Trim
theorem t4_ok : TabOK P t4 := t3_ok.addP (by kernel_rfl) (by kernel_rfl) c_strings_Trim
def F_stringslite_IndexByte (d : List G) : Option (List G) := some [.i (idxB (gi d 0).str (gi d 1).int)]
def s_stringslite_IndexByte : FSpec := ⟨259, [.s (.str), .s (.int .u8)], [], [], [.s (.int .i64)], [], [], [], F_stringslite_IndexByte⟩
theorem c_stringslite_IndexByte : ∀ d r, F_stringslite_IndexByte d = some r → ACallX P 259 (s_stringslite_IndexByte.args0 d) (denH (s_stringslite_IndexByte.H0 d)) (s_stringslite_IndexByte.out r) (denH (s_stringslite_IndexByte.H1 r)) := fun d r h => by
  cases h
  exact (pcall_lits (vs := [.string (gi d 0).str, .int .u8 (gi d 1).int]) fun w => (Proofs.Any.stringslite_IndexByte Tryz.laysSlIndexByte (gi d 0).str (gi d 1).int w).mono fun e w' h => ⟨h.1, h.2 ▸ Ext.refl w⟩) []
def t5 : Tab := t4.addP s_stringslite_IndexByte
theorem t5_ok : TabOK P t5 := t4_ok.addP (by kernel_rfl) (by kernel_rfl) c_stringslite_IndexByte
end
end Go.Proofs.SYtkdippipiidcmaaGreatDoor
