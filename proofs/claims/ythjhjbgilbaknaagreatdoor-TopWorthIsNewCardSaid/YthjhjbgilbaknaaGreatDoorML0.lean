/-
 What is proved here: functions of the program as functions on data. No condition.
-/
import Derived.Test.YthjhjbgilbaknaaGreatDoorMG
import Derived.Test.YthjhjbgilbaknaaGreatDoorChecked
import Derived.Test.YthjhjbgilbaknaaGreatDoorMR
import Derived.Shelf.Small.Strs
import Derived.Shelf.Strconv.Itoa3
import Derived.Shelf.Strings.Search1
import Derived.Shelf.Strings.SlTrimAscii
set_option linter.unusedSimpArgs false
set_option linter.unusedVariables false
set_option linter.unusedSectionVars false
namespace Go.Proofs
open Go.Shelf Go.RowKit
set_option maxHeartbeats 4000000
def Tryz.laysCompare_ren : Go.Shelf.Ren := ⟨fun | 106 => 137 | 213 => 200 | 265 => 248 | n => n, fun | 9 => 9 | 3 => 3 | n => n, fun | n => n⟩
theorem Tryz.laysCompare : Go.Proofs.Lays.n106 Tryz.prog Tryz.laysCompare_ren := { mixed := by kernel_rfl, f106 := Tryz.func137.trans (congrArg some (by kernel_rfl)), f213 := Tryz.func200.trans (congrArg some (by kernel_rfl)), f265 := Tryz.func248.trans (congrArg some (by kernel_rfl)), t3 := Tryz.underlying3, a3 := Tryz.isAgg3, z3 := Tryz.sizeOf3, v3 := Tryz.zeroValue3, t9 := Tryz.underlying9, a9 := Tryz.isAgg9, z9 := Tryz.sizeOf9, v9 := Tryz.zeroValue9 }
def Tryz.laysIndexByte_ren : Go.Shelf.Ren := ⟨fun | 137 => 210 | 217 => 260 | 266 => 296 | n => n, fun | 9 => 9 | 5 => 5 | 3 => 3 | n => n, fun | n => n⟩
theorem Tryz.laysIndexByte : Go.Proofs.Lays.n137 Tryz.prog Tryz.laysIndexByte_ren := { mixed := by kernel_rfl, f137 := Tryz.func210.trans (congrArg some (by kernel_rfl)), f217 := Tryz.func260.trans (congrArg some (by kernel_rfl)), f266 := Tryz.func296.trans (congrArg some (by kernel_rfl)), t3 := Tryz.underlying3, a3 := Tryz.isAgg3, z3 := Tryz.sizeOf3, v3 := Tryz.zeroValue3, t5 := Tryz.underlying5, a5 := Tryz.isAgg5, z5 := Tryz.sizeOf5, v5 := Tryz.zeroValue5, t9 := Tryz.underlying9, a9 := Tryz.isAgg9, z9 := Tryz.sizeOf9, v9 := Tryz.zeroValue9 }
def Tryz.laysTrim_ren : Go.Shelf.Ren := ⟨fun | 160 => 219 | 232 => 266 | 231 => 265 | 227 => 267 | 234 => 269 | 233 => 268 | 236 => 271 | 235 => 270 | 228 => 293 | 271 => 294 | 151 => 300 | 197 => 299 | 120 => 330 | 152 => 291 | 260 => 331 | 137 => 210 | 119 => 329 | 224 => 327 | 225 => 326 | 217 => 260 | 266 => 296 | n => n, fun | 9 => 9 | 4 => 4 | 3 => 3 | 5 => 5 | 117 => 282 | 116 => 281 | 0 => 0 | 124 => 285 | 21 => 21 | 105 => 306 | 46 => 148 | 119 => 339 | 139 => 342 | 138 => 341 | n => n, fun | 3 => 4 | 4 => 5 | n => n⟩
theorem Tryz.laysTrim : Go.Proofs.Lays.n160 Tryz.prog Tryz.laysTrim_ren := { mixed := by kernel_rfl, f119 := Tryz.func329.trans (congrArg some (by kernel_rfl)), f120 := Tryz.func330.trans (congrArg some (by kernel_rfl)), f137 := Tryz.func210.trans (congrArg some (by kernel_rfl)), f151 := Tryz.func300.trans (congrArg some (by kernel_rfl)), f152 := Tryz.func291.trans (congrArg some (by kernel_rfl)), f160 := Tryz.func219.trans (congrArg some (by kernel_rfl)), f197 := Tryz.func299.trans (congrArg some (by kernel_rfl)), f217 := Tryz.func260.trans (congrArg some (by kernel_rfl)), f224 := Tryz.func327.trans (congrArg some (by kernel_rfl)), f225 := Tryz.func326.trans (congrArg some (by kernel_rfl)), f227 := Tryz.func267.trans (congrArg some (by kernel_rfl)), f228 := Tryz.func293.trans (congrArg some (by kernel_rfl)), f231 := Tryz.func265.trans (congrArg some (by kernel_rfl)), f232 := Tryz.func266.trans (congrArg some (by kernel_rfl)), f233 := Tryz.func268.trans (congrArg some (by kernel_rfl)), f234 := Tryz.func269.trans (congrArg some (by kernel_rfl)), f235 := Tryz.func270.trans (congrArg some (by kernel_rfl)), f236 := Tryz.func271.trans (congrArg some (by kernel_rfl)), f260 := Tryz.func331.trans (congrArg some (by kernel_rfl)), f266 := Tryz.func296.trans (congrArg some (by kernel_rfl)), f271 := Tryz.func294.trans (congrArg some (by kernel_rfl)), t0 := Tryz.underlying0, a0 := Tryz.isAgg0, z0 := Tryz.sizeOf0, v0 := Tryz.zeroValue0, t3 := Tryz.underlying3, a3 := Tryz.isAgg3, z3 := Tryz.sizeOf3, v3 := Tryz.zeroValue3, t4 := Tryz.underlying4, a4 := Tryz.isAgg4, z4 := Tryz.sizeOf4, v4 := Tryz.zeroValue4, t5 := Tryz.underlying5, a5 := Tryz.isAgg5, z5 := Tryz.sizeOf5, v5 := Tryz.zeroValue5, t9 := Tryz.underlying9, a9 := Tryz.isAgg9, z9 := Tryz.sizeOf9, v9 := Tryz.zeroValue9, t21 := Tryz.underlying21, a21 := Tryz.isAgg21, z21 := Tryz.sizeOf21, v21 := Tryz.zeroValue21, t46 := Tryz.underlying148, a46 := Tryz.isAgg148, z46 := Tryz.sizeOf148, v46 := Tryz.zeroValue148, t105 := Tryz.underlying306, a105 := Tryz.isAgg306, z105 := Tryz.sizeOf306, v105 := Tryz.zeroValue306, t116 := Tryz.underlying281, a116 := Tryz.isAgg281, z116 := Tryz.sizeOf281, t117 := Tryz.underlying282, a117 := Tryz.isAgg282, z117 := Tryz.sizeOf282, v117 := Tryz.zeroValue282, t119 := Tryz.underlying339, a119 := Tryz.isAgg339, z119 := Tryz.sizeOf339, t124 := Tryz.underlying285, a124 := Tryz.isAgg285, z124 := Tryz.sizeOf285, v124 := Tryz.zeroValue285, t138 := Tryz.underlying341, a138 := Tryz.isAgg341, z138 := Tryz.sizeOf341, v138 := Tryz.zeroValue341, t139 := Tryz.underlying342, a139 := Tryz.isAgg342, z139 := Tryz.sizeOf342, v139 := Tryz.zeroValue342, g3 := by kernel_rfl, g4 := by kernel_rfl }
def Tryz.laysSlIndexByte_ren : Go.Shelf.Ren := ⟨fun | 217 => 260 | 266 => 296 | n => n, fun | 9 => 9 | 5 => 5 | 3 => 3 | n => n, fun | n => n⟩
theorem Tryz.laysSlIndexByte : Go.Proofs.Lays.n217 Tryz.prog Tryz.laysSlIndexByte_ren := { mixed := by kernel_rfl, f217 := Tryz.func260.trans (congrArg some (by kernel_rfl)), f266 := Tryz.func296.trans (congrArg some (by kernel_rfl)), t3 := Tryz.underlying3, a3 := Tryz.isAgg3, z3 := Tryz.sizeOf3, v3 := Tryz.zeroValue3, t5 := Tryz.underlying5, a5 := Tryz.isAgg5, z5 := Tryz.sizeOf5, v5 := Tryz.zeroValue5, t9 := Tryz.underlying9, a9 := Tryz.isAgg9, z9 := Tryz.sizeOf9, v9 := Tryz.zeroValue9 }
def Tryz.laysItoa_ren : Go.Shelf.Ren := ⟨fun | 171 => 76 | 243 => 142 | 246 => 204 | 283 => 250 | 284 => 251 | 285 => 252 | 286 => 253 | 129 => 178 | 317 => 286 | 318 => 287 | 319 => 288 | 320 => 289 | 337 => 324 | 338 => 325 | n => n, fun | 3 => 3 | 9 => 9 | 2 => 2 | 4 => 4 | 171 => 271 | 0 => 0 | 53 => 210 | 37 => 273 | 5 => 5 | 173 => 274 | 212 => 303 | 51 => 208 | 20 => 20 | 213 => 304 | 46 => 148 | 232 => 335 | 233 => 336 | n => n, fun | 17 => 1 | 18 => 2 | 19 => 3 | n => n⟩
theorem Tryz.laysItoa : Go.Proofs.Lays.n171 Tryz.prog Tryz.laysItoa_ren := { mixed := by kernel_rfl, f129 := Tryz.func178.trans (congrArg some (by kernel_rfl)), f171 := Tryz.func76.trans (congrArg some (by kernel_rfl)), f243 := Tryz.func142.trans (congrArg some (by kernel_rfl)), f246 := Tryz.func204.trans (congrArg some (by kernel_rfl)), f283 := Tryz.func250.trans (congrArg some (by kernel_rfl)), f284 := Tryz.func251.trans (congrArg some (by kernel_rfl)), f285 := Tryz.func252.trans (congrArg some (by kernel_rfl)), f286 := Tryz.func253.trans (congrArg some (by kernel_rfl)), f317 := Tryz.func286.trans (congrArg some (by kernel_rfl)), f318 := Tryz.func287.trans (congrArg some (by kernel_rfl)), f319 := Tryz.func288.trans (congrArg some (by kernel_rfl)), f320 := Tryz.func289.trans (congrArg some (by kernel_rfl)), f337 := Tryz.func324.trans (congrArg some (by kernel_rfl)), f338 := Tryz.func325.trans (congrArg some (by kernel_rfl)), t0 := Tryz.underlying0, a0 := Tryz.isAgg0, z0 := Tryz.sizeOf0, v0 := Tryz.zeroValue0, t2 := Tryz.underlying2, a2 := Tryz.isAgg2, z2 := Tryz.sizeOf2, v2 := Tryz.zeroValue2, t3 := Tryz.underlying3, a3 := Tryz.isAgg3, z3 := Tryz.sizeOf3, v3 := Tryz.zeroValue3, t4 := Tryz.underlying4, a4 := Tryz.isAgg4, z4 := Tryz.sizeOf4, v4 := Tryz.zeroValue4, t5 := Tryz.underlying5, a5 := Tryz.isAgg5, z5 := Tryz.sizeOf5, v5 := Tryz.zeroValue5, t9 := Tryz.underlying9, a9 := Tryz.isAgg9, z9 := Tryz.sizeOf9, v9 := Tryz.zeroValue9, t20 := Tryz.underlying20, a20 := Tryz.isAgg20, z20 := Tryz.sizeOf20, v20 := Tryz.zeroValue20, t37 := Tryz.underlying273, a37 := Tryz.isAgg273, z37 := Tryz.sizeOf273, v37 := Tryz.zeroValue273, t46 := Tryz.underlying148, a46 := Tryz.isAgg148, z46 := Tryz.sizeOf148, v46 := Tryz.zeroValue148, t51 := Tryz.underlying208, a51 := Tryz.isAgg208, z51 := Tryz.sizeOf208, v51 := Tryz.zeroValue208, t53 := Tryz.underlying210, a53 := Tryz.isAgg210, z53 := Tryz.sizeOf210, v53 := Tryz.zeroValue210, t171 := Tryz.underlying271, a171 := Tryz.isAgg271, z171 := Tryz.sizeOf271, v171 := Tryz.zeroValue271, t173 := Tryz.underlying274, a173 := Tryz.isAgg274, z173 := Tryz.sizeOf274, v173 := Tryz.zeroValue274, t212 := Tryz.underlying303, a212 := Tryz.isAgg303, z212 := Tryz.sizeOf303, v212 := Tryz.zeroValue303, t213 := Tryz.underlying304, a213 := Tryz.isAgg304, z213 := Tryz.sizeOf304, t232 := Tryz.underlying335, a232 := Tryz.isAgg335, z232 := Tryz.sizeOf335, v232 := Tryz.zeroValue335, t233 := Tryz.underlying336, a233 := Tryz.isAgg336, z233 := Tryz.sizeOf336, v233 := Tryz.zeroValue336, g17 := by kernel_rfl, g18 := by kernel_rfl, g19 := by kernel_rfl }
end Go.Proofs
namespace Go.Proofs.SYthjhjbgilbaknaaGreatDoor
open Go Go.AL Go.Proofs
noncomputable section
abbrev P : Program := Tryz.prog
theorem hm : P.follows .mixedOrders = true := Tryz.checked.mixed
def cmpS (a b : ByteArray) : Int := Lib.compareBytes a.data.toList b.data.toList
def idxB (s : ByteArray) (c : Int) : Int := Lib.indexByte s.data.toList c.toNat.toUInt8
def trimB (s cut : ByteArray) : ByteArray := ⟨(Lib.trimS s.data.toList cut.data.toList).toArray⟩
def itoaB (n : Int) : ByteArray := ⟨(Lib.decDigits n.toNat).toArray⟩
def ascii (cut : ByteArray) : Bool := cut.data.toList.all fun b => Nat.blt b.toNat 128
def eqS (a b : ByteArray) : Bool := a.data.toList == b.data.toList
theorem eqS_eq {a b : ByteArray} (h : eqS a b = true) : a = b := by
 unfold eqS at h
 rw [beq_iff_eq] at h
 cases a with
 | mk a =>
  cases b with
  | mk b =>
   congr 1
   exact Array.ext' h
def lookS {α : Type} : List (ByteArray × α) → ByteArray → Option α
 | [], _ => none
 | (k, v) :: l, s => bif eqS k s then some v else lookS l s
theorem lookS_mem {α : Type} {s : ByteArray} {v : α} : ∀ {l : List (ByteArray × α)}, lookS l s = some v → (s, v) ∈ l
 | [], h => by cases h
 | (k, u) :: l, h => by
  simp only [lookS] at h
  cases hk : eqS k s with
  | true =>
   rw [hk] at h
   cases h
   rw [eqS_eq hk]
   exact List.mem_cons_self
  | false =>
   rw [hk] at h
   exact List.mem_cons_of_mem _ (lookS_mem h)
abbrev KSpot : List Kd := [.int .i64, .int .i64, .str, .str]
abbrev KSegment : List Kd := [.str, .int .i64, .int .i64, .list [.int .i64], .int .i64, .int .i64]
abbrev KBusy : List Kd := [.str, .int .i64, .int .i64, .int .i64, .int .i64]
abbrev KBand : List Kd := [.str, .int .i64, .int .i64]
abbrev KCt : List Kd := [.int .i64, .int .i64, .str, .str, .int .i64, .int .i64, .str, .str]
abbrev KEntrant : List Kd := [.str, .str, .int .i64, .str]
abbrev KDeed : List Kd := [.str, .int .i64, .int .i64, .int .i64, .int .i64, .int .i64, .str, .str, .int .i64, .int .i64, .str, .str, .str, .str, .int .i64]
abbrev KParts : List Kd := [.str, .str, .str, .int .i64, .str]
abbrev KPlace : List Kd := [.int .i64, .int .i64, .str]
def t0 : Tab := tabM []
theorem t0_ok : TabOK P t0 := tabM_ok P _
def F_strings_Compare (d : List G) : Option (List G) := some [.i (cmpS (gi d 0).str (gi d 1).str)]
def s_strings_Compare : FSpec := ⟨137, [.s (.str), .s (.str)], [], [], [.s (.int .i64)], [], [], [], F_strings_Compare⟩
theorem c_strings_Compare : ∀ d r, F_strings_Compare d = some r → ACallX P 137 (s_strings_Compare.args0 d) (denH (s_strings_Compare.H0 d)) (s_strings_Compare.out r) (denH (s_strings_Compare.H1 r)) := fun d r h => by
 cases h
 exact (pcall_lits (vs := [.string (gi d 0).str, .string (gi d 1).str]) fun w => (Proofs.Any.strings_Compare Tryz.laysCompare (gi d 0).str (gi d 1).str w).mono fun e w' h => ⟨h.1, h.2 ▸ Ext.refl w⟩) []
def t1 : Tab := t0.addP s_strings_Compare
theorem t1_ok : TabOK P t1 := t0_ok.addP (by kernel_rfl) (by kernel_rfl) c_strings_Compare
def F_strings_IndexByte (d : List G) : Option (List G) := some [.i (idxB (gi d 0).str (gi d 1).int)]
def s_strings_IndexByte : FSpec := ⟨210, [.s (.str), .s (.int .u8)], [], [], [.s (.int .i64)], [], [], [], F_strings_IndexByte⟩
theorem c_strings_IndexByte : ∀ d r, F_strings_IndexByte d = some r → ACallX P 210 (s_strings_IndexByte.args0 d) (denH (s_strings_IndexByte.H0 d)) (s_strings_IndexByte.out r) (denH (s_strings_IndexByte.H1 r)) := fun d r h => by
 cases h
 exact (pcall_lits (vs := [.string (gi d 0).str, .int .u8 (gi d 1).int]) fun w => (Proofs.Any.strings_IndexByte Tryz.laysIndexByte (gi d 0).str (gi d 1).int w).mono fun e w' h => ⟨h.1, h.2 ▸ Ext.refl w⟩) []
def t2 : Tab := t1.addP s_strings_IndexByte
theorem t2_ok : TabOK P t2 := t1_ok.addP (by kernel_rfl) (by kernel_rfl) c_strings_IndexByte
def F_strconv_Itoa (d : List G) : Option (List G) := bif (nnI (gi d 0).int && ltI (gi d 0).int 100) then some [.s (itoaB (gi d 0).int)] else none
def s_strconv_Itoa : FSpec := ⟨76, [.s (.int .i64)], [], [], [.s (.str)], [], [], [], F_strconv_Itoa⟩
theorem c_strconv_Itoa : ∀ d r, F_strconv_Itoa d = some r → ACallX P 76 (s_strconv_Itoa.args0 d) (denH (s_strconv_Itoa.H0 d)) (s_strconv_Itoa.out r) (denH (s_strconv_Itoa.H1 r)) := fun d r h => by
 unfold F_strconv_Itoa at h
 cases hb : (nnI (gi d 0).int && ltI (gi d 0).int 100) with
 | false => rw [hb] at h; cases h
 | true =>
  rw [hb] at h
  cases h
  simp only [Bool.and_eq_true, nnI_eq, ltI_eq, decide_eq_true_eq] at hb
  have e : (gi d 0).int = ((gi d 0).int.toNat : Int) := by omega
  have key : PCall P 76 [.lit (.int .i64 (gi d 0).int)] (.lit (.string (itoaB (gi d 0).int))) := by
   rw [e]
   exact pcall_lits (vs := [.int .i64 ((gi d 0).int.toNat : Int)]) fun w => (Proofs.Any.strconv_Itoa_small Tryz.laysItoa (gi d 0).int.toNat (by omega) w).mono fun e w' h => ⟨h.1, h.2 ▸ Ext.refl w⟩
  exact key []
def t3 : Tab := t2.addP s_strconv_Itoa
theorem t3_ok : TabOK P t3 := t2_ok.addP (by kernel_rfl) (by kernel_rfl) c_strconv_Itoa
def F_strings_Trim (d : List G) : Option (List G) := bif (ascii (gi d 1).str && (Nat.ble 2 (gi d 1).str.size && (Nat.blt (gi d 1).str.size 4294967281 && (Nat.ble 1 (gi d 0).str.size && Nat.ble (gi d 0).str.size 9223372036854775807)))) then some [.s (trimB (gi d 0).str (gi d 1).str)] else none
def s_strings_Trim : FSpec := ⟨219, [.s (.str), .s (.str)], [], [], [.s (.str)], [], [], [], F_strings_Trim⟩
theorem c_strings_Trim : ∀ d r, F_strings_Trim d = some r → ACallX P 219 (s_strings_Trim.args0 d) (denH (s_strings_Trim.H0 d)) (s_strings_Trim.out r) (denH (s_strings_Trim.H1 r)) := fun d r h => by
 unfold F_strings_Trim at h
 cases hb : (ascii (gi d 1).str && (Nat.ble 2 (gi d 1).str.size && (Nat.blt (gi d 1).str.size 4294967281 && (Nat.ble 1 (gi d 0).str.size && Nat.ble (gi d 0).str.size 9223372036854775807)))) with
 | false => rw [hb] at h; cases h
 | true =>
  rw [hb] at h
  cases h
  simp only [Bool.and_eq_true, Nat.blt_eq, Nat.ble_eq] at hb
  have hz : (Tryz.prog.info? (Tryz.laysTrim_ren.t 116)).map (fun i => (i.zero, i.size)) = some (some (.agg (Array.replicate 256 (.bool false))), 256) := by kernel_rfl
  exact (pcall_lits (vs := [.string (gi d 0).str, .string (gi d 1).str]) fun w => (Proofs.Any.strings_Trim_set Tryz.laysTrim (zero_of_info hz).1 (zero_of_info hz).2 (gi d 0).str (gi d 1).str w hb.2.1 hb.2.2.2.1 hb.2.2.2.2 hb.2.2.1 fun j b hj => by
   have := List.all_eq_true.1 hb.1 b (List.mem_of_getElem? hj)
   simpa [Nat.blt_eq] using this).mono fun _ _ h => ⟨h.1, by
    obtain ⟨_, q, rfl⟩ := h
    exact ((Ext.push w _).trans (Ext.push _ _)).trans (Ext.drawn _ _ (Nat.le_add_right _ _))⟩) []
def t4 : Tab := t3.addP s_strings_Trim
theorem t4_ok : TabOK P t4 := t3_ok.addP (by kernel_rfl) (by kernel_rfl) c_strings_Trim
def F_stringslite_IndexByte (d : List G) : Option (List G) := some [.i (idxB (gi d 0).str (gi d 1).int)]
def s_stringslite_IndexByte : FSpec := ⟨260, [.s (.str), .s (.int .u8)], [], [], [.s (.int .i64)], [], [], [], F_stringslite_IndexByte⟩
theorem c_stringslite_IndexByte : ∀ d r, F_stringslite_IndexByte d = some r → ACallX P 260 (s_stringslite_IndexByte.args0 d) (denH (s_stringslite_IndexByte.H0 d)) (s_stringslite_IndexByte.out r) (denH (s_stringslite_IndexByte.H1 r)) := fun d r h => by
 cases h
 exact (pcall_lits (vs := [.string (gi d 0).str, .int .u8 (gi d 1).int]) fun w => (Proofs.Any.stringslite_IndexByte Tryz.laysSlIndexByte (gi d 0).str (gi d 1).int w).mono fun e w' h => ⟨h.1, h.2 ▸ Ext.refl w⟩) []
def t5 : Tab := t4.addP s_stringslite_IndexByte
theorem t5_ok : TabOK P t5 := t4_ok.addP (by kernel_rfl) (by kernel_rfl) c_stringslite_IndexByte
end
end Go.Proofs.SYthjhjbgilbaknaaGreatDoor
