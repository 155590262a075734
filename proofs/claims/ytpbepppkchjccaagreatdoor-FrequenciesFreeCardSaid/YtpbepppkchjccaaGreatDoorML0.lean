/-
  What is proved here: functions of the program as functions on data. No condition.
-/
import Derived.Test.YtpbepppkchjccaaGreatDoorMH
import Derived.Test.YtpbepppkchjccaaGreatDoorChecked
import Derived.Test.YtpbepppkchjccaaGreatDoorMQ
import Derived.Shelf.SortM.Plain
import Derived.Shelf.SortM.SortNone
import Derived.Shelf.Small.Strs
import Derived.Shelf.Strings.Search1
import Derived.Shelf.Strings.SlTrimAscii
set_option linter.unusedSimpArgs false
set_option linter.unusedVariables false
set_option linter.unusedSectionVars false
namespace Go.Proofs
open Go.Shelf Go.RowKit
set_option maxHeartbeats 4000000
def Tryz.laysCompare_ren : Go.Shelf.Ren := ⟨fun | 106 => 71 | 213 => 102 | 265 => 137 | n => n, fun | 9 => 9 | 3 => 3 | n => n, fun | n => n⟩
theorem Tryz.laysCompare : Go.Proofs.Lays.n106 Tryz.prog Tryz.laysCompare_ren := { mixed := by kernel_rfl, f106 := Tryz.func71.trans (congrArg some (by kernel_rfl)), f213 := Tryz.func102.trans (congrArg some (by kernel_rfl)), f265 := Tryz.func137.trans (congrArg some (by kernel_rfl)), t3 := Tryz.underlying3, a3 := Tryz.isAgg3, z3 := Tryz.sizeOf3, v3 := Tryz.zeroValue3, t9 := Tryz.underlying9, a9 := Tryz.isAgg9, z9 := Tryz.sizeOf9, v9 := Tryz.zeroValue9 }
def Tryz.laysIndexByte_ren : Go.Shelf.Ren := ⟨fun | 137 => 98 | 217 => 128 | 266 => 159 | n => n, fun | 9 => 9 | 5 => 5 | 3 => 3 | n => n, fun | n => n⟩
theorem Tryz.laysIndexByte : Go.Proofs.Lays.n137 Tryz.prog Tryz.laysIndexByte_ren := { mixed := by kernel_rfl, f137 := Tryz.func98.trans (congrArg some (by kernel_rfl)), f217 := Tryz.func128.trans (congrArg some (by kernel_rfl)), f266 := Tryz.func159.trans (congrArg some (by kernel_rfl)), t3 := Tryz.underlying3, a3 := Tryz.isAgg3, z3 := Tryz.sizeOf3, v3 := Tryz.zeroValue3, t5 := Tryz.underlying5, a5 := Tryz.isAgg5, z5 := Tryz.sizeOf5, v5 := Tryz.zeroValue5, t9 := Tryz.underlying9, a9 := Tryz.isAgg9, z9 := Tryz.sizeOf9, v9 := Tryz.zeroValue9 }
def Tryz.laysTrim_ren : Go.Shelf.Ren := ⟨fun | 160 => 99 | 232 => 130 | 231 => 129 | 227 => 131 | 234 => 133 | 233 => 132 | 236 => 135 | 235 => 134 | 228 => 160 | 271 => 163 | 151 => 162 | 197 => 161 | 120 => 209 | 152 => 208 | 260 => 207 | 137 => 98 | 119 => 236 | 224 => 237 | 225 => 238 | 217 => 128 | 266 => 159 | n => n, fun | 9 => 9 | 4 => 4 | 3 => 3 | 5 => 5 | 117 => 159 | 116 => 158 | 0 => 0 | 124 => 162 | 21 => 21 | 105 => 189 | 46 => 168 | 119 => 240 | 139 => 243 | 138 => 242 | n => n, fun | 3 => 1 | 4 => 2 | n => n⟩
theorem Tryz.laysTrim : Go.Proofs.Lays.n160 Tryz.prog Tryz.laysTrim_ren := { mixed := by kernel_rfl, f119 := Tryz.func236.trans (congrArg some (by kernel_rfl)), f120 := Tryz.func209.trans (congrArg some (by kernel_rfl)), f137 := Tryz.func98.trans (congrArg some (by kernel_rfl)), f151 := Tryz.func162.trans (congrArg some (by kernel_rfl)), f152 := Tryz.func208.trans (congrArg some (by kernel_rfl)), f160 := Tryz.func99.trans (congrArg some (by kernel_rfl)), f197 := Tryz.func161.trans (congrArg some (by kernel_rfl)), f217 := Tryz.func128.trans (congrArg some (by kernel_rfl)), f224 := Tryz.func237.trans (congrArg some (by kernel_rfl)), f225 := Tryz.func238.trans (congrArg some (by kernel_rfl)), f227 := Tryz.func131.trans (congrArg some (by kernel_rfl)), f228 := Tryz.func160.trans (congrArg some (by kernel_rfl)), f231 := Tryz.func129.trans (congrArg some (by kernel_rfl)), f232 := Tryz.func130.trans (congrArg some (by kernel_rfl)), f233 := Tryz.func132.trans (congrArg some (by kernel_rfl)), f234 := Tryz.func133.trans (congrArg some (by kernel_rfl)), f235 := Tryz.func134.trans (congrArg some (by kernel_rfl)), f236 := Tryz.func135.trans (congrArg some (by kernel_rfl)), f260 := Tryz.func207.trans (congrArg some (by kernel_rfl)), f266 := Tryz.func159.trans (congrArg some (by kernel_rfl)), f271 := Tryz.func163.trans (congrArg some (by kernel_rfl)), t0 := Tryz.underlying0, a0 := Tryz.isAgg0, z0 := Tryz.sizeOf0, v0 := Tryz.zeroValue0, t3 := Tryz.underlying3, a3 := Tryz.isAgg3, z3 := Tryz.sizeOf3, v3 := Tryz.zeroValue3, t4 := Tryz.underlying4, a4 := Tryz.isAgg4, z4 := Tryz.sizeOf4, v4 := Tryz.zeroValue4, t5 := Tryz.underlying5, a5 := Tryz.isAgg5, z5 := Tryz.sizeOf5, v5 := Tryz.zeroValue5, t9 := Tryz.underlying9, a9 := Tryz.isAgg9, z9 := Tryz.sizeOf9, v9 := Tryz.zeroValue9, t21 := Tryz.underlying21, a21 := Tryz.isAgg21, z21 := Tryz.sizeOf21, v21 := Tryz.zeroValue21, t46 := Tryz.underlying168, a46 := Tryz.isAgg168, z46 := Tryz.sizeOf168, v46 := Tryz.zeroValue168, t105 := Tryz.underlying189, a105 := Tryz.isAgg189, z105 := Tryz.sizeOf189, v105 := Tryz.zeroValue189, t116 := Tryz.underlying158, a116 := Tryz.isAgg158, z116 := Tryz.sizeOf158, t117 := Tryz.underlying159, a117 := Tryz.isAgg159, z117 := Tryz.sizeOf159, v117 := Tryz.zeroValue159, t119 := Tryz.underlying240, a119 := Tryz.isAgg240, z119 := Tryz.sizeOf240, t124 := Tryz.underlying162, a124 := Tryz.isAgg162, z124 := Tryz.sizeOf162, v124 := Tryz.zeroValue162, t138 := Tryz.underlying242, a138 := Tryz.isAgg242, z138 := Tryz.sizeOf242, v138 := Tryz.zeroValue242, t139 := Tryz.underlying243, a139 := Tryz.isAgg243, z139 := Tryz.sizeOf243, v139 := Tryz.zeroValue243, g3 := by kernel_rfl, g4 := by kernel_rfl }
def Tryz.laysSlIndexByte_ren : Go.Shelf.Ren := ⟨fun | 217 => 128 | 266 => 159 | n => n, fun | 9 => 9 | 5 => 5 | 3 => 3 | n => n, fun | n => n⟩
theorem Tryz.laysSlIndexByte : Go.Proofs.Lays.n217 Tryz.prog Tryz.laysSlIndexByte_ren := { mixed := by kernel_rfl, f217 := Tryz.func128.trans (congrArg some (by kernel_rfl)), f266 := Tryz.func159.trans (congrArg some (by kernel_rfl)), t3 := Tryz.underlying3, a3 := Tryz.isAgg3, z3 := Tryz.sizeOf3, v3 := Tryz.zeroValue3, t5 := Tryz.underlying5, a5 := Tryz.isAgg5, z5 := Tryz.sizeOf5, v5 := Tryz.zeroValue5, t9 := Tryz.underlying9, a9 := Tryz.isAgg9, z9 := Tryz.sizeOf9, v9 := Tryz.zeroValue9 }
def Tryz.laysSort116_ren : Go.Shelf.Ren := ⟨fun | 6 => 116 | 15 => 140 | 14 => 151 | 28 => 173 | 29 => 174 | 20 => 186 | 21 => 187 | 22 => 188 | 23 => 189 | 24 => 190 | 25 => 191 | 26 => 192 | 27 => 193 | 46 => 219 | 47 => 211 | 48 => 212 | 49 => 220 | 50 => 221 | 57 => 241 | n => n, fun | 22 => 31 | 24 => 39 | 25 => 144 | 3 => 3 | 39 => 168 | 0 => 0 | 53 => 201 | 55 => 203 | 4 => 4 | 46 => 194 | 45 => 193 | 50 => 69 | 5 => 5 | 9 => 9 | 66 => 223 | 70 => 227 | 76 => 245 | 77 => 246 | n => n, fun | n => n⟩
theorem Tryz.laysSort116 : Go.Proofs.SlLaysF0.n6 Tryz.prog Tryz.laysSort116_ren := { mixed := by kernel_rfl, f6 := ⟨Tryz.f116.name, by kernel_rfl, Tryz.func116.trans (congrArg some (by kernel_rfl))⟩, f14 := ⟨Tryz.f151.name, by kernel_rfl, Tryz.func151.trans (congrArg some (by kernel_rfl))⟩, f15 := Tryz.func140.trans (congrArg some (by kernel_rfl)), f20 := ⟨Tryz.f186.name, by kernel_rfl, Tryz.func186.trans (congrArg some (by kernel_rfl))⟩, f21 := ⟨Tryz.f187.name, by kernel_rfl, Tryz.func187.trans (congrArg some (by kernel_rfl))⟩, f22 := ⟨Tryz.f188.name, by kernel_rfl, Tryz.func188.trans (congrArg some (by kernel_rfl))⟩, f23 := ⟨Tryz.f189.name, by kernel_rfl, Tryz.func189.trans (congrArg some (by kernel_rfl))⟩, f24 := ⟨Tryz.f190.name, by kernel_rfl, Tryz.func190.trans (congrArg some (by kernel_rfl))⟩, f25 := ⟨Tryz.f191.name, by kernel_rfl, Tryz.func191.trans (congrArg some (by kernel_rfl))⟩, f26 := ⟨Tryz.f192.name, by kernel_rfl, Tryz.func192.trans (congrArg some (by kernel_rfl))⟩, f27 := ⟨Tryz.f193.name, by kernel_rfl, Tryz.func193.trans (congrArg some (by kernel_rfl))⟩, f28 := Tryz.func173.trans (congrArg some (by kernel_rfl)), f29 := Tryz.func174.trans (congrArg some (by kernel_rfl)), f46 := ⟨Tryz.f219.name, by kernel_rfl, Tryz.func219.trans (congrArg some (by kernel_rfl))⟩, f47 := Tryz.func211.trans (congrArg some (by kernel_rfl)), f48 := Tryz.func212.trans (congrArg some (by kernel_rfl)), f49 := ⟨Tryz.f220.name, by kernel_rfl, Tryz.func220.trans (congrArg some (by kernel_rfl))⟩, f50 := ⟨Tryz.f221.name, by kernel_rfl, Tryz.func221.trans (congrArg some (by kernel_rfl))⟩, f57 := ⟨Tryz.f241.name, by kernel_rfl, Tryz.func241.trans (congrArg some (by kernel_rfl))⟩, t0 := Tryz.underlying0, a0 := Tryz.isAgg0, z0 := Tryz.sizeOf0, v0 := Tryz.zeroValue0, t3 := Tryz.underlying3, a3 := Tryz.isAgg3, z3 := Tryz.sizeOf3, v3 := Tryz.zeroValue3, t4 := Tryz.underlying4, a4 := Tryz.isAgg4, z4 := Tryz.sizeOf4, v4 := Tryz.zeroValue4, t5 := Tryz.underlying5, a5 := Tryz.isAgg5, z5 := Tryz.sizeOf5, v5 := Tryz.zeroValue5, t9 := Tryz.underlying9, a9 := Tryz.isAgg9, z9 := Tryz.sizeOf9, v9 := Tryz.zeroValue9, t22 := Tryz.underlying31, a22 := Tryz.isAgg31, z22 := Tryz.sizeOf31, v22 := Tryz.zeroValue31, t25 := Tryz.underlying144, a25 := Tryz.isAgg144, z25 := Tryz.sizeOf144, v25 := Tryz.zeroValue144, t39 := Tryz.underlying168, a39 := Tryz.isAgg168, z39 := Tryz.sizeOf168, v39 := Tryz.zeroValue168, t45 := Tryz.underlying193, a45 := Tryz.isAgg193, z45 := Tryz.sizeOf193, v45 := Tryz.zeroValue193, t46 := Tryz.underlying194, a46 := Tryz.isAgg194, z46 := Tryz.sizeOf194, v46 := Tryz.zeroValue194, t50 := Tryz.underlying69, a50 := Tryz.isAgg69, z50 := Tryz.sizeOf69, v50 := Tryz.zeroValue69, t53 := Tryz.underlying201, a53 := Tryz.isAgg201, z53 := Tryz.sizeOf201, v53 := Tryz.zeroValue201, t55 := Tryz.underlying203, a55 := Tryz.isAgg203, z55 := Tryz.sizeOf203, v55 := Tryz.zeroValue203, t66 := Tryz.underlying223, a66 := Tryz.isAgg223, z66 := Tryz.sizeOf223, v66 := Tryz.zeroValue223, t70 := Tryz.underlying227, a70 := Tryz.isAgg227, z70 := Tryz.sizeOf227, v70 := Tryz.zeroValue227, t76 := Tryz.underlying245, a76 := Tryz.isAgg245, z76 := Tryz.sizeOf245, v76 := Tryz.zeroValue245, t77 := Tryz.underlying246, a77 := Tryz.isAgg246, z77 := Tryz.sizeOf246, v77 := Tryz.zeroValue246 }
def Tryz.laysSortI104_ren : Go.Shelf.Ren := ⟨fun | 5 => 104 | 8 => 140 | 7 => 139 | 19 => 173 | 20 => 174 | 10 => 164 | 11 => 165 | 12 => 166 | 13 => 167 | 14 => 168 | 15 => 169 | 16 => 170 | 17 => 171 | 18 => 172 | 30 => 210 | 31 => 211 | 32 => 212 | 33 => 213 | 34 => 214 | 35 => 113 | 40 => 239 | n => n, fun | 23 => 22 | 25 => 3 | 3 => 3 | 32 => 168 | 22 => 22 | 0 => 0 | 44 => 201 | 46 => 203 | 4 => 4 | 36 => 194 | 35 => 193 | 41 => 69 | 5 => 5 | 9 => 9 | 53 => 223 | 57 => 227 | 63 => 245 | 64 => 246 | n => n, fun | n => n⟩
theorem Tryz.laysSortI104 : Go.Proofs.SlLaysM.n5 Tryz.prog Tryz.laysSortI104_ren := { mixed := by kernel_rfl, f5 := ⟨Tryz.f104.name, by kernel_rfl, Tryz.func104.trans (congrArg some (by kernel_rfl))⟩, f7 := ⟨Tryz.f139.name, by kernel_rfl, Tryz.func139.trans (congrArg some (by kernel_rfl))⟩, f8 := Tryz.func140.trans (congrArg some (by kernel_rfl)), f10 := ⟨Tryz.f164.name, by kernel_rfl, Tryz.func164.trans (congrArg some (by kernel_rfl))⟩, f11 := ⟨Tryz.f165.name, by kernel_rfl, Tryz.func165.trans (congrArg some (by kernel_rfl))⟩, f12 := ⟨Tryz.f166.name, by kernel_rfl, Tryz.func166.trans (congrArg some (by kernel_rfl))⟩, f13 := ⟨Tryz.f167.name, by kernel_rfl, Tryz.func167.trans (congrArg some (by kernel_rfl))⟩, f14 := ⟨Tryz.f168.name, by kernel_rfl, Tryz.func168.trans (congrArg some (by kernel_rfl))⟩, f15 := ⟨Tryz.f169.name, by kernel_rfl, Tryz.func169.trans (congrArg some (by kernel_rfl))⟩, f16 := ⟨Tryz.f170.name, by kernel_rfl, Tryz.func170.trans (congrArg some (by kernel_rfl))⟩, f17 := ⟨Tryz.f171.name, by kernel_rfl, Tryz.func171.trans (congrArg some (by kernel_rfl))⟩, f18 := ⟨Tryz.f172.name, by kernel_rfl, Tryz.func172.trans (congrArg some (by kernel_rfl))⟩, f19 := Tryz.func173.trans (congrArg some (by kernel_rfl)), f20 := Tryz.func174.trans (congrArg some (by kernel_rfl)), f30 := ⟨Tryz.f210.name, by kernel_rfl, Tryz.func210.trans (congrArg some (by kernel_rfl))⟩, f31 := Tryz.func211.trans (congrArg some (by kernel_rfl)), f32 := Tryz.func212.trans (congrArg some (by kernel_rfl)), f33 := ⟨Tryz.f213.name, by kernel_rfl, Tryz.func213.trans (congrArg some (by kernel_rfl))⟩, f34 := ⟨Tryz.f214.name, by kernel_rfl, Tryz.func214.trans (congrArg some (by kernel_rfl))⟩, f35 := ⟨Tryz.f113.name, by kernel_rfl, Tryz.func113.trans (congrArg some (by kernel_rfl))⟩, f40 := ⟨Tryz.f239.name, by kernel_rfl, Tryz.func239.trans (congrArg some (by kernel_rfl))⟩, t0 := Tryz.underlying0, a0 := Tryz.isAgg0, z0 := Tryz.sizeOf0, v0 := Tryz.zeroValue0, t3 := Tryz.underlying3, a3 := Tryz.isAgg3, z3 := Tryz.sizeOf3, v3 := Tryz.zeroValue3, t4 := Tryz.underlying4, a4 := Tryz.isAgg4, z4 := Tryz.sizeOf4, v4 := Tryz.zeroValue4, t5 := Tryz.underlying5, a5 := Tryz.isAgg5, z5 := Tryz.sizeOf5, v5 := Tryz.zeroValue5, t9 := Tryz.underlying9, a9 := Tryz.isAgg9, z9 := Tryz.sizeOf9, v9 := Tryz.zeroValue9, t22 := Tryz.underlying22, a22 := Tryz.isAgg22, z22 := Tryz.sizeOf22, v22 := Tryz.zeroValue22, t23 := Tryz.underlying22, a23 := Tryz.isAgg22, z23 := Tryz.sizeOf22, v23 := Tryz.zeroValue22, t25 := Tryz.underlying3, a25 := Tryz.isAgg3, z25 := Tryz.sizeOf3, v25 := Tryz.zeroValue3, t32 := Tryz.underlying168, a32 := Tryz.isAgg168, z32 := Tryz.sizeOf168, v32 := Tryz.zeroValue168, t35 := Tryz.underlying193, a35 := Tryz.isAgg193, z35 := Tryz.sizeOf193, v35 := Tryz.zeroValue193, t36 := Tryz.underlying194, a36 := Tryz.isAgg194, z36 := Tryz.sizeOf194, v36 := Tryz.zeroValue194, t41 := Tryz.underlying69, a41 := Tryz.isAgg69, z41 := Tryz.sizeOf69, v41 := Tryz.zeroValue69, t44 := Tryz.underlying201, a44 := Tryz.isAgg201, z44 := Tryz.sizeOf201, v44 := Tryz.zeroValue201, t46 := Tryz.underlying203, a46 := Tryz.isAgg203, z46 := Tryz.sizeOf203, v46 := Tryz.zeroValue203, t53 := Tryz.underlying223, a53 := Tryz.isAgg223, z53 := Tryz.sizeOf223, v53 := Tryz.zeroValue223, t57 := Tryz.underlying227, a57 := Tryz.isAgg227, z57 := Tryz.sizeOf227, v57 := Tryz.zeroValue227, t63 := Tryz.underlying245, a63 := Tryz.isAgg245, z63 := Tryz.sizeOf245, v63 := Tryz.zeroValue245, t64 := Tryz.underlying246, a64 := Tryz.isAgg246, z64 := Tryz.sizeOf246, v64 := Tryz.zeroValue246 }
end Go.Proofs
namespace Go.Proofs.SYtpbepppkchjccaaGreatDoor
open Go Go.AL Go.Proofs
noncomputable section
abbrev P : Program := Tryz.prog
theorem hm : P.follows .mixedOrders = true := Tryz.checked.mixed
def cmpS (a b : ByteArray) : Int := Lib.compareBytes a.data.toList b.data.toList
def idxB (s : ByteArray) (c : Int) : Int := Lib.indexByte s.data.toList c.toNat.toUInt8
def trimB (s cut : ByteArray) : ByteArray := ⟨(Lib.trimS s.data.toList cut.data.toList).toArray⟩
def ascii (cut : ByteArray) : Bool := cut.data.toList.all fun b => Nat.blt b.toNat 128
def eqS (a b : ByteArray) : Bool := a.data.toList == b.data.toList
theorem eqS_eq {a b : ByteArray} (h : eqS a b = true) : a = b := by
  unfold eqS at h
  rw [beq_iff_eq] at h
  cases a with
  | mk a =>
    cases b with
    | mk b =>
      congr 1
      exact Array.ext' h
def lookS {α : Type} : List (ByteArray × α) → ByteArray → Option α
  | [], _ => none
  | (k, v) :: l, s => bif eqS k s then some v else lookS l s
theorem lookS_mem {α : Type} {s : ByteArray} {v : α} : ∀ {l : List (ByteArray × α)}, lookS l s = some v → (s, v) ∈ l
  | [], h => by cases h
  | (k, u) :: l, h => by
    simp only [lookS] at h
    cases hk : eqS k s with
    | true =>
      rw [hk] at h
      cases h
      rw [eqS_eq hk]
      exact List.mem_cons_self
    | false =>
      rw [hk] at h
      exact List.mem_cons_of_mem _ (lookS_mem h)
abbrev KBusy : List Kd := [.str, .int .i64, .int .i64, .int .i64, .int .i64]
abbrev KSegment : List Kd := [.str, .int .i64, .int .i64, .list [.int .i64], .int .i64, .int .i64]
abbrev KContact : List Kd := [.int .i64, .int .i64, .str, .str, .int .i64, .int .i64, .str, .str]
abbrev KEntrant : List Kd := [.str, .str, .int .i64, .str]
abbrev KDeed : List Kd := [.str, .int .i64, .int .i64, .int .i64, .int .i64, .int .i64, .str, .str, .int .i64, .int .i64, .str, .str, .str, .str, .int .i64]
abbrev KPlace : List Kd := [.int .i64, .int .i64, .str]
abbrev KParts : List Kd := [.str, .str, .str, .int .i64, .str]
def t0 : Tab := tabM []
theorem t0_ok : TabOK P t0 := tabM_ok P _
def F_strings_Compare (d : List G) : Option (List G) := some [.i (cmpS (gi d 0).str (gi d 1).str)]
def s_strings_Compare : FSpec := ⟨71, [.s (.str), .s (.str)], [], [], [.s (.int .i64)], [], [], [], F_strings_Compare⟩
theorem c_strings_Compare : ∀ d r, F_strings_Compare d = some r → ACallX P 71 (s_strings_Compare.args0 d) (denH (s_strings_Compare.H0 d)) (s_strings_Compare.out r) (denH (s_strings_Compare.H1 r)) := fun d r h => by
  cases h
  exact (pcall_lits (vs := [.string (gi d 0).str, .string (gi d 1).str]) fun w => (Proofs.Any.strings_Compare Tryz.laysCompare (gi d 0).str (gi d 1).str w).mono fun e w' h => ⟨h.1, h.2 ▸ Ext.refl w⟩) []
def t1 : Tab := t0.addP s_strings_Compare
theorem t1_ok : TabOK P t1 := t0_ok.addP (by kernel_rfl) (by kernel_rfl) c_strings_Compare
def F_strings_IndexByte (d : List G) : Option (List G) := some [.i (idxB (gi d 0).str (gi d 1).int)]
def s_strings_IndexByte : FSpec := ⟨98, [.s (.str), .s (.int .u8)], [], [], [.s (.int .i64)], [], [], [], F_strings_IndexByte⟩
theorem c_strings_IndexByte : ∀ d r, F_strings_IndexByte d = some r → ACallX P 98 (s_strings_IndexByte.args0 d) (denH (s_strings_IndexByte.H0 d)) (s_strings_IndexByte.out r) (denH (s_strings_IndexByte.H1 r)) := fun d r h => by
  cases h
  exact (pcall_lits (vs := [.string (gi d 0).str, .int .u8 (gi d 1).int]) fun w => (Proofs.Any.strings_IndexByte Tryz.laysIndexByte (gi d 0).str (gi d 1).int w).mono fun e w' h => ⟨h.1, h.2 ▸ Ext.refl w⟩) []
def t2 : Tab := t1.addP s_strings_IndexByte
theorem t2_ok : TabOK P t2 := t1_ok.addP (by kernel_rfl) (by kernel_rfl) c_strings_IndexByte
def F_strings_Trim (d : List G) : Option (List G) := bif (ascii (gi d 1).str && (Nat.ble 2 (gi d 1).str.size && (Nat.blt (gi d 1).str.size 4294967281 && (Nat.ble 1 (gi d 0).str.size && Nat.ble (gi d 0).str.size 9223372036854775807)))) then some [.s (trimB (gi d 0).str (gi d 1).str)] else none
def s_strings_Trim : FSpec := ⟨99, [.s (.str), .s (.str)], [], [], [.s (.str)], [], [], [], F_strings_Trim⟩
theorem c_strings_Trim : ∀ d r, F_strings_Trim d = some r → ACallX P 99 (s_strings_Trim.args0 d) (denH (s_strings_Trim.H0 d)) (s_strings_Trim.out r) (denH (s_strings_Trim.H1 r)) := fun d r h => by
  unfold F_strings_Trim at h
  cases hb : (ascii (gi d 1).str && (Nat.ble 2 (gi d 1).str.size && (Nat.blt (gi d 1).str.size 4294967281 && (Nat.ble 1 (gi d 0).str.size && Nat.ble (gi d 0).str.size 9223372036854775807)))) with
  | false => rw [hb] at h; cases h
  | true =>
    rw [hb] at h
    cases h
    simp only [Bool.and_eq_true, Nat.blt_eq, Nat.ble_eq] at hb
    have hz : (Tryz.prog.info? (Tryz.laysTrim_ren.t 116)).map (fun i => (i.zero, i.size)) = some (some (.agg (Array.replicate 256 (.bool false))), 256) := by kernel_rfl
    exact (pcall_lits (vs := [.string (gi d 0).str, .string (gi d 1).str]) fun w => (Proofs.Any.strings_Trim_set Tryz.laysTrim (zero_of_info hz).1 (zero_of_info hz).2 (gi d 0).str (gi d 1).str w hb.2.1 hb.2.2.2.1 hb.2.2.2.2 hb.2.2.1 fun j b hj => by
      have := List.all_eq_true.1 hb.1 b (List.mem_of_getElem? hj)
      simpa [Nat.blt_eq] using this).mono fun _ _ h => ⟨h.1, by
        obtain ⟨_, q, rfl⟩ := h
        exact ((Ext.push w _).trans (Ext.push _ _)).trans (Ext.drawn _ _ (Nat.le_add_right _ _))⟩) []
def t3 : Tab := t2.addP s_strings_Trim
theorem t3_ok : TabOK P t3 := t2_ok.addP (by kernel_rfl) (by kernel_rfl) c_strings_Trim
def F_stringslite_IndexByte (d : List G) : Option (List G) := some [.i (idxB (gi d 0).str (gi d 1).int)]
def s_stringslite_IndexByte : FSpec := ⟨128, [.s (.str), .s (.int .u8)], [], [], [.s (.int .i64)], [], [], [], F_stringslite_IndexByte⟩
theorem c_stringslite_IndexByte : ∀ d r, F_stringslite_IndexByte d = some r → ACallX P 128 (s_stringslite_IndexByte.args0 d) (denH (s_stringslite_IndexByte.H0 d)) (s_stringslite_IndexByte.out r) (denH (s_stringslite_IndexByte.H1 r)) := fun d r h => by
  cases h
  exact (pcall_lits (vs := [.string (gi d 0).str, .int .u8 (gi d 1).int]) fun w => (Proofs.Any.stringslite_IndexByte Tryz.laysSlIndexByte (gi d 0).str (gi d 1).int w).mono fun e w' h => ⟨h.1, h.2 ▸ Ext.refl w⟩) []
def t4 : Tab := t3.addP s_stringslite_IndexByte
theorem t4_ok : TabOK P t4 := t3_ok.addP (by kernel_rfl) (by kernel_rfl) c_stringslite_IndexByte
end
end Go.Proofs.SYtpbepppkchjccaaGreatDoor
