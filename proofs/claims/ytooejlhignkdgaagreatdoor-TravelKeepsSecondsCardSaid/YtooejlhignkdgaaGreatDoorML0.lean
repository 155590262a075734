/-
 What is proved here: functions of the program as functions on data. No condition.
-/
import Derived.Test.YtooejlhignkdgaaGreatDoorMU
import Derived.Shelf.Strings.BuilderX
import Derived.Test.YtooejlhignkdgaaGreatDoorMG
import Derived.Test.YtooejlhignkdgaaGreatDoorChecked
import Derived.Shelf.Small.Strs
import Derived.Shelf.Strconv.Itoa3
import Derived.Shelf.Strings.Search1
import Derived.Shelf.Strings.SlTrimAscii
namespace Go.AL
section
variable [Dr]
theorem TabOK.aP {P : Program} {τ : Tab} (h : TabOK P τ) {sp : FSpec} (hc : COK P sp) (hb : hasBody P sp.f = true := by kernel_rfl) (hp : PureSp sp = true := by kernel_rfl) : TabOK P (τ.addP sp) := h.addP hb hp hc
theorem TabOK.aW {P : Program} {τ : Tab} (h : TabOK P τ) {sp : FSpec} (hc : COK P sp) (hb : hasBody P sp.f = true := by kernel_rfl) (hp : EffSp sp = true := by kernel_rfl) : TabOK P (τ.addW sp) := h.addW hb hp hc
theorem LpK.a {P : Program} {τ : Tab} {m : Nat} {L : LT} (hm : P.follows .mixedOrders = true) (ht : TabOK P τ) {fn : Func} {sp : LSpec} (hL : LpK P m L (bodyOf fn)) (hr : RoundOK P τ L m (loopAt fn sp.key) sp) (hn : nodupB ((loopsIn (bodyOf fn)).map (·.1)) = true := by kernel_rfl) : LpK P m (L.add m sp) (bodyOf fn) := LpK.add hm ht hn hL hr
theorem LpK.aC {P : Program} {τ : Tab} {m : Nat} {L : LT} (hm : P.follows .mixedOrders = true) (ht : TabOK P τ) {fn : Func} {sp : LSpec} (hL : LpK P m L (bodyOf fn)) (hr : CutOK P τ L m (cutAt fn sp.key) sp) (hn : oneKey sp.key (cutsIn (bodyOf fn)) = true := by kernel_rfl) : LpK P m (L.addCut m sp) (bodyOf fn) := LpK.addCut hm ht hn hL hr
theorem bdC {P : Program} {τ : Tab} {L : LT} (hm : P.follows .mixedOrders = true) (ht : TabOK P τ) {sp : FSpec} {fn : Func} (hf : P.funcs[sp.f]? = some fn) (hL : LpK P sp.objs.length L (bodyOf fn)) (hB : BodyOK P τ L fn sp) (hb : fn.body.isSome = true := by kernel_rfl) (hfr : fresh0 sp.objs = true := by kernel_rfl) : COK P sp := bodyC hm ht hf hb hL hB hfr
end
end Go.AL
set_option linter.all false
namespace Go.Proofs
open Go.Shelf Go.RowKit
set_option maxHeartbeats 4000000
def Tryz.laysCompare_ren : Go.Shelf.Ren := ⟨fun | 106 => 48 | 213 => 85 | 265 => 128 | n => n, fun | 9 => 9 | 3 => 3 | n => n, fun | n => n⟩
theorem Tryz.laysCompare : Go.Proofs.Lays.n106 Tryz.prog Tryz.laysCompare_ren := { mixed := by kernel_rfl, f106 := Tryz.func48.trans (congrArg some (by kernel_rfl)), f213 := Tryz.func85.trans (congrArg some (by kernel_rfl)), f265 := Tryz.func128.trans (congrArg some (by kernel_rfl)), t3 := Tryz.underlying3, a3 := Tryz.isAgg3, z3 := Tryz.sizeOf3, v3 := Tryz.zeroValue3, t9 := Tryz.underlying9, a9 := Tryz.isAgg9, z9 := Tryz.sizeOf9, v9 := Tryz.zeroValue9 }
def Tryz.laysIndexByte_ren : Go.Shelf.Ren := ⟨fun | 137 => 90 | 217 => 129 | 266 => 172 | n => n, fun | 9 => 9 | 5 => 5 | 3 => 3 | n => n, fun | n => n⟩
theorem Tryz.laysIndexByte : Go.Proofs.Lays.n137 Tryz.prog Tryz.laysIndexByte_ren := { mixed := by kernel_rfl, f137 := Tryz.func90.trans (congrArg some (by kernel_rfl)), f217 := Tryz.func129.trans (congrArg some (by kernel_rfl)), f266 := Tryz.func172.trans (congrArg some (by kernel_rfl)), t3 := Tryz.underlying3, a3 := Tryz.isAgg3, z3 := Tryz.sizeOf3, v3 := Tryz.zeroValue3, t5 := Tryz.underlying5, a5 := Tryz.isAgg5, z5 := Tryz.sizeOf5, v5 := Tryz.zeroValue5, t9 := Tryz.underlying9, a9 := Tryz.isAgg9, z9 := Tryz.sizeOf9, v9 := Tryz.zeroValue9 }
def Tryz.laysTrim_ren : Go.Shelf.Ren := ⟨fun | 160 => 91 | 232 => 131 | 231 => 130 | 227 => 132 | 234 => 134 | 233 => 133 | 236 => 136 | 235 => 135 | 228 => 173 | 271 => 176 | 151 => 175 | 197 => 174 | 120 => 213 | 152 => 209 | 260 => 212 | 137 => 90 | 119 => 247 | 224 => 238 | 225 => 237 | 217 => 129 | 266 => 172 | n => n, fun | 9 => 9 | 4 => 4 | 3 => 3 | 5 => 5 | 117 => 175 | 116 => 174 | 0 => 0 | 124 => 178 | 21 => 21 | 105 => 208 | 46 => 184 | 119 => 261 | 139 => 264 | 138 => 263 | n => n, fun | 3 => 2 | 4 => 3 | n => n⟩
theorem Tryz.laysTrim : Go.Proofs.Lays.n160 Tryz.prog Tryz.laysTrim_ren := { mixed := by kernel_rfl, f119 := Tryz.func247.trans (congrArg some (by kernel_rfl)), f120 := Tryz.func213.trans (congrArg some (by kernel_rfl)), f137 := Tryz.func90.trans (congrArg some (by kernel_rfl)), f151 := Tryz.func175.trans (congrArg some (by kernel_rfl)), f152 := Tryz.func209.trans (congrArg some (by kernel_rfl)), f160 := Tryz.func91.trans (congrArg some (by kernel_rfl)), f197 := Tryz.func174.trans (congrArg some (by kernel_rfl)), f217 := Tryz.func129.trans (congrArg some (by kernel_rfl)), f224 := Tryz.func238.trans (congrArg some (by kernel_rfl)), f225 := Tryz.func237.trans (congrArg some (by kernel_rfl)), f227 := Tryz.func132.trans (congrArg some (by kernel_rfl)), f228 := Tryz.func173.trans (congrArg some (by kernel_rfl)), f231 := Tryz.func130.trans (congrArg some (by kernel_rfl)), f232 := Tryz.func131.trans (congrArg some (by kernel_rfl)), f233 := Tryz.func133.trans (congrArg some (by kernel_rfl)), f234 := Tryz.func134.trans (congrArg some (by kernel_rfl)), f235 := Tryz.func135.trans (congrArg some (by kernel_rfl)), f236 := Tryz.func136.trans (congrArg some (by kernel_rfl)), f260 := Tryz.func212.trans (congrArg some (by kernel_rfl)), f266 := Tryz.func172.trans (congrArg some (by kernel_rfl)), f271 := Tryz.func176.trans (congrArg some (by kernel_rfl)), t0 := Tryz.underlying0, a0 := Tryz.isAgg0, z0 := Tryz.sizeOf0, v0 := Tryz.zeroValue0, t3 := Tryz.underlying3, a3 := Tryz.isAgg3, z3 := Tryz.sizeOf3, v3 := Tryz.zeroValue3, t4 := Tryz.underlying4, a4 := Tryz.isAgg4, z4 := Tryz.sizeOf4, v4 := Tryz.zeroValue4, t5 := Tryz.underlying5, a5 := Tryz.isAgg5, z5 := Tryz.sizeOf5, v5 := Tryz.zeroValue5, t9 := Tryz.underlying9, a9 := Tryz.isAgg9, z9 := Tryz.sizeOf9, v9 := Tryz.zeroValue9, t21 := Tryz.underlying21, a21 := Tryz.isAgg21, z21 := Tryz.sizeOf21, v21 := Tryz.zeroValue21, t46 := Tryz.underlying184, a46 := Tryz.isAgg184, z46 := Tryz.sizeOf184, v46 := Tryz.zeroValue184, t105 := Tryz.underlying208, a105 := Tryz.isAgg208, z105 := Tryz.sizeOf208, v105 := Tryz.zeroValue208, t116 := Tryz.underlying174, a116 := Tryz.isAgg174, z116 := Tryz.sizeOf174, t117 := Tryz.underlying175, a117 := Tryz.isAgg175, z117 := Tryz.sizeOf175, v117 := Tryz.zeroValue175, t119 := Tryz.underlying261, a119 := Tryz.isAgg261, z119 := Tryz.sizeOf261, t124 := Tryz.underlying178, a124 := Tryz.isAgg178, z124 := Tryz.sizeOf178, v124 := Tryz.zeroValue178, t138 := Tryz.underlying263, a138 := Tryz.isAgg263, z138 := Tryz.sizeOf263, v138 := Tryz.zeroValue263, t139 := Tryz.underlying264, a139 := Tryz.isAgg264, z139 := Tryz.sizeOf264, v139 := Tryz.zeroValue264, g3 := by kernel_rfl, g4 := by kernel_rfl }
def Tryz.laysSlIndexByte_ren : Go.Shelf.Ren := ⟨fun | 217 => 129 | 266 => 172 | n => n, fun | 9 => 9 | 5 => 5 | 3 => 3 | n => n, fun | n => n⟩
theorem Tryz.laysSlIndexByte : Go.Proofs.Lays.n217 Tryz.prog Tryz.laysSlIndexByte_ren := { mixed := by kernel_rfl, f217 := Tryz.func129.trans (congrArg some (by kernel_rfl)), f266 := Tryz.func172.trans (congrArg some (by kernel_rfl)), t3 := Tryz.underlying3, a3 := Tryz.isAgg3, z3 := Tryz.sizeOf3, v3 := Tryz.zeroValue3, t5 := Tryz.underlying5, a5 := Tryz.isAgg5, z5 := Tryz.sizeOf5, v5 := Tryz.zeroValue5, t9 := Tryz.underlying9, a9 := Tryz.isAgg9, z9 := Tryz.sizeOf9, v9 := Tryz.zeroValue9 }
def Tryz.laysSplit_ren : Go.Shelf.Ren := ⟨fun | 221 => 114 | 268 => 159 | 138 => 160 | 143 => 161 | 195 => 203 | 197 => 174 | 218 => 204 | 219 => 193 | 260 => 212 | 217 => 129 | 225 => 237 | 224 => 238 | 267 => 239 | 266 => 172 | 314 => 256 | n => n, fun | 9 => 9 | 3 => 3 | 31 => 83 | 4 => 4 | 0 => 0 | 105 => 208 | 21 => 21 | 5 => 5 | 46 => 184 | 119 => 261 | 139 => 264 | 138 => 263 | 146 => 228 | 51 => 220 | n => n, fun | 1 => 0 | 3 => 2 | 4 => 3 | n => n⟩
theorem Tryz.laysSplit : Go.Proofs.Lays.n221 Tryz.prog Tryz.laysSplit_ren := { mixed := by kernel_rfl, f138 := Tryz.func160.trans (congrArg some (by kernel_rfl)), f143 := Tryz.func161.trans (congrArg some (by kernel_rfl)), f195 := Tryz.func203.trans (congrArg some (by kernel_rfl)), f197 := Tryz.func174.trans (congrArg some (by kernel_rfl)), f217 := Tryz.func129.trans (congrArg some (by kernel_rfl)), f218 := Tryz.func204.trans (congrArg some (by kernel_rfl)), f219 := Tryz.func193.trans (congrArg some (by kernel_rfl)), f221 := Tryz.func114.trans (congrArg some (by kernel_rfl)), f224 := Tryz.func238.trans (congrArg some (by kernel_rfl)), f225 := Tryz.func237.trans (congrArg some (by kernel_rfl)), f260 := Tryz.func212.trans (congrArg some (by kernel_rfl)), f266 := Tryz.func172.trans (congrArg some (by kernel_rfl)), f267 := Tryz.func239.trans (congrArg some (by kernel_rfl)), f268 := Tryz.func159.trans (congrArg some (by kernel_rfl)), f314 := Tryz.func256.trans (congrArg some (by kernel_rfl)), t0 := Tryz.underlying0, a0 := Tryz.isAgg0, z0 := Tryz.sizeOf0, v0 := Tryz.zeroValue0, t3 := Tryz.underlying3, a3 := Tryz.isAgg3, z3 := Tryz.sizeOf3, v3 := Tryz.zeroValue3, t4 := Tryz.underlying4, a4 := Tryz.isAgg4, z4 := Tryz.sizeOf4, v4 := Tryz.zeroValue4, t5 := Tryz.underlying5, a5 := Tryz.isAgg5, z5 := Tryz.sizeOf5, v5 := Tryz.zeroValue5, t9 := Tryz.underlying9, a9 := Tryz.isAgg9, z9 := Tryz.sizeOf9, v9 := Tryz.zeroValue9, t21 := Tryz.underlying21, a21 := Tryz.isAgg21, z21 := Tryz.sizeOf21, v21 := Tryz.zeroValue21, t31 := Tryz.underlying83, a31 := Tryz.isAgg83, z31 := Tryz.sizeOf83, v31 := Tryz.zeroValue83, t46 := Tryz.underlying184, a46 := Tryz.isAgg184, z46 := Tryz.sizeOf184, v46 := Tryz.zeroValue184, t51 := Tryz.underlying220, a51 := Tryz.isAgg220, z51 := Tryz.sizeOf220, v51 := Tryz.zeroValue220, t105 := Tryz.underlying208, a105 := Tryz.isAgg208, z105 := Tryz.sizeOf208, v105 := Tryz.zeroValue208, t119 := Tryz.underlying261, a119 := Tryz.isAgg261, z119 := Tryz.sizeOf261, t138 := Tryz.underlying263, a138 := Tryz.isAgg263, z138 := Tryz.sizeOf263, v138 := Tryz.zeroValue263, t139 := Tryz.underlying264, a139 := Tryz.isAgg264, z139 := Tryz.sizeOf264, v139 := Tryz.zeroValue264, t146 := Tryz.underlying228, a146 := Tryz.isAgg228, z146 := Tryz.sizeOf228, v146 := Tryz.zeroValue228, g1 := by kernel_rfl, g3 := by kernel_rfl, g4 := by kernel_rfl }
def Tryz.laysAtoi_ren : Go.Shelf.Ren := ⟨fun | 172 => 163 | 244 => 206 | 245 => 207 | 247 => 242 | 279 => 243 | 280 => 244 | 281 => 245 | 282 => 246 | 287 => 257 | 316 => 258 | 171 => 28 | 205 => 259 | 321 => 262 | 322 => 263 | 243 => 71 | 246 => 112 | 283 => 154 | 284 => 155 | 285 => 156 | 286 => 157 | 129 => 187 | 317 => 199 | 318 => 200 | 319 => 201 | 320 => 202 | 337 => 240 | 338 => 241 | n => n, fun | 9 => 9 | 3 => 3 | 75 => 74 | 76 => 75 | 4 => 4 | 5 => 5 | 167 => 254 | 37 => 70 | 0 => 0 | 85 => 255 | 2 => 2 | 168 => 257 | 53 => 200 | 175 => 275 | 46 => 184 | 210 => 278 | 127 => 128 | 145 => 285 | 143 => 283 | 21 => 21 | 171 => 199 | 173 => 203 | 212 => 233 | 51 => 220 | 20 => 20 | 213 => 234 | 232 => 273 | 233 => 274 | 80 => 87 | n => n, fun | 15 => 6 | 16 => 7 | 17 => 1 | 18 => 4 | 19 => 5 | n => n⟩
theorem Tryz.laysAtoi : Go.Proofs.Lays.n172 Tryz.prog Tryz.laysAtoi_ren := { mixed := by kernel_rfl, f129 := Tryz.func187.trans (congrArg some (by kernel_rfl)), f171 := Tryz.func28.trans (congrArg some (by kernel_rfl)), f172 := Tryz.func163.trans (congrArg some (by kernel_rfl)), f205 := Tryz.func259.trans (congrArg some (by kernel_rfl)), f243 := Tryz.func71.trans (congrArg some (by kernel_rfl)), f244 := Tryz.func206.trans (congrArg some (by kernel_rfl)), f245 := Tryz.func207.trans (congrArg some (by kernel_rfl)), f246 := Tryz.func112.trans (congrArg some (by kernel_rfl)), f247 := Tryz.func242.trans (congrArg some (by kernel_rfl)), f279 := Tryz.func243.trans (congrArg some (by kernel_rfl)), f280 := Tryz.func244.trans (congrArg some (by kernel_rfl)), f281 := Tryz.func245.trans (congrArg some (by kernel_rfl)), f282 := Tryz.func246.trans (congrArg some (by kernel_rfl)), f283 := Tryz.func154.trans (congrArg some (by kernel_rfl)), f284 := Tryz.func155.trans (congrArg some (by kernel_rfl)), f285 := Tryz.func156.trans (congrArg some (by kernel_rfl)), f286 := Tryz.func157.trans (congrArg some (by kernel_rfl)), f287 := Tryz.func257.trans (congrArg some (by kernel_rfl)), f316 := Tryz.func258.trans (congrArg some (by kernel_rfl)), f317 := Tryz.func199.trans (congrArg some (by kernel_rfl)), f318 := Tryz.func200.trans (congrArg some (by kernel_rfl)), f319 := Tryz.func201.trans (congrArg some (by kernel_rfl)), f320 := Tryz.func202.trans (congrArg some (by kernel_rfl)), f321 := Tryz.func262.trans (congrArg some (by kernel_rfl)), f322 := Tryz.func263.trans (congrArg some (by kernel_rfl)), f337 := Tryz.func240.trans (congrArg some (by kernel_rfl)), f338 := Tryz.func241.trans (congrArg some (by kernel_rfl)), t0 := Tryz.underlying0, a0 := Tryz.isAgg0, z0 := Tryz.sizeOf0, v0 := Tryz.zeroValue0, t2 := Tryz.underlying2, a2 := Tryz.isAgg2, z2 := Tryz.sizeOf2, v2 := Tryz.zeroValue2, t3 := Tryz.underlying3, a3 := Tryz.isAgg3, z3 := Tryz.sizeOf3, v3 := Tryz.zeroValue3, t4 := Tryz.underlying4, a4 := Tryz.isAgg4, z4 := Tryz.sizeOf4, v4 := Tryz.zeroValue4, t5 := Tryz.underlying5, a5 := Tryz.isAgg5, z5 := Tryz.sizeOf5, v5 := Tryz.zeroValue5, t9 := Tryz.underlying9, a9 := Tryz.isAgg9, z9 := Tryz.sizeOf9, v9 := Tryz.zeroValue9, t20 := Tryz.underlying20, a20 := Tryz.isAgg20, z20 := Tryz.sizeOf20, v20 := Tryz.zeroValue20, t21 := Tryz.underlying21, a21 := Tryz.isAgg21, z21 := Tryz.sizeOf21, v21 := Tryz.zeroValue21, t37 := Tryz.underlying70, a37 := Tryz.isAgg70, z37 := Tryz.sizeOf70, v37 := Tryz.zeroValue70, t46 := Tryz.underlying184, a46 := Tryz.isAgg184, z46 := Tryz.sizeOf184, v46 := Tryz.zeroValue184, t51 := Tryz.underlying220, a51 := Tryz.isAgg220, z51 := Tryz.sizeOf220, v51 := Tryz.zeroValue220, t53 := Tryz.underlying200, a53 := Tryz.isAgg200, z53 := Tryz.sizeOf200, v53 := Tryz.zeroValue200, t75 := Tryz.underlying74, a75 := Tryz.isAgg74, z75 := Tryz.sizeOf74, v75 := Tryz.zeroValue74, t76 := Tryz.underlying75, a76 := Tryz.isAgg75, z76 := Tryz.sizeOf75, v76 := Tryz.zeroValue75, t85 := Tryz.underlying255, a85 := Tryz.isAgg255, z85 := Tryz.sizeOf255, v85 := Tryz.zeroValue255, t127 := Tryz.underlying128, a127 := Tryz.isAgg128, z127 := Tryz.sizeOf128, v127 := Tryz.zeroValue128, t143 := Tryz.underlying283, a143 := Tryz.isAgg283, z143 := Tryz.sizeOf283, v143 := Tryz.zeroValue283, t145 := Tryz.underlying285, a145 := Tryz.isAgg285, z145 := Tryz.sizeOf285, v145 := Tryz.zeroValue285, t167 := Tryz.underlying254, a167 := Tryz.isAgg254, z167 := Tryz.sizeOf254, v167 := Tryz.zeroValue254, t168 := Tryz.underlying257, a168 := Tryz.isAgg257, z168 := Tryz.sizeOf257, v168 := Tryz.zeroValue257, t171 := Tryz.underlying199, a171 := Tryz.isAgg199, z171 := Tryz.sizeOf199, v171 := Tryz.zeroValue199, t173 := Tryz.underlying203, a173 := Tryz.isAgg203, z173 := Tryz.sizeOf203, v173 := Tryz.zeroValue203, t175 := Tryz.underlying275, a175 := Tryz.isAgg275, z175 := Tryz.sizeOf275, v175 := Tryz.zeroValue275, t210 := Tryz.underlying278, a210 := Tryz.isAgg278, z210 := Tryz.sizeOf278, v210 := Tryz.zeroValue278, t212 := Tryz.underlying233, a212 := Tryz.isAgg233, z212 := Tryz.sizeOf233, v212 := Tryz.zeroValue233, t213 := Tryz.underlying234, a213 := Tryz.isAgg234, z213 := Tryz.sizeOf234, t232 := Tryz.underlying273, a232 := Tryz.isAgg273, z232 := Tryz.sizeOf273, v232 := Tryz.zeroValue273, t233 := Tryz.underlying274, a233 := Tryz.isAgg274, z233 := Tryz.sizeOf274, v233 := Tryz.zeroValue274, g15 := by kernel_rfl, g16 := by kernel_rfl, g17 := by kernel_rfl, g18 := by kernel_rfl, g19 := by kernel_rfl }
def Tryz.laysJoin_ren : Go.Shelf.Ren := ⟨fun | 156 => 68 | 165 => 109 | 166 => 23 | 169 => 33 | 240 => 67 | 241 => 151 | 276 => 108 | 277 => 195 | n => n, fun | 31 => 83 | 9 => 9 | 3 => 3 | 4 => 4 | 0 => 0 | 20 => 20 | 72 => 72 | 76 => 75 | 70 => 69 | 37 => 70 | 75 => 74 | 127 => 128 | 164 => 156 | 5 => 5 | 80 => 87 | n => n, fun | n => n⟩
theorem Tryz.laysJoin : Go.Proofs.Lays.n156 Tryz.prog Tryz.laysJoin_ren := { mixed := by kernel_rfl, f156 := Tryz.func68.trans (congrArg some (by kernel_rfl)), f165 := Tryz.func109.trans (congrArg some (by kernel_rfl)), f166 := Tryz.func23.trans (congrArg some (by kernel_rfl)), f169 := Tryz.func33.trans (congrArg some (by kernel_rfl)), f240 := Tryz.func67.trans (congrArg some (by kernel_rfl)), f241 := Tryz.func151.trans (congrArg some (by kernel_rfl)), f276 := Tryz.func108.trans (congrArg some (by kernel_rfl)), f277 := Tryz.func195.trans (congrArg some (by kernel_rfl)), t0 := Tryz.underlying0, a0 := Tryz.isAgg0, z0 := Tryz.sizeOf0, v0 := Tryz.zeroValue0, t3 := Tryz.underlying3, a3 := Tryz.isAgg3, z3 := Tryz.sizeOf3, v3 := Tryz.zeroValue3, t4 := Tryz.underlying4, a4 := Tryz.isAgg4, z4 := Tryz.sizeOf4, v4 := Tryz.zeroValue4, t9 := Tryz.underlying9, a9 := Tryz.isAgg9, z9 := Tryz.sizeOf9, v9 := Tryz.zeroValue9, t20 := Tryz.underlying20, a20 := Tryz.isAgg20, z20 := Tryz.sizeOf20, v20 := Tryz.zeroValue20, t31 := Tryz.underlying83, a31 := Tryz.isAgg83, z31 := Tryz.sizeOf83, v31 := Tryz.zeroValue83, t37 := Tryz.underlying70, a37 := Tryz.isAgg70, z37 := Tryz.sizeOf70, v37 := Tryz.zeroValue70, t70 := Tryz.underlying69, a70 := Tryz.isAgg69, z70 := Tryz.sizeOf69, v70 := Tryz.zeroValue69, t72 := Tryz.underlying72, a72 := Tryz.isAgg72, z72 := Tryz.sizeOf72, v72 := Tryz.zeroValue72, t75 := Tryz.underlying74, a75 := Tryz.isAgg74, z75 := Tryz.sizeOf74, v75 := Tryz.zeroValue74, t76 := Tryz.underlying75, a76 := Tryz.isAgg75, z76 := Tryz.sizeOf75, v76 := Tryz.zeroValue75, t127 := Tryz.underlying128, a127 := Tryz.isAgg128, z127 := Tryz.sizeOf128, v127 := Tryz.zeroValue128, t164 := Tryz.underlying156, a164 := Tryz.isAgg156, z164 := Tryz.sizeOf156, v164 := Tryz.zeroValue156 }
def Tryz.laysBldW_ren : Go.Shelf.Ren := ⟨fun | 166 => 23 | 240 => 67 | 276 => 108 | n => n, fun | 70 => 69 | 9 => 9 | 3 => 3 | 75 => 74 | 0 => 0 | 72 => 72 | 37 => 70 | 4 => 4 | 164 => 156 | 80 => 87 | 5 => 5 | n => n, fun | n => n⟩
theorem Tryz.laysBldW : Go.Proofs.Lays.n166 Tryz.prog Tryz.laysBldW_ren := { mixed := by kernel_rfl, f166 := Tryz.func23.trans (congrArg some (by kernel_rfl)), f240 := Tryz.func67.trans (congrArg some (by kernel_rfl)), f276 := Tryz.func108.trans (congrArg some (by kernel_rfl)), t0 := Tryz.underlying0, a0 := Tryz.isAgg0, z0 := Tryz.sizeOf0, v0 := Tryz.zeroValue0, t3 := Tryz.underlying3, a3 := Tryz.isAgg3, z3 := Tryz.sizeOf3, v3 := Tryz.zeroValue3, t4 := Tryz.underlying4, a4 := Tryz.isAgg4, z4 := Tryz.sizeOf4, v4 := Tryz.zeroValue4, t9 := Tryz.underlying9, a9 := Tryz.isAgg9, z9 := Tryz.sizeOf9, v9 := Tryz.zeroValue9, t20 := Tryz.underlying20, a20 := Tryz.isAgg20, z20 := Tryz.sizeOf20, v20 := Tryz.zeroValue20, t37 := Tryz.underlying70, a37 := Tryz.isAgg70, z37 := Tryz.sizeOf70, v37 := Tryz.zeroValue70, t70 := Tryz.underlying69, a70 := Tryz.isAgg69, z70 := Tryz.sizeOf69, v70 := Tryz.zeroValue69, t72 := Tryz.underlying72, a72 := Tryz.isAgg72, z72 := Tryz.sizeOf72, v72 := Tryz.zeroValue72, t75 := Tryz.underlying74, a75 := Tryz.isAgg74, z75 := Tryz.sizeOf74, v75 := Tryz.zeroValue74, t164 := Tryz.underlying156, a164 := Tryz.isAgg156, z164 := Tryz.sizeOf156, v164 := Tryz.zeroValue156 }
def Tryz.laysRep_ren : Go.Shelf.Ren := ⟨fun | 105 => 111 | 212 => 152 | 99 => 153 | 165 => 109 | 166 => 23 | 170 => 32 | 169 => 33 | 263 => 196 | 264 => 197 | 206 => 198 | 240 => 67 | 241 => 151 | 276 => 108 | 277 => 195 | n => n, fun | 9 => 9 | 3 => 3 | 4 => 4 | 20 => 20 | 0 => 0 | 46 => 184 | 109 => 197 | 5 => 5 | 72 => 72 | 76 => 75 | 51 => 220 | 146 => 228 | 53 => 200 | 148 => 230 | 70 => 69 | 37 => 70 | 75 => 74 | 127 => 128 | 164 => 156 | 80 => 87 | n => n, fun | n => n⟩
theorem Tryz.laysRep : Go.Proofs.Lays.n105 Tryz.prog Tryz.laysRep_ren := { mixed := by kernel_rfl, f99 := Tryz.func153.trans (congrArg some (by kernel_rfl)), f105 := Tryz.func111.trans (congrArg some (by kernel_rfl)), f165 := Tryz.func109.trans (congrArg some (by kernel_rfl)), f166 := Tryz.func23.trans (congrArg some (by kernel_rfl)), f169 := Tryz.func33.trans (congrArg some (by kernel_rfl)), f170 := Tryz.func32.trans (congrArg some (by kernel_rfl)), f206 := Tryz.func198.trans (congrArg some (by kernel_rfl)), f212 := Tryz.func152.trans (congrArg some (by kernel_rfl)), f240 := Tryz.func67.trans (congrArg some (by kernel_rfl)), f241 := Tryz.func151.trans (congrArg some (by kernel_rfl)), f263 := Tryz.func196.trans (congrArg some (by kernel_rfl)), f264 := Tryz.func197.trans (congrArg some (by kernel_rfl)), f276 := Tryz.func108.trans (congrArg some (by kernel_rfl)), f277 := Tryz.func195.trans (congrArg some (by kernel_rfl)), t0 := Tryz.underlying0, a0 := Tryz.isAgg0, z0 := Tryz.sizeOf0, v0 := Tryz.zeroValue0, t3 := Tryz.underlying3, a3 := Tryz.isAgg3, z3 := Tryz.sizeOf3, v3 := Tryz.zeroValue3, t4 := Tryz.underlying4, a4 := Tryz.isAgg4, z4 := Tryz.sizeOf4, v4 := Tryz.zeroValue4, t5 := Tryz.underlying5, a5 := Tryz.isAgg5, z5 := Tryz.sizeOf5, v5 := Tryz.zeroValue5, t9 := Tryz.underlying9, a9 := Tryz.isAgg9, z9 := Tryz.sizeOf9, v9 := Tryz.zeroValue9, t20 := Tryz.underlying20, a20 := Tryz.isAgg20, z20 := Tryz.sizeOf20, v20 := Tryz.zeroValue20, t37 := Tryz.underlying70, a37 := Tryz.isAgg70, z37 := Tryz.sizeOf70, v37 := Tryz.zeroValue70, t46 := Tryz.underlying184, a46 := Tryz.isAgg184, z46 := Tryz.sizeOf184, v46 := Tryz.zeroValue184, t51 := Tryz.underlying220, a51 := Tryz.isAgg220, z51 := Tryz.sizeOf220, v51 := Tryz.zeroValue220, t53 := Tryz.underlying200, a53 := Tryz.isAgg200, z53 := Tryz.sizeOf200, v53 := Tryz.zeroValue200, t70 := Tryz.underlying69, a70 := Tryz.isAgg69, z70 := Tryz.sizeOf69, v70 := Tryz.zeroValue69, t72 := Tryz.underlying72, a72 := Tryz.isAgg72, z72 := Tryz.sizeOf72, v72 := Tryz.zeroValue72, t75 := Tryz.underlying74, a75 := Tryz.isAgg74, z75 := Tryz.sizeOf74, v75 := Tryz.zeroValue74, t76 := Tryz.underlying75, a76 := Tryz.isAgg75, z76 := Tryz.sizeOf75, v76 := Tryz.zeroValue75, t109 := Tryz.underlying197, a109 := Tryz.isAgg197, z109 := Tryz.sizeOf197, v109 := Tryz.zeroValue197, t127 := Tryz.underlying128, a127 := Tryz.isAgg128, z127 := Tryz.sizeOf128, v127 := Tryz.zeroValue128, t146 := Tryz.underlying228, a146 := Tryz.isAgg228, z146 := Tryz.sizeOf228, v146 := Tryz.zeroValue228, t148 := Tryz.underlying230, a148 := Tryz.isAgg230, z148 := Tryz.sizeOf230, v148 := Tryz.zeroValue230, t164 := Tryz.underlying156, a164 := Tryz.isAgg156, z164 := Tryz.sizeOf156, v164 := Tryz.zeroValue156 }
def Tryz.laysBldL_ren : Go.Shelf.Ren := ⟨fun | 170 => 32 | n => n, fun | 70 => 69 | 3 => 3 | 0 => 0 | 72 => 72 | 37 => 70 | 5 => 5 | n => n, fun | n => n⟩
theorem Tryz.laysBldL : Go.Proofs.Lays.n170 Tryz.prog Tryz.laysBldL_ren := { mixed := by kernel_rfl, f170 := Tryz.func32.trans (congrArg some (by kernel_rfl)), t0 := Tryz.underlying0, a0 := Tryz.isAgg0, z0 := Tryz.sizeOf0, v0 := Tryz.zeroValue0, t3 := Tryz.underlying3, a3 := Tryz.isAgg3, z3 := Tryz.sizeOf3, v3 := Tryz.zeroValue3, t37 := Tryz.underlying70, a37 := Tryz.isAgg70, z37 := Tryz.sizeOf70, v37 := Tryz.zeroValue70, t70 := Tryz.underlying69, a70 := Tryz.isAgg69, z70 := Tryz.sizeOf69, v70 := Tryz.zeroValue69, t72 := Tryz.underlying72, a72 := Tryz.isAgg72, z72 := Tryz.sizeOf72, v72 := Tryz.zeroValue72 }
def Tryz.laysBldS_ren : Go.Shelf.Ren := ⟨fun | 169 => 33 | n => n, fun | 70 => 69 | 9 => 9 | 0 => 0 | 72 => 72 | 37 => 70 | 127 => 128 | 3 => 3 | 5 => 5 | n => n, fun | n => n⟩
theorem Tryz.laysBldS : Go.Proofs.Lays.n169 Tryz.prog Tryz.laysBldS_ren := { mixed := by kernel_rfl, f169 := Tryz.func33.trans (congrArg some (by kernel_rfl)), t0 := Tryz.underlying0, a0 := Tryz.isAgg0, z0 := Tryz.sizeOf0, v0 := Tryz.zeroValue0, t3 := Tryz.underlying3, a3 := Tryz.isAgg3, z3 := Tryz.sizeOf3, v3 := Tryz.zeroValue3, t9 := Tryz.underlying9, a9 := Tryz.isAgg9, z9 := Tryz.sizeOf9, v9 := Tryz.zeroValue9, t37 := Tryz.underlying70, a37 := Tryz.isAgg70, z37 := Tryz.sizeOf70, v37 := Tryz.zeroValue70, t70 := Tryz.underlying69, a70 := Tryz.isAgg69, z70 := Tryz.sizeOf69, v70 := Tryz.zeroValue69, t72 := Tryz.underlying72, a72 := Tryz.isAgg72, z72 := Tryz.sizeOf72, v72 := Tryz.zeroValue72, t127 := Tryz.underlying128, a127 := Tryz.isAgg128, z127 := Tryz.sizeOf128, v127 := Tryz.zeroValue128 }
def Tryz.laysItoa_ren : Go.Shelf.Ren := ⟨fun | 171 => 28 | 243 => 71 | 246 => 112 | 283 => 154 | 284 => 155 | 285 => 156 | 286 => 157 | 129 => 187 | 317 => 199 | 318 => 200 | 319 => 201 | 320 => 202 | 337 => 240 | 338 => 241 | n => n, fun | 3 => 3 | 9 => 9 | 2 => 2 | 4 => 4 | 171 => 199 | 0 => 0 | 53 => 200 | 37 => 70 | 5 => 5 | 173 => 203 | 212 => 233 | 51 => 220 | 20 => 20 | 213 => 234 | 46 => 184 | 232 => 273 | 233 => 274 | n => n, fun | 17 => 1 | 18 => 4 | 19 => 5 | n => n⟩
theorem Tryz.laysItoa : Go.Proofs.LaysM.n171 Tryz.prog Tryz.laysItoa_ren := { mixed := by kernel_rfl, f129 := Tryz.func187.trans (congrArg some (by kernel_rfl)), f171 := Tryz.func28.trans (congrArg some (by kernel_rfl)), f243 := Tryz.func71.trans (congrArg some (by kernel_rfl)), f246 := Tryz.func112.trans (congrArg some (by kernel_rfl)), f283 := Tryz.func154.trans (congrArg some (by kernel_rfl)), f284 := Tryz.func155.trans (congrArg some (by kernel_rfl)), f285 := Tryz.func156.trans (congrArg some (by kernel_rfl)), f286 := Tryz.func157.trans (congrArg some (by kernel_rfl)), f317 := Tryz.func199.trans (congrArg some (by kernel_rfl)), f318 := Tryz.func200.trans (congrArg some (by kernel_rfl)), f319 := Tryz.func201.trans (congrArg some (by kernel_rfl)), f320 := Tryz.func202.trans (congrArg some (by kernel_rfl)), f337 := Tryz.func240.trans (congrArg some (by kernel_rfl)), f338 := Tryz.func241.trans (congrArg some (by kernel_rfl)), t0 := Tryz.underlying0, a0 := Tryz.isAgg0, z0 := Tryz.sizeOf0, v0 := Tryz.zeroValue0, t2 := Tryz.underlying2, a2 := Tryz.isAgg2, z2 := Tryz.sizeOf2, v2 := Tryz.zeroValue2, t3 := Tryz.underlying3, a3 := Tryz.isAgg3, z3 := Tryz.sizeOf3, v3 := Tryz.zeroValue3, t4 := Tryz.underlying4, a4 := Tryz.isAgg4, z4 := Tryz.sizeOf4, v4 := Tryz.zeroValue4, t5 := Tryz.underlying5, a5 := Tryz.isAgg5, z5 := Tryz.sizeOf5, v5 := Tryz.zeroValue5, t9 := Tryz.underlying9, a9 := Tryz.isAgg9, z9 := Tryz.sizeOf9, v9 := Tryz.zeroValue9, t20 := Tryz.underlying20, a20 := Tryz.isAgg20, z20 := Tryz.sizeOf20, v20 := Tryz.zeroValue20, t37 := Tryz.underlying70, a37 := Tryz.isAgg70, z37 := Tryz.sizeOf70, v37 := Tryz.zeroValue70, t46 := Tryz.underlying184, a46 := Tryz.isAgg184, z46 := Tryz.sizeOf184, v46 := Tryz.zeroValue184, t51 := Tryz.underlying220, a51 := Tryz.isAgg220, z51 := Tryz.sizeOf220, v51 := Tryz.zeroValue220, t53 := Tryz.underlying200, a53 := Tryz.isAgg200, z53 := Tryz.sizeOf200, v53 := Tryz.zeroValue200, t171 := Tryz.underlying199, a171 := Tryz.isAgg199, z171 := Tryz.sizeOf199, v171 := Tryz.zeroValue199, t173 := Tryz.underlying203, a173 := Tryz.isAgg203, z173 := Tryz.sizeOf203, v173 := Tryz.zeroValue203, t212 := Tryz.underlying233, a212 := Tryz.isAgg233, z212 := Tryz.sizeOf233, v212 := Tryz.zeroValue233, t213 := Tryz.underlying234, a213 := Tryz.isAgg234, z213 := Tryz.sizeOf234, t232 := Tryz.underlying273, a232 := Tryz.isAgg273, z232 := Tryz.sizeOf273, v232 := Tryz.zeroValue273, t233 := Tryz.underlying274, a233 := Tryz.isAgg274, z233 := Tryz.sizeOf274, v233 := Tryz.zeroValue274, g17 := by kernel_rfl, g18 := by kernel_rfl, g19 := by kernel_rfl, i0 := by kernel_rfl, i2 := by kernel_rfl, i3 := by kernel_rfl, i4 := by kernel_rfl, i5 := by kernel_rfl, i9 := by kernel_rfl, i20 := by kernel_rfl, i37 := by kernel_rfl, i46 := by kernel_rfl, i51 := by kernel_rfl, i53 := by kernel_rfl, i171 := by kernel_rfl, i173 := by kernel_rfl, i212 := by kernel_rfl, i232 := by kernel_rfl, i233 := by kernel_rfl, m17 := by kernel_rfl, m18 := by kernel_rfl, m19 := by kernel_rfl }
theorem Tryz.laysJoin_x : Builder.Extra Tryz.prog Tryz.laysJoin_ren where
 sizeBuilder := by kernel_rfl
 liesBuilder := by kernel_rfl
 t5 := Tryz.underlying5
 a5 := Tryz.isAgg5
 z5 := Tryz.sizeOf5
 v5 := Tryz.zeroValue5
 infoByte := by kernel_rfl
 cellsByte := by kernel_rfl
 sizeByte := by kernel_rfl
 neB5 := by decide
theorem Tryz.laysBldW_x : Builder.Extra Tryz.prog Tryz.laysBldW_ren where
 sizeBuilder := by kernel_rfl
 liesBuilder := by kernel_rfl
 t5 := Tryz.underlying5
 a5 := Tryz.isAgg5
 z5 := Tryz.sizeOf5
 v5 := Tryz.zeroValue5
 infoByte := by kernel_rfl
 cellsByte := by kernel_rfl
 sizeByte := by kernel_rfl
 neB5 := by decide
theorem Tryz.laysRep_x : Builder.Extra Tryz.prog Tryz.laysRep_ren where
 sizeBuilder := by kernel_rfl
 liesBuilder := by kernel_rfl
 t5 := Tryz.underlying5
 a5 := Tryz.isAgg5
 z5 := Tryz.sizeOf5
 v5 := Tryz.zeroValue5
 infoByte := by kernel_rfl
 cellsByte := by kernel_rfl
 sizeByte := by kernel_rfl
 neB5 := by decide
theorem Tryz.laysBldS_x : Builder.Extra Tryz.prog Tryz.laysBldS_ren where
 sizeBuilder := by kernel_rfl
 liesBuilder := by kernel_rfl
 t5 := Tryz.underlying5
 a5 := Tryz.isAgg5
 z5 := Tryz.sizeOf5
 v5 := Tryz.zeroValue5
 infoByte := by kernel_rfl
 cellsByte := by kernel_rfl
 sizeByte := by kernel_rfl
 neB5 := by decide
end Go.Proofs
namespace Go.Proofs.SYtooejlhignkdgaaGreatDoor
open Go Go.AL Go.Proofs
noncomputable section
abbrev P : Program := Tryz.prog
attribute [instance] drT
theorem hm : P.follows .mixedOrders = true := Tryz.checked.mixed
def cmpS (a b : ByteArray) : Int := Lib.compareBytes a.data.toList b.data.toList
def idxB (s : ByteArray) (c : Int) : Int := Lib.indexByte s.data.toList c.toNat.toUInt8
def trimB (s cut : ByteArray) : ByteArray := ⟨(Lib.trimS s.data.toList cut.data.toList).toArray⟩
def itoaZ (n : Int) : ByteArray := ⟨(Lib.itoa n).toArray⟩
def itoaB (n : Int) : ByteArray := ⟨(Lib.decDigits n.toNat).toArray⟩
def ascii (cut : ByteArray) : Bool := cut.data.toList.all fun b => Nat.blt b.toNat 128
def eqS (a b : ByteArray) : Bool := a.data.toList == b.data.toList
theorem eqS_eq {a b : ByteArray} (h : eqS a b = true) : a = b := by
 unfold eqS at h
 rw [beq_iff_eq] at h
 cases a with
 | mk a =>
  cases b with
  | mk b =>
   congr 1
   exact Array.ext' h
def lookS {α : Type} : List (ByteArray × α) → ByteArray → Option α
 | [], _ => none
 | (k, v) :: l, s => bif eqS k s then some v else lookS l s
theorem lookS_mem {α : Type} {s : ByteArray} {v : α} : ∀ {l : List (ByteArray × α)}, lookS l s = some v → (s, v) ∈ l
 | [], h => by cases h
 | (k, u) :: l, h => by
  simp only [lookS] at h
  cases hk : eqS k s with
  | true =>
   rw [hk] at h
   cases h
   rw [eqS_eq hk]
   exact List.mem_cons_self
  | false =>
   rw [hk] at h
   exact List.mem_cons_of_mem _ (lookS_mem h)
abbrev KBand : List Kd := [.str, .int .i64, .int .i64]
abbrev KCt : List Kd := [.int .i64, .int .i64, .str, .str, .int .i64, .int .i64, .str, .str]
abbrev KSegment : List Kd := [.str, .int .i64, .int .i64, .list [.int .i64], .int .i64, .int .i64]
abbrev KEntrant : List Kd := [.str, .str, .int .i64, .str]
abbrev KDeed : List Kd := [.str, .int .i64, .int .i64, .int .i64, .int .i64, .int .i64, .str, .str, .int .i64, .int .i64, .str, .str, .str, .str, .int .i64]
abbrev KPlace : List Kd := [.int .i64, .int .i64, .str]
abbrev KParts : List Kd := [.str, .str, .str, .int .i64, .str]
def t0 : Tab := tabM []
theorem t0_ok : TabOK P t0 := tabM_ok P _
def F_strings_Compare (d : List G) : Option (List G) := some [.i (cmpS (gi d 0).str (gi d 1).str)]
def s_strings_Compare : FSpec := ⟨48, [.s (.str), .s (.str)], [], [], [.s (.int .i64)], [], [], [], F_strings_Compare⟩
theorem c_strings_Compare : ∀ d r, F_strings_Compare d = some r → ACallX P 48 (s_strings_Compare.args0 d) (denH (s_strings_Compare.H0 d)) (s_strings_Compare.out r) (denH (s_strings_Compare.H1 r)) := fun d r h => by
 cases h
 exact (pcall_lits (vs := [.string (gi d 0).str, .string (gi d 1).str]) fun w => (Proofs.Any.strings_Compare Tryz.laysCompare (gi d 0).str (gi d 1).str w).mono fun e w' h => ⟨h.1, h.2 ▸ Ext.refl w⟩) []
def t1 : Tab := t0.addP s_strings_Compare
theorem t1_ok : TabOK P t1 := t0_ok.aP c_strings_Compare
def F_strings_IndexByte (d : List G) : Option (List G) := some [.i (idxB (gi d 0).str (gi d 1).int)]
def s_strings_IndexByte : FSpec := ⟨90, [.s (.str), .s (.int .u8)], [], [], [.s (.int .i64)], [], [], [], F_strings_IndexByte⟩
theorem c_strings_IndexByte : ∀ d r, F_strings_IndexByte d = some r → ACallX P 90 (s_strings_IndexByte.args0 d) (denH (s_strings_IndexByte.H0 d)) (s_strings_IndexByte.out r) (denH (s_strings_IndexByte.H1 r)) := fun d r h => by
 cases h
 exact (pcall_lits (vs := [.string (gi d 0).str, .int .u8 (gi d 1).int]) fun w => (Proofs.Any.strings_IndexByte Tryz.laysIndexByte (gi d 0).str (gi d 1).int w).mono fun e w' h => ⟨h.1, h.2 ▸ Ext.refl w⟩) []
def t2 : Tab := t1.addP s_strings_IndexByte
theorem t2_ok : TabOK P t2 := t1_ok.aP c_strings_IndexByte
def F_strconv_Itoa (d : List G) : Option (List G) := bif (leI (-9223372036854775808) (gi d 0).int && leI (gi d 0).int 9223372036854775807) then some [.s (itoaZ (gi d 0).int)] else none
def s_strconv_Itoa : FSpec := ⟨28, [.s (.int .i64)], [], [], [.s (.str)], [], [], [], F_strconv_Itoa⟩
theorem c_strconv_Itoa : ∀ d r, F_strconv_Itoa d = some r → ACallX P 28 (s_strconv_Itoa.args0 d) (denH (s_strconv_Itoa.H0 d)) (s_strconv_Itoa.out r) (denH (s_strconv_Itoa.H1 r)) := fun d r h => by
 unfold F_strconv_Itoa at h
 cases hb : (leI (-9223372036854775808) (gi d 0).int && leI (gi d 0).int 9223372036854775807) with
 | false => rw [hb] at h; cases h
 | true =>
  rw [hb] at h
  cases h
  simp only [Bool.and_eq_true, leI_eq, decide_eq_true_eq] at hb
  have key : PCall P 28 [.lit (.int .i64 (gi d 0).int)] (.lit (.string (itoaZ (gi d 0).int))) :=
   pcall_litsT (vs := [.int .i64 (gi d 0).int]) fun E hE => (Proofs.Any.strconv_Itoa Tryz.laysItoa (gi d 0).int hb.1 hb.2 E.w (tabIs_of hE (g := 1) (by kernel_rfl) (List.mem_singleton.2 rfl))).mono fun e' w' h => ⟨h.1, by
    obtain ⟨q, os, rfl⟩ := h.2
    exact ext_growG _ q os⟩
  exact key []
def t3 : Tab := t2.addP s_strconv_Itoa
theorem t3_ok : TabOK P t3 := t2_ok.aP c_strconv_Itoa
def F_strings_Trim (d : List G) : Option (List G) := bif (ascii (gi d 1).str && (Nat.ble 2 (gi d 1).str.size && (Nat.blt (gi d 1).str.size 4294967281 && (Nat.ble 1 (gi d 0).str.size && Nat.ble (gi d 0).str.size 9223372036854775807)))) then some [.s (trimB (gi d 0).str (gi d 1).str)] else none
def s_strings_Trim : FSpec := ⟨91, [.s (.str), .s (.str)], [], [], [.s (.str)], [], [], [], F_strings_Trim⟩
theorem c_strings_Trim : ∀ d r, F_strings_Trim d = some r → ACallX P 91 (s_strings_Trim.args0 d) (denH (s_strings_Trim.H0 d)) (s_strings_Trim.out r) (denH (s_strings_Trim.H1 r)) := fun d r h => by
 unfold F_strings_Trim at h
 cases hb : (ascii (gi d 1).str && (Nat.ble 2 (gi d 1).str.size && (Nat.blt (gi d 1).str.size 4294967281 && (Nat.ble 1 (gi d 0).str.size && Nat.ble (gi d 0).str.size 9223372036854775807)))) with
 | false => rw [hb] at h; cases h
 | true =>
  rw [hb] at h
  cases h
  simp only [Bool.and_eq_true, Nat.blt_eq, Nat.ble_eq] at hb
  have hz : (Tryz.prog.info? (Tryz.laysTrim_ren.t 116)).map (fun i => (i.zero, i.size)) = some (some (.agg (Array.replicate 256 (.bool false))), 256) := by kernel_rfl
  exact (pcall_lits (vs := [.string (gi d 0).str, .string (gi d 1).str]) fun w => (Proofs.Any.strings_Trim_set Tryz.laysTrim (zero_of_info hz).1 (zero_of_info hz).2 (gi d 0).str (gi d 1).str w hb.2.1 hb.2.2.2.1 hb.2.2.2.2 hb.2.2.1 fun j b hj => by
   have := List.all_eq_true.1 hb.1 b (List.mem_of_getElem? hj)
   simpa [Nat.blt_eq] using this).mono fun _ _ h => ⟨h.1, by
    obtain ⟨_, q, rfl⟩ := h
    exact ((Ext.push w _).trans (Ext.push _ _)).trans (Ext.drawn _ _ (Nat.le_add_right _ _))⟩) []
def t4 : Tab := t3.addP s_strings_Trim
theorem t4_ok : TabOK P t4 := t3_ok.aP c_strings_Trim
def F_stringslite_IndexByte (d : List G) : Option (List G) := some [.i (idxB (gi d 0).str (gi d 1).int)]
def s_stringslite_IndexByte : FSpec := ⟨129, [.s (.str), .s (.int .u8)], [], [], [.s (.int .i64)], [], [], [], F_stringslite_IndexByte⟩
theorem c_stringslite_IndexByte : ∀ d r, F_stringslite_IndexByte d = some r → ACallX P 129 (s_stringslite_IndexByte.args0 d) (denH (s_stringslite_IndexByte.H0 d)) (s_stringslite_IndexByte.out r) (denH (s_stringslite_IndexByte.H1 r)) := fun d r h => by
 cases h
 exact (pcall_lits (vs := [.string (gi d 0).str, .int .u8 (gi d 1).int]) fun w => (Proofs.Any.stringslite_IndexByte Tryz.laysSlIndexByte (gi d 0).str (gi d 1).int w).mono fun e w' h => ⟨h.1, h.2 ▸ Ext.refl w⟩) []
def t5 : Tab := t4.addP s_stringslite_IndexByte
theorem t5_ok : TabOK P t5 := t4_ok.aP c_stringslite_IndexByte
end
end Go.Proofs.SYtooejlhignkdgaaGreatDoor
