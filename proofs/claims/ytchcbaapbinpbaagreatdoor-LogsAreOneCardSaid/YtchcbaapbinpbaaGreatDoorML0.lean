/-
 What is proved here: functions of the program as functions on data. No condition.
-/
import Derived.Test.YtchcbaapbinpbaaGreatDoorMU
import Derived.Shelf.Strings.BuilderX
import Derived.Test.YtchcbaapbinpbaaGreatDoorMH
import Derived.Test.YtchcbaapbinpbaaGreatDoorChecked
import Derived.Shelf.Small.Strs
import Derived.Shelf.Strconv.Itoa3
import Derived.Shelf.Strings.Search1
import Derived.Shelf.Strings.SlTrimAscii
import Derived.Test.YtchcbaapbinpbaaGreatDoorMG
namespace Go.AL
section
variable [Dr]
theorem TabOK.aP {P : Program} {τ : Tab} (h : TabOK P τ) {sp : FSpec} (hc : COK P sp) (hb : hasBody P sp.f = true := by kernel_rfl) (hp : PureSp sp = true := by kernel_rfl) : TabOK P (τ.addP sp) := h.addP hb hp hc
theorem TabOK.aW {P : Program} {τ : Tab} (h : TabOK P τ) {sp : FSpec} (hc : COK P sp) (hb : hasBody P sp.f = true := by kernel_rfl) (hp : EffSp sp = true := by kernel_rfl) : TabOK P (τ.addW sp) := h.addW hb hp hc
theorem LpK.a {P : Program} {τ : Tab} {m : Nat} {L : LT} (hm : P.follows .mixedOrders = true) (ht : TabOK P τ) {fn : Func} {sp : LSpec} (hL : LpK P m L (bodyOf fn)) (hr : RoundOK P τ L m (loopAt fn sp.key) sp) (hn : nodupB ((loopsIn (bodyOf fn)).map (·.1)) = true := by kernel_rfl) : LpK P m (L.add m sp) (bodyOf fn) := LpK.add hm ht hn hL hr
theorem LpK.aC {P : Program} {τ : Tab} {m : Nat} {L : LT} (hm : P.follows .mixedOrders = true) (ht : TabOK P τ) {fn : Func} {sp : LSpec} (hL : LpK P m L (bodyOf fn)) (hr : CutOK P τ L m (cutAt fn sp.key) sp) (hn : oneKey sp.key (cutsIn (bodyOf fn)) = true := by kernel_rfl) : LpK P m (L.addCut m sp) (bodyOf fn) := LpK.addCut hm ht hn hL hr
theorem bdC {P : Program} {τ : Tab} {L : LT} (hm : P.follows .mixedOrders = true) (ht : TabOK P τ) {sp : FSpec} {fn : Func} (hf : P.funcs[sp.f]? = some fn) (hL : LpK P sp.objs.length L (bodyOf fn)) (hB : BodyOK P τ L fn sp) (hb : fn.body.isSome = true := by kernel_rfl) (hfr : fresh0 sp.objs = true := by kernel_rfl) : COK P sp := bodyC hm ht hf hb hL hB hfr
end
end Go.AL
set_option linter.all false
namespace Go.Proofs
open Go.Shelf Go.RowKit
set_option maxHeartbeats 4000000
def Tryz.laysCompare_ren : Go.Shelf.Ren := ⟨fun | 106 => 89 | 213 => 148 | 265 => 205 | n => n, fun | 9 => 9 | 3 => 3 | n => n, fun | n => n⟩
theorem Tryz.laysCompare : Go.Proofs.Lays.n106 Tryz.prog Tryz.laysCompare_ren := { mixed := by kernel_rfl, f106 := Tryz.func89.trans (congrArg some (by kernel_rfl)), f213 := Tryz.func148.trans (congrArg some (by kernel_rfl)), f265 := Tryz.func205.trans (congrArg some (by kernel_rfl)), t3 := Tryz.underlying3, a3 := Tryz.isAgg3, z3 := Tryz.sizeOf3, v3 := Tryz.zeroValue3, t9 := Tryz.underlying9, a9 := Tryz.isAgg9, z9 := Tryz.sizeOf9, v9 := Tryz.zeroValue9 }
def Tryz.laysIndexByte_ren : Go.Shelf.Ren := ⟨fun | 137 => 161 | 217 => 225 | 266 => 269 | n => n, fun | 9 => 9 | 5 => 5 | 3 => 3 | n => n, fun | n => n⟩
theorem Tryz.laysIndexByte : Go.Proofs.Lays.n137 Tryz.prog Tryz.laysIndexByte_ren := { mixed := by kernel_rfl, f137 := Tryz.func161.trans (congrArg some (by kernel_rfl)), f217 := Tryz.func225.trans (congrArg some (by kernel_rfl)), f266 := Tryz.func269.trans (congrArg some (by kernel_rfl)), t3 := Tryz.underlying3, a3 := Tryz.isAgg3, z3 := Tryz.sizeOf3, v3 := Tryz.zeroValue3, t5 := Tryz.underlying5, a5 := Tryz.isAgg5, z5 := Tryz.sizeOf5, v5 := Tryz.zeroValue5, t9 := Tryz.underlying9, a9 := Tryz.isAgg9, z9 := Tryz.sizeOf9, v9 := Tryz.zeroValue9 }
def Tryz.laysTrim_ren : Go.Shelf.Ren := ⟨fun | 160 => 155 | 232 => 217 | 231 => 216 | 227 => 218 | 234 => 220 | 233 => 219 | 236 => 222 | 235 => 221 | 228 => 261 | 271 => 263 | 151 => 262 | 197 => 257 | 120 => 294 | 152 => 284 | 260 => 290 | 137 => 161 | 119 => 317 | 224 => 292 | 225 => 291 | 217 => 225 | 266 => 269 | n => n, fun | 9 => 9 | 4 => 4 | 3 => 3 | 5 => 5 | 117 => 259 | 116 => 258 | 0 => 0 | 124 => 262 | 21 => 21 | 105 => 284 | 46 => 141 | 119 => 320 | 139 => 323 | 138 => 322 | n => n, fun | 3 => 6 | 4 => 7 | n => n⟩
theorem Tryz.laysTrim : Go.Proofs.Lays.n160 Tryz.prog Tryz.laysTrim_ren := { mixed := by kernel_rfl, f119 := Tryz.func317.trans (congrArg some (by kernel_rfl)), f120 := Tryz.func294.trans (congrArg some (by kernel_rfl)), f137 := Tryz.func161.trans (congrArg some (by kernel_rfl)), f151 := Tryz.func262.trans (congrArg some (by kernel_rfl)), f152 := Tryz.func284.trans (congrArg some (by kernel_rfl)), f160 := Tryz.func155.trans (congrArg some (by kernel_rfl)), f197 := Tryz.func257.trans (congrArg some (by kernel_rfl)), f217 := Tryz.func225.trans (congrArg some (by kernel_rfl)), f224 := Tryz.func292.trans (congrArg some (by kernel_rfl)), f225 := Tryz.func291.trans (congrArg some (by kernel_rfl)), f227 := Tryz.func218.trans (congrArg some (by kernel_rfl)), f228 := Tryz.func261.trans (congrArg some (by kernel_rfl)), f231 := Tryz.func216.trans (congrArg some (by kernel_rfl)), f232 := Tryz.func217.trans (congrArg some (by kernel_rfl)), f233 := Tryz.func219.trans (congrArg some (by kernel_rfl)), f234 := Tryz.func220.trans (congrArg some (by kernel_rfl)), f235 := Tryz.func221.trans (congrArg some (by kernel_rfl)), f236 := Tryz.func222.trans (congrArg some (by kernel_rfl)), f260 := Tryz.func290.trans (congrArg some (by kernel_rfl)), f266 := Tryz.func269.trans (congrArg some (by kernel_rfl)), f271 := Tryz.func263.trans (congrArg some (by kernel_rfl)), t0 := Tryz.underlying0, a0 := Tryz.isAgg0, z0 := Tryz.sizeOf0, v0 := Tryz.zeroValue0, t3 := Tryz.underlying3, a3 := Tryz.isAgg3, z3 := Tryz.sizeOf3, v3 := Tryz.zeroValue3, t4 := Tryz.underlying4, a4 := Tryz.isAgg4, z4 := Tryz.sizeOf4, v4 := Tryz.zeroValue4, t5 := Tryz.underlying5, a5 := Tryz.isAgg5, z5 := Tryz.sizeOf5, v5 := Tryz.zeroValue5, t9 := Tryz.underlying9, a9 := Tryz.isAgg9, z9 := Tryz.sizeOf9, v9 := Tryz.zeroValue9, t21 := Tryz.underlying21, a21 := Tryz.isAgg21, z21 := Tryz.sizeOf21, v21 := Tryz.zeroValue21, t46 := Tryz.underlying141, a46 := Tryz.isAgg141, z46 := Tryz.sizeOf141, v46 := Tryz.zeroValue141, t105 := Tryz.underlying284, a105 := Tryz.isAgg284, z105 := Tryz.sizeOf284, v105 := Tryz.zeroValue284, t116 := Tryz.underlying258, a116 := Tryz.isAgg258, z116 := Tryz.sizeOf258, t117 := Tryz.underlying259, a117 := Tryz.isAgg259, z117 := Tryz.sizeOf259, v117 := Tryz.zeroValue259, t119 := Tryz.underlying320, a119 := Tryz.isAgg320, z119 := Tryz.sizeOf320, t124 := Tryz.underlying262, a124 := Tryz.isAgg262, z124 := Tryz.sizeOf262, v124 := Tryz.zeroValue262, t138 := Tryz.underlying322, a138 := Tryz.isAgg322, z138 := Tryz.sizeOf322, v138 := Tryz.zeroValue322, t139 := Tryz.underlying323, a139 := Tryz.isAgg323, z139 := Tryz.sizeOf323, v139 := Tryz.zeroValue323, g3 := by kernel_rfl, g4 := by kernel_rfl }
def Tryz.laysSlIndexByte_ren : Go.Shelf.Ren := ⟨fun | 217 => 225 | 266 => 269 | n => n, fun | 9 => 9 | 5 => 5 | 3 => 3 | n => n, fun | n => n⟩
theorem Tryz.laysSlIndexByte : Go.Proofs.Lays.n217 Tryz.prog Tryz.laysSlIndexByte_ren := { mixed := by kernel_rfl, f217 := Tryz.func225.trans (congrArg some (by kernel_rfl)), f266 := Tryz.func269.trans (congrArg some (by kernel_rfl)), t3 := Tryz.underlying3, a3 := Tryz.isAgg3, z3 := Tryz.sizeOf3, v3 := Tryz.zeroValue3, t5 := Tryz.underlying5, a5 := Tryz.isAgg5, z5 := Tryz.sizeOf5, v5 := Tryz.zeroValue5, t9 := Tryz.underlying9, a9 := Tryz.isAgg9, z9 := Tryz.sizeOf9, v9 := Tryz.zeroValue9 }
def Tryz.laysSplit_ren : Go.Shelf.Ren := ⟨fun | 221 => 153 | 268 => 212 | 138 => 213 | 143 => 214 | 195 => 256 | 197 => 257 | 218 => 258 | 219 => 259 | 260 => 290 | 217 => 225 | 225 => 291 | 224 => 292 | 267 => 293 | 266 => 269 | 314 => 318 | n => n, fun | 9 => 9 | 3 => 3 | 31 => 89 | 4 => 4 | 0 => 0 | 105 => 284 | 21 => 21 | 5 => 5 | 46 => 141 | 119 => 320 | 139 => 323 | 138 => 322 | 146 => 324 | 51 => 204 | n => n, fun | 1 => 0 | 3 => 6 | 4 => 7 | n => n⟩
theorem Tryz.laysSplit : Go.Proofs.Lays.n221 Tryz.prog Tryz.laysSplit_ren := { mixed := by kernel_rfl, f138 := Tryz.func213.trans (congrArg some (by kernel_rfl)), f143 := Tryz.func214.trans (congrArg some (by kernel_rfl)), f195 := Tryz.func256.trans (congrArg some (by kernel_rfl)), f197 := Tryz.func257.trans (congrArg some (by kernel_rfl)), f217 := Tryz.func225.trans (congrArg some (by kernel_rfl)), f218 := Tryz.func258.trans (congrArg some (by kernel_rfl)), f219 := Tryz.func259.trans (congrArg some (by kernel_rfl)), f221 := Tryz.func153.trans (congrArg some (by kernel_rfl)), f224 := Tryz.func292.trans (congrArg some (by kernel_rfl)), f225 := Tryz.func291.trans (congrArg some (by kernel_rfl)), f260 := Tryz.func290.trans (congrArg some (by kernel_rfl)), f266 := Tryz.func269.trans (congrArg some (by kernel_rfl)), f267 := Tryz.func293.trans (congrArg some (by kernel_rfl)), f268 := Tryz.func212.trans (congrArg some (by kernel_rfl)), f314 := Tryz.func318.trans (congrArg some (by kernel_rfl)), t0 := Tryz.underlying0, a0 := Tryz.isAgg0, z0 := Tryz.sizeOf0, v0 := Tryz.zeroValue0, t3 := Tryz.underlying3, a3 := Tryz.isAgg3, z3 := Tryz.sizeOf3, v3 := Tryz.zeroValue3, t4 := Tryz.underlying4, a4 := Tryz.isAgg4, z4 := Tryz.sizeOf4, v4 := Tryz.zeroValue4, t5 := Tryz.underlying5, a5 := Tryz.isAgg5, z5 := Tryz.sizeOf5, v5 := Tryz.zeroValue5, t9 := Tryz.underlying9, a9 := Tryz.isAgg9, z9 := Tryz.sizeOf9, v9 := Tryz.zeroValue9, t21 := Tryz.underlying21, a21 := Tryz.isAgg21, z21 := Tryz.sizeOf21, v21 := Tryz.zeroValue21, t31 := Tryz.underlying89, a31 := Tryz.isAgg89, z31 := Tryz.sizeOf89, v31 := Tryz.zeroValue89, t46 := Tryz.underlying141, a46 := Tryz.isAgg141, z46 := Tryz.sizeOf141, v46 := Tryz.zeroValue141, t51 := Tryz.underlying204, a51 := Tryz.isAgg204, z51 := Tryz.sizeOf204, v51 := Tryz.zeroValue204, t105 := Tryz.underlying284, a105 := Tryz.isAgg284, z105 := Tryz.sizeOf284, v105 := Tryz.zeroValue284, t119 := Tryz.underlying320, a119 := Tryz.isAgg320, z119 := Tryz.sizeOf320, t138 := Tryz.underlying322, a138 := Tryz.isAgg322, z138 := Tryz.sizeOf322, v138 := Tryz.zeroValue322, t139 := Tryz.underlying323, a139 := Tryz.isAgg323, z139 := Tryz.sizeOf323, v139 := Tryz.zeroValue323, t146 := Tryz.underlying324, a146 := Tryz.isAgg324, z146 := Tryz.sizeOf324, v146 := Tryz.zeroValue324, g1 := by kernel_rfl, g3 := by kernel_rfl, g4 := by kernel_rfl }
def Tryz.laysAtoi_ren : Go.Shelf.Ren := ⟨fun | 172 => 156 | 244 => 223 | 245 => 224 | 247 => 264 | 279 => 265 | 280 => 266 | 281 => 267 | 282 => 268 | 287 => 295 | 316 => 296 | 171 => 39 | 205 => 297 | 321 => 319 | 322 => 320 | 243 => 92 | 246 => 151 | 283 => 207 | 284 => 208 | 285 => 209 | 286 => 210 | 129 => 146 | 317 => 252 | 318 => 253 | 319 => 254 | 320 => 255 | 337 => 288 | 338 => 289 | n => n, fun | 9 => 9 | 3 => 3 | 75 => 82 | 76 => 83 | 4 => 4 | 5 => 5 | 167 => 287 | 37 => 78 | 0 => 0 | 85 => 288 | 2 => 2 | 168 => 290 | 53 => 206 | 175 => 301 | 46 => 141 | 210 => 304 | 127 => 144 | 145 => 329 | 143 => 327 | 21 => 21 | 171 => 251 | 173 => 253 | 212 => 282 | 51 => 204 | 20 => 20 | 213 => 283 | 232 => 318 | 233 => 319 | 80 => 88 | n => n, fun | 15 => 2 | 16 => 3 | 17 => 1 | 18 => 4 | 19 => 5 | n => n⟩
theorem Tryz.laysAtoi : Go.Proofs.Lays.n172 Tryz.prog Tryz.laysAtoi_ren := { mixed := by kernel_rfl, f129 := Tryz.func146.trans (congrArg some (by kernel_rfl)), f171 := Tryz.func39.trans (congrArg some (by kernel_rfl)), f172 := Tryz.func156.trans (congrArg some (by kernel_rfl)), f205 := Tryz.func297.trans (congrArg some (by kernel_rfl)), f243 := Tryz.func92.trans (congrArg some (by kernel_rfl)), f244 := Tryz.func223.trans (congrArg some (by kernel_rfl)), f245 := Tryz.func224.trans (congrArg some (by kernel_rfl)), f246 := Tryz.func151.trans (congrArg some (by kernel_rfl)), f247 := Tryz.func264.trans (congrArg some (by kernel_rfl)), f279 := Tryz.func265.trans (congrArg some (by kernel_rfl)), f280 := Tryz.func266.trans (congrArg some (by kernel_rfl)), f281 := Tryz.func267.trans (congrArg some (by kernel_rfl)), f282 := Tryz.func268.trans (congrArg some (by kernel_rfl)), f283 := Tryz.func207.trans (congrArg some (by kernel_rfl)), f284 := Tryz.func208.trans (congrArg some (by kernel_rfl)), f285 := Tryz.func209.trans (congrArg some (by kernel_rfl)), f286 := Tryz.func210.trans (congrArg some (by kernel_rfl)), f287 := Tryz.func295.trans (congrArg some (by kernel_rfl)), f316 := Tryz.func296.trans (congrArg some (by kernel_rfl)), f317 := Tryz.func252.trans (congrArg some (by kernel_rfl)), f318 := Tryz.func253.trans (congrArg some (by kernel_rfl)), f319 := Tryz.func254.trans (congrArg some (by kernel_rfl)), f320 := Tryz.func255.trans (congrArg some (by kernel_rfl)), f321 := Tryz.func319.trans (congrArg some (by kernel_rfl)), f322 := Tryz.func320.trans (congrArg some (by kernel_rfl)), f337 := Tryz.func288.trans (congrArg some (by kernel_rfl)), f338 := Tryz.func289.trans (congrArg some (by kernel_rfl)), t0 := Tryz.underlying0, a0 := Tryz.isAgg0, z0 := Tryz.sizeOf0, v0 := Tryz.zeroValue0, t2 := Tryz.underlying2, a2 := Tryz.isAgg2, z2 := Tryz.sizeOf2, v2 := Tryz.zeroValue2, t3 := Tryz.underlying3, a3 := Tryz.isAgg3, z3 := Tryz.sizeOf3, v3 := Tryz.zeroValue3, t4 := Tryz.underlying4, a4 := Tryz.isAgg4, z4 := Tryz.sizeOf4, v4 := Tryz.zeroValue4, t5 := Tryz.underlying5, a5 := Tryz.isAgg5, z5 := Tryz.sizeOf5, v5 := Tryz.zeroValue5, t9 := Tryz.underlying9, a9 := Tryz.isAgg9, z9 := Tryz.sizeOf9, v9 := Tryz.zeroValue9, t20 := Tryz.underlying20, a20 := Tryz.isAgg20, z20 := Tryz.sizeOf20, v20 := Tryz.zeroValue20, t21 := Tryz.underlying21, a21 := Tryz.isAgg21, z21 := Tryz.sizeOf21, v21 := Tryz.zeroValue21, t37 := Tryz.underlying78, a37 := Tryz.isAgg78, z37 := Tryz.sizeOf78, v37 := Tryz.zeroValue78, t46 := Tryz.underlying141, a46 := Tryz.isAgg141, z46 := Tryz.sizeOf141, v46 := Tryz.zeroValue141, t51 := Tryz.underlying204, a51 := Tryz.isAgg204, z51 := Tryz.sizeOf204, v51 := Tryz.zeroValue204, t53 := Tryz.underlying206, a53 := Tryz.isAgg206, z53 := Tryz.sizeOf206, v53 := Tryz.zeroValue206, t75 := Tryz.underlying82, a75 := Tryz.isAgg82, z75 := Tryz.sizeOf82, v75 := Tryz.zeroValue82, t76 := Tryz.underlying83, a76 := Tryz.isAgg83, z76 := Tryz.sizeOf83, v76 := Tryz.zeroValue83, t85 := Tryz.underlying288, a85 := Tryz.isAgg288, z85 := Tryz.sizeOf288, v85 := Tryz.zeroValue288, t127 := Tryz.underlying144, a127 := Tryz.isAgg144, z127 := Tryz.sizeOf144, v127 := Tryz.zeroValue144, t143 := Tryz.underlying327, a143 := Tryz.isAgg327, z143 := Tryz.sizeOf327, v143 := Tryz.zeroValue327, t145 := Tryz.underlying329, a145 := Tryz.isAgg329, z145 := Tryz.sizeOf329, v145 := Tryz.zeroValue329, t167 := Tryz.underlying287, a167 := Tryz.isAgg287, z167 := Tryz.sizeOf287, v167 := Tryz.zeroValue287, t168 := Tryz.underlying290, a168 := Tryz.isAgg290, z168 := Tryz.sizeOf290, v168 := Tryz.zeroValue290, t171 := Tryz.underlying251, a171 := Tryz.isAgg251, z171 := Tryz.sizeOf251, v171 := Tryz.zeroValue251, t173 := Tryz.underlying253, a173 := Tryz.isAgg253, z173 := Tryz.sizeOf253, v173 := Tryz.zeroValue253, t175 := Tryz.underlying301, a175 := Tryz.isAgg301, z175 := Tryz.sizeOf301, v175 := Tryz.zeroValue301, t210 := Tryz.underlying304, a210 := Tryz.isAgg304, z210 := Tryz.sizeOf304, v210 := Tryz.zeroValue304, t212 := Tryz.underlying282, a212 := Tryz.isAgg282, z212 := Tryz.sizeOf282, v212 := Tryz.zeroValue282, t213 := Tryz.underlying283, a213 := Tryz.isAgg283, z213 := Tryz.sizeOf283, t232 := Tryz.underlying318, a232 := Tryz.isAgg318, z232 := Tryz.sizeOf318, v232 := Tryz.zeroValue318, t233 := Tryz.underlying319, a233 := Tryz.isAgg319, z233 := Tryz.sizeOf319, v233 := Tryz.zeroValue319, g15 := by kernel_rfl, g16 := by kernel_rfl, g17 := by kernel_rfl, g18 := by kernel_rfl, g19 := by kernel_rfl }
def Tryz.laysJoin_ren : Go.Shelf.Ren := ⟨fun | 156 => 91 | 165 => 150 | 166 => 37 | 169 => 41 | 240 => 90 | 241 => 206 | 276 => 149 | 277 => 251 | n => n, fun | 31 => 89 | 9 => 9 | 3 => 3 | 4 => 4 | 0 => 0 | 20 => 20 | 72 => 80 | 76 => 83 | 70 => 77 | 37 => 78 | 75 => 82 | 127 => 144 | 164 => 207 | 5 => 5 | 80 => 88 | n => n, fun | n => n⟩
theorem Tryz.laysJoin : Go.Proofs.Lays.n156 Tryz.prog Tryz.laysJoin_ren := { mixed := by kernel_rfl, f156 := Tryz.func91.trans (congrArg some (by kernel_rfl)), f165 := Tryz.func150.trans (congrArg some (by kernel_rfl)), f166 := Tryz.func37.trans (congrArg some (by kernel_rfl)), f169 := Tryz.func41.trans (congrArg some (by kernel_rfl)), f240 := Tryz.func90.trans (congrArg some (by kernel_rfl)), f241 := Tryz.func206.trans (congrArg some (by kernel_rfl)), f276 := Tryz.func149.trans (congrArg some (by kernel_rfl)), f277 := Tryz.func251.trans (congrArg some (by kernel_rfl)), t0 := Tryz.underlying0, a0 := Tryz.isAgg0, z0 := Tryz.sizeOf0, v0 := Tryz.zeroValue0, t3 := Tryz.underlying3, a3 := Tryz.isAgg3, z3 := Tryz.sizeOf3, v3 := Tryz.zeroValue3, t4 := Tryz.underlying4, a4 := Tryz.isAgg4, z4 := Tryz.sizeOf4, v4 := Tryz.zeroValue4, t9 := Tryz.underlying9, a9 := Tryz.isAgg9, z9 := Tryz.sizeOf9, v9 := Tryz.zeroValue9, t20 := Tryz.underlying20, a20 := Tryz.isAgg20, z20 := Tryz.sizeOf20, v20 := Tryz.zeroValue20, t31 := Tryz.underlying89, a31 := Tryz.isAgg89, z31 := Tryz.sizeOf89, v31 := Tryz.zeroValue89, t37 := Tryz.underlying78, a37 := Tryz.isAgg78, z37 := Tryz.sizeOf78, v37 := Tryz.zeroValue78, t70 := Tryz.underlying77, a70 := Tryz.isAgg77, z70 := Tryz.sizeOf77, v70 := Tryz.zeroValue77, t72 := Tryz.underlying80, a72 := Tryz.isAgg80, z72 := Tryz.sizeOf80, v72 := Tryz.zeroValue80, t75 := Tryz.underlying82, a75 := Tryz.isAgg82, z75 := Tryz.sizeOf82, v75 := Tryz.zeroValue82, t76 := Tryz.underlying83, a76 := Tryz.isAgg83, z76 := Tryz.sizeOf83, v76 := Tryz.zeroValue83, t127 := Tryz.underlying144, a127 := Tryz.isAgg144, z127 := Tryz.sizeOf144, v127 := Tryz.zeroValue144, t164 := Tryz.underlying207, a164 := Tryz.isAgg207, z164 := Tryz.sizeOf207, v164 := Tryz.zeroValue207 }
def Tryz.laysBldW_ren : Go.Shelf.Ren := ⟨fun | 166 => 37 | 240 => 90 | 276 => 149 | n => n, fun | 70 => 77 | 9 => 9 | 3 => 3 | 75 => 82 | 0 => 0 | 72 => 80 | 37 => 78 | 4 => 4 | 164 => 207 | 80 => 88 | 5 => 5 | n => n, fun | n => n⟩
theorem Tryz.laysBldW : Go.Proofs.Lays.n166 Tryz.prog Tryz.laysBldW_ren := { mixed := by kernel_rfl, f166 := Tryz.func37.trans (congrArg some (by kernel_rfl)), f240 := Tryz.func90.trans (congrArg some (by kernel_rfl)), f276 := Tryz.func149.trans (congrArg some (by kernel_rfl)), t0 := Tryz.underlying0, a0 := Tryz.isAgg0, z0 := Tryz.sizeOf0, v0 := Tryz.zeroValue0, t3 := Tryz.underlying3, a3 := Tryz.isAgg3, z3 := Tryz.sizeOf3, v3 := Tryz.zeroValue3, t4 := Tryz.underlying4, a4 := Tryz.isAgg4, z4 := Tryz.sizeOf4, v4 := Tryz.zeroValue4, t9 := Tryz.underlying9, a9 := Tryz.isAgg9, z9 := Tryz.sizeOf9, v9 := Tryz.zeroValue9, t20 := Tryz.underlying20, a20 := Tryz.isAgg20, z20 := Tryz.sizeOf20, v20 := Tryz.zeroValue20, t37 := Tryz.underlying78, a37 := Tryz.isAgg78, z37 := Tryz.sizeOf78, v37 := Tryz.zeroValue78, t70 := Tryz.underlying77, a70 := Tryz.isAgg77, z70 := Tryz.sizeOf77, v70 := Tryz.zeroValue77, t72 := Tryz.underlying80, a72 := Tryz.isAgg80, z72 := Tryz.sizeOf80, v72 := Tryz.zeroValue80, t75 := Tryz.underlying82, a75 := Tryz.isAgg82, z75 := Tryz.sizeOf82, v75 := Tryz.zeroValue82, t164 := Tryz.underlying207, a164 := Tryz.isAgg207, z164 := Tryz.sizeOf207, v164 := Tryz.zeroValue207 }
def Tryz.laysBldL_ren : Go.Shelf.Ren := ⟨fun | 170 => 40 | n => n, fun | 70 => 77 | 3 => 3 | 0 => 0 | 72 => 80 | 37 => 78 | 5 => 5 | n => n, fun | n => n⟩
theorem Tryz.laysBldL : Go.Proofs.Lays.n170 Tryz.prog Tryz.laysBldL_ren := { mixed := by kernel_rfl, f170 := Tryz.func40.trans (congrArg some (by kernel_rfl)), t0 := Tryz.underlying0, a0 := Tryz.isAgg0, z0 := Tryz.sizeOf0, v0 := Tryz.zeroValue0, t3 := Tryz.underlying3, a3 := Tryz.isAgg3, z3 := Tryz.sizeOf3, v3 := Tryz.zeroValue3, t37 := Tryz.underlying78, a37 := Tryz.isAgg78, z37 := Tryz.sizeOf78, v37 := Tryz.zeroValue78, t70 := Tryz.underlying77, a70 := Tryz.isAgg77, z70 := Tryz.sizeOf77, v70 := Tryz.zeroValue77, t72 := Tryz.underlying80, a72 := Tryz.isAgg80, z72 := Tryz.sizeOf80, v72 := Tryz.zeroValue80 }
def Tryz.laysBldS_ren : Go.Shelf.Ren := ⟨fun | 169 => 41 | n => n, fun | 70 => 77 | 9 => 9 | 0 => 0 | 72 => 80 | 37 => 78 | 127 => 144 | 3 => 3 | 5 => 5 | n => n, fun | n => n⟩
theorem Tryz.laysBldS : Go.Proofs.Lays.n169 Tryz.prog Tryz.laysBldS_ren := { mixed := by kernel_rfl, f169 := Tryz.func41.trans (congrArg some (by kernel_rfl)), t0 := Tryz.underlying0, a0 := Tryz.isAgg0, z0 := Tryz.sizeOf0, v0 := Tryz.zeroValue0, t3 := Tryz.underlying3, a3 := Tryz.isAgg3, z3 := Tryz.sizeOf3, v3 := Tryz.zeroValue3, t9 := Tryz.underlying9, a9 := Tryz.isAgg9, z9 := Tryz.sizeOf9, v9 := Tryz.zeroValue9, t37 := Tryz.underlying78, a37 := Tryz.isAgg78, z37 := Tryz.sizeOf78, v37 := Tryz.zeroValue78, t70 := Tryz.underlying77, a70 := Tryz.isAgg77, z70 := Tryz.sizeOf77, v70 := Tryz.zeroValue77, t72 := Tryz.underlying80, a72 := Tryz.isAgg80, z72 := Tryz.sizeOf80, v72 := Tryz.zeroValue80, t127 := Tryz.underlying144, a127 := Tryz.isAgg144, z127 := Tryz.sizeOf144, v127 := Tryz.zeroValue144 }
def Tryz.laysItoa_ren : Go.Shelf.Ren := ⟨fun | 171 => 39 | 243 => 92 | 246 => 151 | 283 => 207 | 284 => 208 | 285 => 209 | 286 => 210 | 129 => 146 | 317 => 252 | 318 => 253 | 319 => 254 | 320 => 255 | 337 => 288 | 338 => 289 | n => n, fun | 3 => 3 | 9 => 9 | 2 => 2 | 4 => 4 | 171 => 251 | 0 => 0 | 53 => 206 | 37 => 78 | 5 => 5 | 173 => 253 | 212 => 282 | 51 => 204 | 20 => 20 | 213 => 283 | 46 => 141 | 232 => 318 | 233 => 319 | n => n, fun | 17 => 1 | 18 => 4 | 19 => 5 | n => n⟩
theorem Tryz.laysItoa : Go.Proofs.LaysM.n171 Tryz.prog Tryz.laysItoa_ren := { mixed := by kernel_rfl, f129 := Tryz.func146.trans (congrArg some (by kernel_rfl)), f171 := Tryz.func39.trans (congrArg some (by kernel_rfl)), f243 := Tryz.func92.trans (congrArg some (by kernel_rfl)), f246 := Tryz.func151.trans (congrArg some (by kernel_rfl)), f283 := Tryz.func207.trans (congrArg some (by kernel_rfl)), f284 := Tryz.func208.trans (congrArg some (by kernel_rfl)), f285 := Tryz.func209.trans (congrArg some (by kernel_rfl)), f286 := Tryz.func210.trans (congrArg some (by kernel_rfl)), f317 := Tryz.func252.trans (congrArg some (by kernel_rfl)), f318 := Tryz.func253.trans (congrArg some (by kernel_rfl)), f319 := Tryz.func254.trans (congrArg some (by kernel_rfl)), f320 := Tryz.func255.trans (congrArg some (by kernel_rfl)), f337 := Tryz.func288.trans (congrArg some (by kernel_rfl)), f338 := Tryz.func289.trans (congrArg some (by kernel_rfl)), t0 := Tryz.underlying0, a0 := Tryz.isAgg0, z0 := Tryz.sizeOf0, v0 := Tryz.zeroValue0, t2 := Tryz.underlying2, a2 := Tryz.isAgg2, z2 := Tryz.sizeOf2, v2 := Tryz.zeroValue2, t3 := Tryz.underlying3, a3 := Tryz.isAgg3, z3 := Tryz.sizeOf3, v3 := Tryz.zeroValue3, t4 := Tryz.underlying4, a4 := Tryz.isAgg4, z4 := Tryz.sizeOf4, v4 := Tryz.zeroValue4, t5 := Tryz.underlying5, a5 := Tryz.isAgg5, z5 := Tryz.sizeOf5, v5 := Tryz.zeroValue5, t9 := Tryz.underlying9, a9 := Tryz.isAgg9, z9 := Tryz.sizeOf9, v9 := Tryz.zeroValue9, t20 := Tryz.underlying20, a20 := Tryz.isAgg20, z20 := Tryz.sizeOf20, v20 := Tryz.zeroValue20, t37 := Tryz.underlying78, a37 := Tryz.isAgg78, z37 := Tryz.sizeOf78, v37 := Tryz.zeroValue78, t46 := Tryz.underlying141, a46 := Tryz.isAgg141, z46 := Tryz.sizeOf141, v46 := Tryz.zeroValue141, t51 := Tryz.underlying204, a51 := Tryz.isAgg204, z51 := Tryz.sizeOf204, v51 := Tryz.zeroValue204, t53 := Tryz.underlying206, a53 := Tryz.isAgg206, z53 := Tryz.sizeOf206, v53 := Tryz.zeroValue206, t171 := Tryz.underlying251, a171 := Tryz.isAgg251, z171 := Tryz.sizeOf251, v171 := Tryz.zeroValue251, t173 := Tryz.underlying253, a173 := Tryz.isAgg253, z173 := Tryz.sizeOf253, v173 := Tryz.zeroValue253, t212 := Tryz.underlying282, a212 := Tryz.isAgg282, z212 := Tryz.sizeOf282, v212 := Tryz.zeroValue282, t213 := Tryz.underlying283, a213 := Tryz.isAgg283, z213 := Tryz.sizeOf283, t232 := Tryz.underlying318, a232 := Tryz.isAgg318, z232 := Tryz.sizeOf318, v232 := Tryz.zeroValue318, t233 := Tryz.underlying319, a233 := Tryz.isAgg319, z233 := Tryz.sizeOf319, v233 := Tryz.zeroValue319, g17 := by kernel_rfl, g18 := by kernel_rfl, g19 := by kernel_rfl, i0 := by kernel_rfl, i2 := by kernel_rfl, i3 := by kernel_rfl, i4 := by kernel_rfl, i5 := by kernel_rfl, i9 := by kernel_rfl, i20 := by kernel_rfl, i37 := by kernel_rfl, i46 := by kernel_rfl, i51 := by kernel_rfl, i53 := by kernel_rfl, i171 := by kernel_rfl, i173 := by kernel_rfl, i212 := by kernel_rfl, i232 := by kernel_rfl, i233 := by kernel_rfl, m17 := by kernel_rfl, m18 := by kernel_rfl, m19 := by kernel_rfl }
theorem Tryz.laysJoin_x : Builder.Extra Tryz.prog Tryz.laysJoin_ren where
 sizeBuilder := by kernel_rfl
 liesBuilder := by kernel_rfl
 t5 := Tryz.underlying5
 a5 := Tryz.isAgg5
 z5 := Tryz.sizeOf5
 v5 := Tryz.zeroValue5
 infoByte := by kernel_rfl
 cellsByte := by kernel_rfl
 sizeByte := by kernel_rfl
 neB5 := by decide
theorem Tryz.laysBldW_x : Builder.Extra Tryz.prog Tryz.laysBldW_ren where
 sizeBuilder := by kernel_rfl
 liesBuilder := by kernel_rfl
 t5 := Tryz.underlying5
 a5 := Tryz.isAgg5
 z5 := Tryz.sizeOf5
 v5 := Tryz.zeroValue5
 infoByte := by kernel_rfl
 cellsByte := by kernel_rfl
 sizeByte := by kernel_rfl
 neB5 := by decide
theorem Tryz.laysBldS_x : Builder.Extra Tryz.prog Tryz.laysBldS_ren where
 sizeBuilder := by kernel_rfl
 liesBuilder := by kernel_rfl
 t5 := Tryz.underlying5
 a5 := Tryz.isAgg5
 z5 := Tryz.sizeOf5
 v5 := Tryz.zeroValue5
 infoByte := by kernel_rfl
 cellsByte := by kernel_rfl
 sizeByte := by kernel_rfl
 neB5 := by decide
end Go.Proofs
namespace Go.Proofs.SYtchcbaapbinpbaaGreatDoor
open Go Go.AL Go.Proofs
noncomputable section
abbrev P : Program := Tryz.prog
attribute [instance] drT
theorem hm : P.follows .mixedOrders = true := Tryz.checked.mixed
def cmpS (a b : ByteArray) : Int := Lib.compareBytes a.data.toList b.data.toList
def idxB (s : ByteArray) (c : Int) : Int := Lib.indexByte s.data.toList c.toNat.toUInt8
def trimB (s cut : ByteArray) : ByteArray := ⟨(Lib.trimS s.data.toList cut.data.toList).toArray⟩
def itoaZ (n : Int) : ByteArray := ⟨(Lib.itoa n).toArray⟩
def itoaB (n : Int) : ByteArray := ⟨(Lib.decDigits n.toNat).toArray⟩
def ascii (cut : ByteArray) : Bool := cut.data.toList.all fun b => Nat.blt b.toNat 128
def eqS (a b : ByteArray) : Bool := a.data.toList == b.data.toList
theorem eqS_eq {a b : ByteArray} (h : eqS a b = true) : a = b := by
 unfold eqS at h
 rw [beq_iff_eq] at h
 cases a with
 | mk a =>
  cases b with
  | mk b =>
   congr 1
   exact Array.ext' h
def lookS {α : Type} : List (ByteArray × α) → ByteArray → Option α
 | [], _ => none
 | (k, v) :: l, s => bif eqS k s then some v else lookS l s
theorem lookS_mem {α : Type} {s : ByteArray} {v : α} : ∀ {l : List (ByteArray × α)}, lookS l s = some v → (s, v) ∈ l
 | [], h => by cases h
 | (k, u) :: l, h => by
  simp only [lookS] at h
  cases hk : eqS k s with
  | true =>
   rw [hk] at h
   cases h
   rw [eqS_eq hk]
   exact List.mem_cons_self
  | false =>
   rw [hk] at h
   exact List.mem_cons_of_mem _ (lookS_mem h)
abbrev KSpot : List Kd := [.int .i64, .int .i64, .str, .str]
abbrev KCt : List Kd := [.int .i64, .int .i64, .str, .str, .int .i64, .int .i64, .str, .str]
abbrev KDeed : List Kd := [.str, .int .i64, .int .i64, .int .i64, .int .i64, .int .i64, .str, .str, .int .i64, .int .i64, .str, .str, .str, .str, .int .i64]
abbrev KSegment : List Kd := [.str, .int .i64, .int .i64, .list [.int .i64], .int .i64, .int .i64]
abbrev KEntrant : List Kd := [.str, .str, .int .i64, .str]
abbrev KPlace : List Kd := [.int .i64, .int .i64, .str]
abbrev KParts : List Kd := [.str, .str, .str, .int .i64, .str]
def t0 : Tab := tabM []
theorem t0_ok : TabOK P t0 := tabM_ok P _
def F_strings_Compare (d : List G) : Option (List G) := some [.i (cmpS (gi d 0).str (gi d 1).str)]
def s_strings_Compare : FSpec := ⟨89, [.s (.str), .s (.str)], [], [], [.s (.int .i64)], [], [], [], F_strings_Compare⟩
theorem c_strings_Compare : ∀ d r, F_strings_Compare d = some r → ACallX P 89 (s_strings_Compare.args0 d) (denH (s_strings_Compare.H0 d)) (s_strings_Compare.out r) (denH (s_strings_Compare.H1 r)) := fun d r h => by
 cases h
 exact (pcall_lits (vs := [.string (gi d 0).str, .string (gi d 1).str]) fun w => (Proofs.Any.strings_Compare Tryz.laysCompare (gi d 0).str (gi d 1).str w).mono fun e w' h => ⟨h.1, h.2 ▸ Ext.refl w⟩) []
def t1 : Tab := t0.addP s_strings_Compare
theorem t1_ok : TabOK P t1 := t0_ok.aP c_strings_Compare
def F_strings_IndexByte (d : List G) : Option (List G) := some [.i (idxB (gi d 0).str (gi d 1).int)]
def s_strings_IndexByte : FSpec := ⟨161, [.s (.str), .s (.int .u8)], [], [], [.s (.int .i64)], [], [], [], F_strings_IndexByte⟩
theorem c_strings_IndexByte : ∀ d r, F_strings_IndexByte d = some r → ACallX P 161 (s_strings_IndexByte.args0 d) (denH (s_strings_IndexByte.H0 d)) (s_strings_IndexByte.out r) (denH (s_strings_IndexByte.H1 r)) := fun d r h => by
 cases h
 exact (pcall_lits (vs := [.string (gi d 0).str, .int .u8 (gi d 1).int]) fun w => (Proofs.Any.strings_IndexByte Tryz.laysIndexByte (gi d 0).str (gi d 1).int w).mono fun e w' h => ⟨h.1, h.2 ▸ Ext.refl w⟩) []
def t2 : Tab := t1.addP s_strings_IndexByte
theorem t2_ok : TabOK P t2 := t1_ok.aP c_strings_IndexByte
def F_strconv_Itoa (d : List G) : Option (List G) := bif (leI (-9223372036854775808) (gi d 0).int && leI (gi d 0).int 9223372036854775807) then some [.s (itoaZ (gi d 0).int)] else none
def s_strconv_Itoa : FSpec := ⟨39, [.s (.int .i64)], [], [], [.s (.str)], [], [], [], F_strconv_Itoa⟩
theorem c_strconv_Itoa : ∀ d r, F_strconv_Itoa d = some r → ACallX P 39 (s_strconv_Itoa.args0 d) (denH (s_strconv_Itoa.H0 d)) (s_strconv_Itoa.out r) (denH (s_strconv_Itoa.H1 r)) := fun d r h => by
 unfold F_strconv_Itoa at h
 cases hb : (leI (-9223372036854775808) (gi d 0).int && leI (gi d 0).int 9223372036854775807) with
 | false => rw [hb] at h; cases h
 | true =>
  rw [hb] at h
  cases h
  simp only [Bool.and_eq_true, leI_eq, decide_eq_true_eq] at hb
  have key : PCall P 39 [.lit (.int .i64 (gi d 0).int)] (.lit (.string (itoaZ (gi d 0).int))) :=
   pcall_litsT (vs := [.int .i64 (gi d 0).int]) fun E hE => (Proofs.Any.strconv_Itoa Tryz.laysItoa (gi d 0).int hb.1 hb.2 E.w (tabIs_of hE (g := 1) (by kernel_rfl) (List.mem_singleton.2 rfl))).mono fun e' w' h => ⟨h.1, by
    obtain ⟨q, os, rfl⟩ := h.2
    exact ext_growG _ q os⟩
  exact key []
def t3 : Tab := t2.addP s_strconv_Itoa
theorem t3_ok : TabOK P t3 := t2_ok.aP c_strconv_Itoa
def F_strings_Trim (d : List G) : Option (List G) := bif (ascii (gi d 1).str && (Nat.ble 2 (gi d 1).str.size && (Nat.blt (gi d 1).str.size 4294967281 && (Nat.ble 1 (gi d 0).str.size && Nat.ble (gi d 0).str.size 9223372036854775807)))) then some [.s (trimB (gi d 0).str (gi d 1).str)] else none
def s_strings_Trim : FSpec := ⟨155, [.s (.str), .s (.str)], [], [], [.s (.str)], [], [], [], F_strings_Trim⟩
theorem c_strings_Trim : ∀ d r, F_strings_Trim d = some r → ACallX P 155 (s_strings_Trim.args0 d) (denH (s_strings_Trim.H0 d)) (s_strings_Trim.out r) (denH (s_strings_Trim.H1 r)) := fun d r h => by
 unfold F_strings_Trim at h
 cases hb : (ascii (gi d 1).str && (Nat.ble 2 (gi d 1).str.size && (Nat.blt (gi d 1).str.size 4294967281 && (Nat.ble 1 (gi d 0).str.size && Nat.ble (gi d 0).str.size 9223372036854775807)))) with
 | false => rw [hb] at h; cases h
 | true =>
  rw [hb] at h
  cases h
  simp only [Bool.and_eq_true, Nat.blt_eq, Nat.ble_eq] at hb
  have hz : (Tryz.prog.info? (Tryz.laysTrim_ren.t 116)).map (fun i => (i.zero, i.size)) = some (some (.agg (Array.replicate 256 (.bool false))), 256) := by kernel_rfl
  exact (pcall_lits (vs := [.string (gi d 0).str, .string (gi d 1).str]) fun w => (Proofs.Any.strings_Trim_set Tryz.laysTrim (zero_of_info hz).1 (zero_of_info hz).2 (gi d 0).str (gi d 1).str w hb.2.1 hb.2.2.2.1 hb.2.2.2.2 hb.2.2.1 fun j b hj => by
   have := List.all_eq_true.1 hb.1 b (List.mem_of_getElem? hj)
   simpa [Nat.blt_eq] using this).mono fun _ _ h => ⟨h.1, by
    obtain ⟨_, q, rfl⟩ := h
    exact ((Ext.push w _).trans (Ext.push _ _)).trans (Ext.drawn _ _ (Nat.le_add_right _ _))⟩) []
def t4 : Tab := t3.addP s_strings_Trim
theorem t4_ok : TabOK P t4 := t3_ok.aP c_strings_Trim
def F_stringslite_IndexByte (d : List G) : Option (List G) := some [.i (idxB (gi d 0).str (gi d 1).int)]
def s_stringslite_IndexByte : FSpec := ⟨225, [.s (.str), .s (.int .u8)], [], [], [.s (.int .i64)], [], [], [], F_stringslite_IndexByte⟩
theorem c_stringslite_IndexByte : ∀ d r, F_stringslite_IndexByte d = some r → ACallX P 225 (s_stringslite_IndexByte.args0 d) (denH (s_stringslite_IndexByte.H0 d)) (s_stringslite_IndexByte.out r) (denH (s_stringslite_IndexByte.H1 r)) := fun d r h => by
 cases h
 exact (pcall_lits (vs := [.string (gi d 0).str, .int .u8 (gi d 1).int]) fun w => (Proofs.Any.stringslite_IndexByte Tryz.laysSlIndexByte (gi d 0).str (gi d 1).int w).mono fun e w' h => ⟨h.1, h.2 ▸ Ext.refl w⟩) []
def t5 : Tab := t4.addP s_stringslite_IndexByte
theorem t5_ok : TabOK P t5 := t4_ok.aP c_stringslite_IndexByte
end
end Go.Proofs.SYtchcbaapbinpbaaGreatDoor
