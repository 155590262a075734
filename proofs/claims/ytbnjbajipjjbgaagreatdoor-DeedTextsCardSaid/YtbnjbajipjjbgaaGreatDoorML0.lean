/-
 What is proved here: functions of the program as functions on data. No condition.
-/
import Derived.Test.YtbnjbajipjjbgaaGreatDoorMU
import Derived.Shelf.Strings.BuilderX
import Derived.Test.YtbnjbajipjjbgaaGreatDoorMG
import Derived.Test.YtbnjbajipjjbgaaGreatDoorChecked
import Derived.Shelf.Small.Strs
import Derived.Shelf.Strconv.Itoa3
import Derived.Shelf.Strings.Search1
import Derived.Shelf.Strings.SlTrimAscii
namespace Go.AL
section
variable [Dr]
theorem TabOK.aP {P:Program} {τ:Tab} (h:TabOK P τ) {sp:FSpec} (hc:COK P sp) (hb:hasBody P sp.f=true:=by kernel_rfl) (hp:PureSp sp=true:=by kernel_rfl):TabOK P (τ.addP sp):=h.addP hb hp hc
theorem TabOK.aW {P:Program} {τ:Tab} (h:TabOK P τ) {sp:FSpec} (hc:COK P sp) (hb:hasBody P sp.f=true:=by kernel_rfl) (hp:EffSp sp=true:=by kernel_rfl):TabOK P (τ.addW sp):=h.addW hb hp hc
theorem LpK.a {P:Program} {τ:Tab} {m:Nat} {L:LT} (hm:P.follows .mixedOrders=true) (ht:TabOK P τ) {fn:Func} {sp:LSpec} (hL:LpK P m L (bodyOf fn)) (hr:RoundOK P τ L m (loopAt fn sp.key) sp) (hn:nodupB ((loopsIn (bodyOf fn)).map (·.1))=true:=by kernel_rfl):LpK P m (L.add m sp) (bodyOf fn):=LpK.add hm ht hn hL hr
theorem LpK.aC {P:Program} {τ:Tab} {m:Nat} {L:LT} (hm:P.follows .mixedOrders=true) (ht:TabOK P τ) {fn:Func} {sp:LSpec} (hL:LpK P m L (bodyOf fn)) (hr:CutOK P τ L m (cutAt fn sp.key) sp) (hn:oneKey sp.key (cutsIn (bodyOf fn))=true:=by kernel_rfl):LpK P m (L.addCut m sp) (bodyOf fn):=LpK.addCut hm ht hn hL hr
theorem bdC {P:Program} {τ:Tab} {L:LT} (hm:P.follows .mixedOrders=true) (ht:TabOK P τ) {sp:FSpec} {fn:Func} (hf:P.funcs[sp.f]? = some fn) (hL:LpK P sp.objs.length L (bodyOf fn)) (hB:BodyOK P τ L fn sp) (hb:fn.body.isSome=true:=by kernel_rfl) (hfr:fresh0 sp.objs=true:=by kernel_rfl):COK P sp:=bodyC hm ht hf hb hL hB hfr
end
end Go.AL
set_option linter.all false
namespace Go.Proofs
open Go.Shelf Go.RowKit
set_option maxHeartbeats 4000000
def Tryz.laysCompare_ren:Go.Shelf.Ren:=⟨fun | 106=>49 | 213=>82 | 265=>111 | n=>n,fun | 9=>9 | 3=>3 | n=>n,fun | n=>n⟩
theorem Tryz.laysCompare:Go.Proofs.Lays.n106 Tryz.prog Tryz.laysCompare_ren:={ mixed:=by kernel_rfl,f106:=Tryz.func49.trans (congrArg some (by kernel_rfl)),f213:=Tryz.func82.trans (congrArg some (by kernel_rfl)),f265:=Tryz.func111.trans (congrArg some (by kernel_rfl)),t3:=Tryz.underlying3,a3:=Tryz.isAgg3,z3:=Tryz.sizeOf3,v3:=Tryz.zeroValue3,t9:=Tryz.underlying9,a9:=Tryz.isAgg9,z9:=Tryz.sizeOf9,v9:=Tryz.zeroValue9 }
def Tryz.laysIndexByte_ren:Go.Shelf.Ren:=⟨fun | 137=>103 | 217=>134 | 266=>165 | n=>n,fun | 9=>9 | 5=>5 | 3=>3 | n=>n,fun | n=>n⟩
theorem Tryz.laysIndexByte:Go.Proofs.Lays.n137 Tryz.prog Tryz.laysIndexByte_ren:={ mixed:=by kernel_rfl,f137:=Tryz.func103.trans (congrArg some (by kernel_rfl)),f217:=Tryz.func134.trans (congrArg some (by kernel_rfl)),f266:=Tryz.func165.trans (congrArg some (by kernel_rfl)),t3:=Tryz.underlying3,a3:=Tryz.isAgg3,z3:=Tryz.sizeOf3,v3:=Tryz.zeroValue3,t5:=Tryz.underlying5,a5:=Tryz.isAgg5,z5:=Tryz.sizeOf5,v5:=Tryz.zeroValue5,t9:=Tryz.underlying9,a9:=Tryz.isAgg9,z9:=Tryz.sizeOf9,v9:=Tryz.zeroValue9 }
def Tryz.laysTrim_ren:Go.Shelf.Ren:=⟨fun | 160=>100 | 232=>126 | 231=>125 | 227=>127 | 234=>129 | 233=>128 | 236=>131 | 235=>130 | 228=>159 | 271=>161 | 151=>160 | 197=>157 | 120=>184 | 152=>183 | 260=>182 | 137=>103 | 119=>201 | 224=>163 | 225=>162 | 217=>134 | 266=>165 | n=>n,fun | 9=>9 | 4=>4 | 3=>3 | 5=>5 | 117=>137 | 116=>136 | 0=>0 | 124=>140 | 21=>21 | 105=>163 | 46=>122 | 119=>196 | 139=>199 | 138=>198 | n=>n,fun | 3=>6 | 4=>7 | n=>n⟩
theorem Tryz.laysTrim:Go.Proofs.Lays.n160 Tryz.prog Tryz.laysTrim_ren:={ mixed:=by kernel_rfl,f119:=Tryz.func201.trans (congrArg some (by kernel_rfl)),f120:=Tryz.func184.trans (congrArg some (by kernel_rfl)),f137:=Tryz.func103.trans (congrArg some (by kernel_rfl)),f151:=Tryz.func160.trans (congrArg some (by kernel_rfl)),f152:=Tryz.func183.trans (congrArg some (by kernel_rfl)),f160:=Tryz.func100.trans (congrArg some (by kernel_rfl)),f197:=Tryz.func157.trans (congrArg some (by kernel_rfl)),f217:=Tryz.func134.trans (congrArg some (by kernel_rfl)),f224:=Tryz.func163.trans (congrArg some (by kernel_rfl)),f225:=Tryz.func162.trans (congrArg some (by kernel_rfl)),f227:=Tryz.func127.trans (congrArg some (by kernel_rfl)),f228:=Tryz.func159.trans (congrArg some (by kernel_rfl)),f231:=Tryz.func125.trans (congrArg some (by kernel_rfl)),f232:=Tryz.func126.trans (congrArg some (by kernel_rfl)),f233:=Tryz.func128.trans (congrArg some (by kernel_rfl)),f234:=Tryz.func129.trans (congrArg some (by kernel_rfl)),f235:=Tryz.func130.trans (congrArg some (by kernel_rfl)),f236:=Tryz.func131.trans (congrArg some (by kernel_rfl)),f260:=Tryz.func182.trans (congrArg some (by kernel_rfl)),f266:=Tryz.func165.trans (congrArg some (by kernel_rfl)),f271:=Tryz.func161.trans (congrArg some (by kernel_rfl)),t0:=Tryz.underlying0,a0:=Tryz.isAgg0,z0:=Tryz.sizeOf0,v0:=Tryz.zeroValue0,t3:=Tryz.underlying3,a3:=Tryz.isAgg3,z3:=Tryz.sizeOf3,v3:=Tryz.zeroValue3,t4:=Tryz.underlying4,a4:=Tryz.isAgg4,z4:=Tryz.sizeOf4,v4:=Tryz.zeroValue4,t5:=Tryz.underlying5,a5:=Tryz.isAgg5,z5:=Tryz.sizeOf5,v5:=Tryz.zeroValue5,t9:=Tryz.underlying9,a9:=Tryz.isAgg9,z9:=Tryz.sizeOf9,v9:=Tryz.zeroValue9,t21:=Tryz.underlying21,a21:=Tryz.isAgg21,z21:=Tryz.sizeOf21,v21:=Tryz.zeroValue21,t46:=Tryz.underlying122,a46:=Tryz.isAgg122,z46:=Tryz.sizeOf122,v46:=Tryz.zeroValue122,t105:=Tryz.underlying163,a105:=Tryz.isAgg163,z105:=Tryz.sizeOf163,v105:=Tryz.zeroValue163,t116:=Tryz.underlying136,a116:=Tryz.isAgg136,z116:=Tryz.sizeOf136,t117:=Tryz.underlying137,a117:=Tryz.isAgg137,z117:=Tryz.sizeOf137,v117:=Tryz.zeroValue137,t119:=Tryz.underlying196,a119:=Tryz.isAgg196,z119:=Tryz.sizeOf196,t124:=Tryz.underlying140,a124:=Tryz.isAgg140,z124:=Tryz.sizeOf140,v124:=Tryz.zeroValue140,t138:=Tryz.underlying198,a138:=Tryz.isAgg198,z138:=Tryz.sizeOf198,v138:=Tryz.zeroValue198,t139:=Tryz.underlying199,a139:=Tryz.isAgg199,z139:=Tryz.sizeOf199,v139:=Tryz.zeroValue199,g3:=by kernel_rfl,g4:=by kernel_rfl }
def Tryz.laysSlIndexByte_ren:Go.Shelf.Ren:=⟨fun | 217=>134 | 266=>165 | n=>n,fun | 9=>9 | 5=>5 | 3=>3 | n=>n,fun | n=>n⟩
theorem Tryz.laysSlIndexByte:Go.Proofs.Lays.n217 Tryz.prog Tryz.laysSlIndexByte_ren:={ mixed:=by kernel_rfl,f217:=Tryz.func134.trans (congrArg some (by kernel_rfl)),f266:=Tryz.func165.trans (congrArg some (by kernel_rfl)),t3:=Tryz.underlying3,a3:=Tryz.isAgg3,z3:=Tryz.sizeOf3,v3:=Tryz.zeroValue3,t5:=Tryz.underlying5,a5:=Tryz.isAgg5,z5:=Tryz.sizeOf5,v5:=Tryz.zeroValue5,t9:=Tryz.underlying9,a9:=Tryz.isAgg9,z9:=Tryz.sizeOf9,v9:=Tryz.zeroValue9 }
def Tryz.laysSlIndex_ren:Go.Shelf.Ren:=⟨fun | 219=>132 | 217=>134 | 225=>162 | 224=>163 | 267=>164 | 266=>165 | 314=>185 | n=>n,fun | 9=>9 | 3=>3 | 4=>4 | 5=>5 | 46=>122 | 146=>180 | 51=>160 | n=>n,fun | 1=>0 | n=>n⟩
theorem Tryz.laysSlIndex:Go.Proofs.Lays.n219 Tryz.prog Tryz.laysSlIndex_ren:={ mixed:=by kernel_rfl,f217:=Tryz.func134.trans (congrArg some (by kernel_rfl)),f219:=Tryz.func132.trans (congrArg some (by kernel_rfl)),f224:=Tryz.func163.trans (congrArg some (by kernel_rfl)),f225:=Tryz.func162.trans (congrArg some (by kernel_rfl)),f266:=Tryz.func165.trans (congrArg some (by kernel_rfl)),f267:=Tryz.func164.trans (congrArg some (by kernel_rfl)),f314:=Tryz.func185.trans (congrArg some (by kernel_rfl)),t3:=Tryz.underlying3,a3:=Tryz.isAgg3,z3:=Tryz.sizeOf3,v3:=Tryz.zeroValue3,t4:=Tryz.underlying4,a4:=Tryz.isAgg4,z4:=Tryz.sizeOf4,v4:=Tryz.zeroValue4,t5:=Tryz.underlying5,a5:=Tryz.isAgg5,z5:=Tryz.sizeOf5,v5:=Tryz.zeroValue5,t9:=Tryz.underlying9,a9:=Tryz.isAgg9,z9:=Tryz.sizeOf9,v9:=Tryz.zeroValue9,t46:=Tryz.underlying122,a46:=Tryz.isAgg122,z46:=Tryz.sizeOf122,v46:=Tryz.zeroValue122,t51:=Tryz.underlying160,a51:=Tryz.isAgg160,z51:=Tryz.sizeOf160,v51:=Tryz.zeroValue160,t146:=Tryz.underlying180,a146:=Tryz.isAgg180,z146:=Tryz.sizeOf180,v146:=Tryz.zeroValue180,g1:=by kernel_rfl }
def Tryz.laysRune_ren:Go.Shelf.Ren:=⟨fun | 152=>183 | 137=>103 | 119=>201 | 224=>163 | 225=>162 | 217=>134 | 266=>165 | n=>n,fun | 9=>9 | 21=>21 | 3=>3 | 4=>4 | 5=>5 | 0=>0 | 46=>122 | n=>n,fun | n=>n⟩
theorem Tryz.laysRune:Go.Proofs.Lays.n152 Tryz.prog Tryz.laysRune_ren:={ mixed:=by kernel_rfl,f119:=Tryz.func201.trans (congrArg some (by kernel_rfl)),f137:=Tryz.func103.trans (congrArg some (by kernel_rfl)),f152:=Tryz.func183.trans (congrArg some (by kernel_rfl)),f217:=Tryz.func134.trans (congrArg some (by kernel_rfl)),f224:=Tryz.func163.trans (congrArg some (by kernel_rfl)),f225:=Tryz.func162.trans (congrArg some (by kernel_rfl)),f266:=Tryz.func165.trans (congrArg some (by kernel_rfl)),t0:=Tryz.underlying0,a0:=Tryz.isAgg0,z0:=Tryz.sizeOf0,v0:=Tryz.zeroValue0,t3:=Tryz.underlying3,a3:=Tryz.isAgg3,z3:=Tryz.sizeOf3,v3:=Tryz.zeroValue3,t4:=Tryz.underlying4,a4:=Tryz.isAgg4,z4:=Tryz.sizeOf4,v4:=Tryz.zeroValue4,t5:=Tryz.underlying5,a5:=Tryz.isAgg5,z5:=Tryz.sizeOf5,v5:=Tryz.zeroValue5,t9:=Tryz.underlying9,a9:=Tryz.isAgg9,z9:=Tryz.sizeOf9,v9:=Tryz.zeroValue9,t21:=Tryz.underlying21,a21:=Tryz.isAgg21,z21:=Tryz.sizeOf21,v21:=Tryz.zeroValue21,t46:=Tryz.underlying122,a46:=Tryz.isAgg122,z46:=Tryz.sizeOf122,v46:=Tryz.zeroValue122 }
def Tryz.laysMkSet_ren:Go.Shelf.Ren:=⟨fun | 227=>127 | n=>n,fun | 9=>9 | 116=>136 | 4=>4 | 0=>0 | 3=>3 | 5=>5 | n=>n,fun | n=>n⟩
theorem Tryz.laysMkSet:Go.Proofs.Lays.n227 Tryz.prog Tryz.laysMkSet_ren:={ mixed:=by kernel_rfl,f227:=Tryz.func127.trans (congrArg some (by kernel_rfl)),t0:=Tryz.underlying0,a0:=Tryz.isAgg0,z0:=Tryz.sizeOf0,v0:=Tryz.zeroValue0,t3:=Tryz.underlying3,a3:=Tryz.isAgg3,z3:=Tryz.sizeOf3,v3:=Tryz.zeroValue3,t4:=Tryz.underlying4,a4:=Tryz.isAgg4,z4:=Tryz.sizeOf4,v4:=Tryz.zeroValue4,t5:=Tryz.underlying5,a5:=Tryz.isAgg5,z5:=Tryz.sizeOf5,v5:=Tryz.zeroValue5,t9:=Tryz.underlying9,a9:=Tryz.isAgg9,z9:=Tryz.sizeOf9,v9:=Tryz.zeroValue9,t116:=Tryz.underlying136,a116:=Tryz.isAgg136,z116:=Tryz.sizeOf136 }
def Tryz.laysHas_ren:Go.Shelf.Ren:=⟨fun | 144=>149 | 143=>123 | 219=>132 | 217=>134 | 225=>162 | 224=>163 | 267=>164 | 266=>165 | 314=>185 | n=>n,fun | 9=>9 | 4=>4 | 3=>3 | 5=>5 | 46=>122 | 146=>180 | 51=>160 | n=>n,fun | 1=>0 | n=>n⟩
theorem Tryz.laysHas:Go.Proofs.Lays.n144 Tryz.prog Tryz.laysHas_ren:={ mixed:=by kernel_rfl,f143:=Tryz.func123.trans (congrArg some (by kernel_rfl)),f144:=Tryz.func149.trans (congrArg some (by kernel_rfl)),f217:=Tryz.func134.trans (congrArg some (by kernel_rfl)),f219:=Tryz.func132.trans (congrArg some (by kernel_rfl)),f224:=Tryz.func163.trans (congrArg some (by kernel_rfl)),f225:=Tryz.func162.trans (congrArg some (by kernel_rfl)),f266:=Tryz.func165.trans (congrArg some (by kernel_rfl)),f267:=Tryz.func164.trans (congrArg some (by kernel_rfl)),f314:=Tryz.func185.trans (congrArg some (by kernel_rfl)),t3:=Tryz.underlying3,a3:=Tryz.isAgg3,z3:=Tryz.sizeOf3,v3:=Tryz.zeroValue3,t4:=Tryz.underlying4,a4:=Tryz.isAgg4,z4:=Tryz.sizeOf4,v4:=Tryz.zeroValue4,t5:=Tryz.underlying5,a5:=Tryz.isAgg5,z5:=Tryz.sizeOf5,v5:=Tryz.zeroValue5,t9:=Tryz.underlying9,a9:=Tryz.isAgg9,z9:=Tryz.sizeOf9,v9:=Tryz.zeroValue9,t46:=Tryz.underlying122,a46:=Tryz.isAgg122,z46:=Tryz.sizeOf122,v46:=Tryz.zeroValue122,t51:=Tryz.underlying160,a51:=Tryz.isAgg160,z51:=Tryz.sizeOf160,v51:=Tryz.zeroValue160,t146:=Tryz.underlying180,a146:=Tryz.isAgg180,z146:=Tryz.sizeOf180,v146:=Tryz.zeroValue180,g1:=by kernel_rfl }
def Tryz.laysSplit_ren:Go.Shelf.Ren:=⟨fun | 221=>97 | 268=>121 | 138=>122 | 143=>123 | 195=>156 | 197=>157 | 218=>158 | 219=>132 | 260=>182 | 217=>134 | 225=>162 | 224=>163 | 267=>164 | 266=>165 | 314=>185 | n=>n,fun | 9=>9 | 3=>3 | 31=>70 | 4=>4 | 0=>0 | 105=>163 | 21=>21 | 5=>5 | 46=>122 | 119=>196 | 139=>199 | 138=>198 | 146=>180 | 51=>160 | n=>n,fun | 1=>0 | 3=>6 | 4=>7 | n=>n⟩
theorem Tryz.laysSplit:Go.Proofs.Lays.n221 Tryz.prog Tryz.laysSplit_ren:={ mixed:=by kernel_rfl,f138:=Tryz.func122.trans (congrArg some (by kernel_rfl)),f143:=Tryz.func123.trans (congrArg some (by kernel_rfl)),f195:=Tryz.func156.trans (congrArg some (by kernel_rfl)),f197:=Tryz.func157.trans (congrArg some (by kernel_rfl)),f217:=Tryz.func134.trans (congrArg some (by kernel_rfl)),f218:=Tryz.func158.trans (congrArg some (by kernel_rfl)),f219:=Tryz.func132.trans (congrArg some (by kernel_rfl)),f221:=Tryz.func97.trans (congrArg some (by kernel_rfl)),f224:=Tryz.func163.trans (congrArg some (by kernel_rfl)),f225:=Tryz.func162.trans (congrArg some (by kernel_rfl)),f260:=Tryz.func182.trans (congrArg some (by kernel_rfl)),f266:=Tryz.func165.trans (congrArg some (by kernel_rfl)),f267:=Tryz.func164.trans (congrArg some (by kernel_rfl)),f268:=Tryz.func121.trans (congrArg some (by kernel_rfl)),f314:=Tryz.func185.trans (congrArg some (by kernel_rfl)),t0:=Tryz.underlying0,a0:=Tryz.isAgg0,z0:=Tryz.sizeOf0,v0:=Tryz.zeroValue0,t3:=Tryz.underlying3,a3:=Tryz.isAgg3,z3:=Tryz.sizeOf3,v3:=Tryz.zeroValue3,t4:=Tryz.underlying4,a4:=Tryz.isAgg4,z4:=Tryz.sizeOf4,v4:=Tryz.zeroValue4,t5:=Tryz.underlying5,a5:=Tryz.isAgg5,z5:=Tryz.sizeOf5,v5:=Tryz.zeroValue5,t9:=Tryz.underlying9,a9:=Tryz.isAgg9,z9:=Tryz.sizeOf9,v9:=Tryz.zeroValue9,t21:=Tryz.underlying21,a21:=Tryz.isAgg21,z21:=Tryz.sizeOf21,v21:=Tryz.zeroValue21,t31:=Tryz.underlying70,a31:=Tryz.isAgg70,z31:=Tryz.sizeOf70,v31:=Tryz.zeroValue70,t46:=Tryz.underlying122,a46:=Tryz.isAgg122,z46:=Tryz.sizeOf122,v46:=Tryz.zeroValue122,t51:=Tryz.underlying160,a51:=Tryz.isAgg160,z51:=Tryz.sizeOf160,v51:=Tryz.zeroValue160,t105:=Tryz.underlying163,a105:=Tryz.isAgg163,z105:=Tryz.sizeOf163,v105:=Tryz.zeroValue163,t119:=Tryz.underlying196,a119:=Tryz.isAgg196,z119:=Tryz.sizeOf196,t138:=Tryz.underlying198,a138:=Tryz.isAgg198,z138:=Tryz.sizeOf198,v138:=Tryz.zeroValue198,t139:=Tryz.underlying199,a139:=Tryz.isAgg199,z139:=Tryz.sizeOf199,v139:=Tryz.zeroValue199,t146:=Tryz.underlying180,a146:=Tryz.isAgg180,z146:=Tryz.sizeOf180,v146:=Tryz.zeroValue180,g1:=by kernel_rfl,g3:=by kernel_rfl,g4:=by kernel_rfl }
def Tryz.laysAtoi_ren:Go.Shelf.Ren:=⟨fun | 172=>77 | 244=>104 | 245=>105 | 247=>135 | 279=>136 | 280=>137 | 281=>138 | 282=>139 | 287=>166 | 316=>167 | 171=>35 | 205=>168 | 321=>186 | 322=>187 | 243=>64 | 246=>95 | 283=>116 | 284=>117 | 285=>118 | 286=>119 | 129=>152 | 317=>151 | 318=>153 | 319=>154 | 320=>155 | 337=>180 | 338=>181 | n=>n,fun | 9=>9 | 3=>3 | 75=>58 | 76=>59 | 4=>4 | 5=>5 | 167=>141 | 37=>54 | 0=>0 | 85=>142 | 2=>2 | 168=>144 | 53=>128 | 175=>167 | 46=>122 | 210=>170 | 127=>91 | 145=>185 | 143=>183 | 21=>21 | 171=>127 | 173=>131 | 212=>159 | 51=>160 | 20=>20 | 213=>161 | 232=>194 | 233=>195 | 80=>29 | n=>n,fun | 15=>2 | 16=>3 | 17=>1 | 18=>4 | 19=>5 | n=>n⟩
theorem Tryz.laysAtoi:Go.Proofs.Lays.n172 Tryz.prog Tryz.laysAtoi_ren:={ mixed:=by kernel_rfl,f129:=Tryz.func152.trans (congrArg some (by kernel_rfl)),f171:=Tryz.func35.trans (congrArg some (by kernel_rfl)),f172:=Tryz.func77.trans (congrArg some (by kernel_rfl)),f205:=Tryz.func168.trans (congrArg some (by kernel_rfl)),f243:=Tryz.func64.trans (congrArg some (by kernel_rfl)),f244:=Tryz.func104.trans (congrArg some (by kernel_rfl)),f245:=Tryz.func105.trans (congrArg some (by kernel_rfl)),f246:=Tryz.func95.trans (congrArg some (by kernel_rfl)),f247:=Tryz.func135.trans (congrArg some (by kernel_rfl)),f279:=Tryz.func136.trans (congrArg some (by kernel_rfl)),f280:=Tryz.func137.trans (congrArg some (by kernel_rfl)),f281:=Tryz.func138.trans (congrArg some (by kernel_rfl)),f282:=Tryz.func139.trans (congrArg some (by kernel_rfl)),f283:=Tryz.func116.trans (congrArg some (by kernel_rfl)),f284:=Tryz.func117.trans (congrArg some (by kernel_rfl)),f285:=Tryz.func118.trans (congrArg some (by kernel_rfl)),f286:=Tryz.func119.trans (congrArg some (by kernel_rfl)),f287:=Tryz.func166.trans (congrArg some (by kernel_rfl)),f316:=Tryz.func167.trans (congrArg some (by kernel_rfl)),f317:=Tryz.func151.trans (congrArg some (by kernel_rfl)),f318:=Tryz.func153.trans (congrArg some (by kernel_rfl)),f319:=Tryz.func154.trans (congrArg some (by kernel_rfl)),f320:=Tryz.func155.trans (congrArg some (by kernel_rfl)),f321:=Tryz.func186.trans (congrArg some (by kernel_rfl)),f322:=Tryz.func187.trans (congrArg some (by kernel_rfl)),f337:=Tryz.func180.trans (congrArg some (by kernel_rfl)),f338:=Tryz.func181.trans (congrArg some (by kernel_rfl)),t0:=Tryz.underlying0,a0:=Tryz.isAgg0,z0:=Tryz.sizeOf0,v0:=Tryz.zeroValue0,t2:=Tryz.underlying2,a2:=Tryz.isAgg2,z2:=Tryz.sizeOf2,v2:=Tryz.zeroValue2,t3:=Tryz.underlying3,a3:=Tryz.isAgg3,z3:=Tryz.sizeOf3,v3:=Tryz.zeroValue3,t4:=Tryz.underlying4,a4:=Tryz.isAgg4,z4:=Tryz.sizeOf4,v4:=Tryz.zeroValue4,t5:=Tryz.underlying5,a5:=Tryz.isAgg5,z5:=Tryz.sizeOf5,v5:=Tryz.zeroValue5,t9:=Tryz.underlying9,a9:=Tryz.isAgg9,z9:=Tryz.sizeOf9,v9:=Tryz.zeroValue9,t20:=Tryz.underlying20,a20:=Tryz.isAgg20,z20:=Tryz.sizeOf20,v20:=Tryz.zeroValue20,t21:=Tryz.underlying21,a21:=Tryz.isAgg21,z21:=Tryz.sizeOf21,v21:=Tryz.zeroValue21,t37:=Tryz.underlying54,a37:=Tryz.isAgg54,z37:=Tryz.sizeOf54,v37:=Tryz.zeroValue54,t46:=Tryz.underlying122,a46:=Tryz.isAgg122,z46:=Tryz.sizeOf122,v46:=Tryz.zeroValue122,t51:=Tryz.underlying160,a51:=Tryz.isAgg160,z51:=Tryz.sizeOf160,v51:=Tryz.zeroValue160,t53:=Tryz.underlying128,a53:=Tryz.isAgg128,z53:=Tryz.sizeOf128,v53:=Tryz.zeroValue128,t75:=Tryz.underlying58,a75:=Tryz.isAgg58,z75:=Tryz.sizeOf58,v75:=Tryz.zeroValue58,t76:=Tryz.underlying59,a76:=Tryz.isAgg59,z76:=Tryz.sizeOf59,v76:=Tryz.zeroValue59,t85:=Tryz.underlying142,a85:=Tryz.isAgg142,z85:=Tryz.sizeOf142,v85:=Tryz.zeroValue142,t127:=Tryz.underlying91,a127:=Tryz.isAgg91,z127:=Tryz.sizeOf91,v127:=Tryz.zeroValue91,t143:=Tryz.underlying183,a143:=Tryz.isAgg183,z143:=Tryz.sizeOf183,v143:=Tryz.zeroValue183,t145:=Tryz.underlying185,a145:=Tryz.isAgg185,z145:=Tryz.sizeOf185,v145:=Tryz.zeroValue185,t167:=Tryz.underlying141,a167:=Tryz.isAgg141,z167:=Tryz.sizeOf141,v167:=Tryz.zeroValue141,t168:=Tryz.underlying144,a168:=Tryz.isAgg144,z168:=Tryz.sizeOf144,v168:=Tryz.zeroValue144,t171:=Tryz.underlying127,a171:=Tryz.isAgg127,z171:=Tryz.sizeOf127,v171:=Tryz.zeroValue127,t173:=Tryz.underlying131,a173:=Tryz.isAgg131,z173:=Tryz.sizeOf131,v173:=Tryz.zeroValue131,t175:=Tryz.underlying167,a175:=Tryz.isAgg167,z175:=Tryz.sizeOf167,v175:=Tryz.zeroValue167,t210:=Tryz.underlying170,a210:=Tryz.isAgg170,z210:=Tryz.sizeOf170,v210:=Tryz.zeroValue170,t212:=Tryz.underlying159,a212:=Tryz.isAgg159,z212:=Tryz.sizeOf159,v212:=Tryz.zeroValue159,t213:=Tryz.underlying161,a213:=Tryz.isAgg161,z213:=Tryz.sizeOf161,t232:=Tryz.underlying194,a232:=Tryz.isAgg194,z232:=Tryz.sizeOf194,v232:=Tryz.zeroValue194,t233:=Tryz.underlying195,a233:=Tryz.isAgg195,z233:=Tryz.sizeOf195,v233:=Tryz.zeroValue195,g15:=by kernel_rfl,g16:=by kernel_rfl,g17:=by kernel_rfl,g18:=by kernel_rfl,g19:=by kernel_rfl }
def Tryz.laysAny_ren:Go.Shelf.Ren:=⟨fun | 150=>179 | 153=>200 | 152=>183 | 226=>199 | 227=>127 | 228=>159 | 137=>103 | 119=>201 | 224=>163 | 225=>162 | 217=>134 | 266=>165 | n=>n,fun | 9=>9 | 4=>4 | 3=>3 | 5=>5 | 21=>21 | 117=>137 | 116=>136 | 0=>0 | 46=>122 | 124=>140 | n=>n,fun | n=>n⟩
theorem Tryz.laysAny:Go.Proofs.Lays.n150 Tryz.prog Tryz.laysAny_ren:={ mixed:=by kernel_rfl,f119:=Tryz.func201.trans (congrArg some (by kernel_rfl)),f137:=Tryz.func103.trans (congrArg some (by kernel_rfl)),f150:=Tryz.func179.trans (congrArg some (by kernel_rfl)),f152:=Tryz.func183.trans (congrArg some (by kernel_rfl)),f153:=Tryz.func200.trans (congrArg some (by kernel_rfl)),f217:=Tryz.func134.trans (congrArg some (by kernel_rfl)),f224:=Tryz.func163.trans (congrArg some (by kernel_rfl)),f225:=Tryz.func162.trans (congrArg some (by kernel_rfl)),f226:=Tryz.func199.trans (congrArg some (by kernel_rfl)),f227:=Tryz.func127.trans (congrArg some (by kernel_rfl)),f228:=Tryz.func159.trans (congrArg some (by kernel_rfl)),f266:=Tryz.func165.trans (congrArg some (by kernel_rfl)),t0:=Tryz.underlying0,a0:=Tryz.isAgg0,z0:=Tryz.sizeOf0,v0:=Tryz.zeroValue0,t3:=Tryz.underlying3,a3:=Tryz.isAgg3,z3:=Tryz.sizeOf3,v3:=Tryz.zeroValue3,t4:=Tryz.underlying4,a4:=Tryz.isAgg4,z4:=Tryz.sizeOf4,v4:=Tryz.zeroValue4,t5:=Tryz.underlying5,a5:=Tryz.isAgg5,z5:=Tryz.sizeOf5,v5:=Tryz.zeroValue5,t9:=Tryz.underlying9,a9:=Tryz.isAgg9,z9:=Tryz.sizeOf9,v9:=Tryz.zeroValue9,t21:=Tryz.underlying21,a21:=Tryz.isAgg21,z21:=Tryz.sizeOf21,v21:=Tryz.zeroValue21,t46:=Tryz.underlying122,a46:=Tryz.isAgg122,z46:=Tryz.sizeOf122,v46:=Tryz.zeroValue122,t116:=Tryz.underlying136,a116:=Tryz.isAgg136,z116:=Tryz.sizeOf136,t117:=Tryz.underlying137,a117:=Tryz.isAgg137,z117:=Tryz.sizeOf137,v117:=Tryz.zeroValue137,t124:=Tryz.underlying140,a124:=Tryz.isAgg140,z124:=Tryz.sizeOf140,v124:=Tryz.zeroValue140 }
def Tryz.laysJoin_ren:Go.Shelf.Ren:=⟨fun | 156=>61 | 165=>94 | 166=>25 | 169=>28 | 240=>52 | 241=>115 | 276=>90 | 277=>150 | n=>n,fun | 31=>70 | 9=>9 | 3=>3 | 4=>4 | 0=>0 | 20=>20 | 72=>56 | 76=>59 | 70=>53 | 37=>54 | 75=>58 | 127=>91 | 164=>112 | 5=>5 | 80=>29 | n=>n,fun | n=>n⟩
theorem Tryz.laysJoin:Go.Proofs.Lays.n156 Tryz.prog Tryz.laysJoin_ren:={ mixed:=by kernel_rfl,f156:=Tryz.func61.trans (congrArg some (by kernel_rfl)),f165:=Tryz.func94.trans (congrArg some (by kernel_rfl)),f166:=Tryz.func25.trans (congrArg some (by kernel_rfl)),f169:=Tryz.func28.trans (congrArg some (by kernel_rfl)),f240:=Tryz.func52.trans (congrArg some (by kernel_rfl)),f241:=Tryz.func115.trans (congrArg some (by kernel_rfl)),f276:=Tryz.func90.trans (congrArg some (by kernel_rfl)),f277:=Tryz.func150.trans (congrArg some (by kernel_rfl)),t0:=Tryz.underlying0,a0:=Tryz.isAgg0,z0:=Tryz.sizeOf0,v0:=Tryz.zeroValue0,t3:=Tryz.underlying3,a3:=Tryz.isAgg3,z3:=Tryz.sizeOf3,v3:=Tryz.zeroValue3,t4:=Tryz.underlying4,a4:=Tryz.isAgg4,z4:=Tryz.sizeOf4,v4:=Tryz.zeroValue4,t9:=Tryz.underlying9,a9:=Tryz.isAgg9,z9:=Tryz.sizeOf9,v9:=Tryz.zeroValue9,t20:=Tryz.underlying20,a20:=Tryz.isAgg20,z20:=Tryz.sizeOf20,v20:=Tryz.zeroValue20,t31:=Tryz.underlying70,a31:=Tryz.isAgg70,z31:=Tryz.sizeOf70,v31:=Tryz.zeroValue70,t37:=Tryz.underlying54,a37:=Tryz.isAgg54,z37:=Tryz.sizeOf54,v37:=Tryz.zeroValue54,t70:=Tryz.underlying53,a70:=Tryz.isAgg53,z70:=Tryz.sizeOf53,v70:=Tryz.zeroValue53,t72:=Tryz.underlying56,a72:=Tryz.isAgg56,z72:=Tryz.sizeOf56,v72:=Tryz.zeroValue56,t75:=Tryz.underlying58,a75:=Tryz.isAgg58,z75:=Tryz.sizeOf58,v75:=Tryz.zeroValue58,t76:=Tryz.underlying59,a76:=Tryz.isAgg59,z76:=Tryz.sizeOf59,v76:=Tryz.zeroValue59,t127:=Tryz.underlying91,a127:=Tryz.isAgg91,z127:=Tryz.sizeOf91,v127:=Tryz.zeroValue91,t164:=Tryz.underlying112,a164:=Tryz.isAgg112,z164:=Tryz.sizeOf112,v164:=Tryz.zeroValue112 }
def Tryz.laysBldW_ren:Go.Shelf.Ren:=⟨fun | 166=>25 | 240=>52 | 276=>90 | n=>n,fun | 70=>53 | 9=>9 | 3=>3 | 75=>58 | 0=>0 | 72=>56 | 37=>54 | 4=>4 | 164=>112 | 80=>29 | 5=>5 | n=>n,fun | n=>n⟩
theorem Tryz.laysBldW:Go.Proofs.Lays.n166 Tryz.prog Tryz.laysBldW_ren:={ mixed:=by kernel_rfl,f166:=Tryz.func25.trans (congrArg some (by kernel_rfl)),f240:=Tryz.func52.trans (congrArg some (by kernel_rfl)),f276:=Tryz.func90.trans (congrArg some (by kernel_rfl)),t0:=Tryz.underlying0,a0:=Tryz.isAgg0,z0:=Tryz.sizeOf0,v0:=Tryz.zeroValue0,t3:=Tryz.underlying3,a3:=Tryz.isAgg3,z3:=Tryz.sizeOf3,v3:=Tryz.zeroValue3,t4:=Tryz.underlying4,a4:=Tryz.isAgg4,z4:=Tryz.sizeOf4,v4:=Tryz.zeroValue4,t9:=Tryz.underlying9,a9:=Tryz.isAgg9,z9:=Tryz.sizeOf9,v9:=Tryz.zeroValue9,t20:=Tryz.underlying20,a20:=Tryz.isAgg20,z20:=Tryz.sizeOf20,v20:=Tryz.zeroValue20,t37:=Tryz.underlying54,a37:=Tryz.isAgg54,z37:=Tryz.sizeOf54,v37:=Tryz.zeroValue54,t70:=Tryz.underlying53,a70:=Tryz.isAgg53,z70:=Tryz.sizeOf53,v70:=Tryz.zeroValue53,t72:=Tryz.underlying56,a72:=Tryz.isAgg56,z72:=Tryz.sizeOf56,v72:=Tryz.zeroValue56,t75:=Tryz.underlying58,a75:=Tryz.isAgg58,z75:=Tryz.sizeOf58,v75:=Tryz.zeroValue58,t164:=Tryz.underlying112,a164:=Tryz.isAgg112,z164:=Tryz.sizeOf112,v164:=Tryz.zeroValue112 }
def Tryz.laysBldL_ren:Go.Shelf.Ren:=⟨fun | 170=>27 | n=>n,fun | 70=>53 | 3=>3 | 0=>0 | 72=>56 | 37=>54 | 5=>5 | n=>n,fun | n=>n⟩
theorem Tryz.laysBldL:Go.Proofs.Lays.n170 Tryz.prog Tryz.laysBldL_ren:={ mixed:=by kernel_rfl,f170:=Tryz.func27.trans (congrArg some (by kernel_rfl)),t0:=Tryz.underlying0,a0:=Tryz.isAgg0,z0:=Tryz.sizeOf0,v0:=Tryz.zeroValue0,t3:=Tryz.underlying3,a3:=Tryz.isAgg3,z3:=Tryz.sizeOf3,v3:=Tryz.zeroValue3,t37:=Tryz.underlying54,a37:=Tryz.isAgg54,z37:=Tryz.sizeOf54,v37:=Tryz.zeroValue54,t70:=Tryz.underlying53,a70:=Tryz.isAgg53,z70:=Tryz.sizeOf53,v70:=Tryz.zeroValue53,t72:=Tryz.underlying56,a72:=Tryz.isAgg56,z72:=Tryz.sizeOf56,v72:=Tryz.zeroValue56 }
def Tryz.laysBldS_ren:Go.Shelf.Ren:=⟨fun | 169=>28 | n=>n,fun | 70=>53 | 9=>9 | 0=>0 | 72=>56 | 37=>54 | 127=>91 | 3=>3 | 5=>5 | n=>n,fun | n=>n⟩
theorem Tryz.laysBldS:Go.Proofs.Lays.n169 Tryz.prog Tryz.laysBldS_ren:={ mixed:=by kernel_rfl,f169:=Tryz.func28.trans (congrArg some (by kernel_rfl)),t0:=Tryz.underlying0,a0:=Tryz.isAgg0,z0:=Tryz.sizeOf0,v0:=Tryz.zeroValue0,t3:=Tryz.underlying3,a3:=Tryz.isAgg3,z3:=Tryz.sizeOf3,v3:=Tryz.zeroValue3,t9:=Tryz.underlying9,a9:=Tryz.isAgg9,z9:=Tryz.sizeOf9,v9:=Tryz.zeroValue9,t37:=Tryz.underlying54,a37:=Tryz.isAgg54,z37:=Tryz.sizeOf54,v37:=Tryz.zeroValue54,t70:=Tryz.underlying53,a70:=Tryz.isAgg53,z70:=Tryz.sizeOf53,v70:=Tryz.zeroValue53,t72:=Tryz.underlying56,a72:=Tryz.isAgg56,z72:=Tryz.sizeOf56,v72:=Tryz.zeroValue56,t127:=Tryz.underlying91,a127:=Tryz.isAgg91,z127:=Tryz.sizeOf91,v127:=Tryz.zeroValue91 }
def Tryz.laysItoa_ren:Go.Shelf.Ren:=⟨fun | 171=>35 | 243=>64 | 246=>95 | 283=>116 | 284=>117 | 285=>118 | 286=>119 | 129=>152 | 317=>151 | 318=>153 | 319=>154 | 320=>155 | 337=>180 | 338=>181 | n=>n,fun | 3=>3 | 9=>9 | 2=>2 | 4=>4 | 171=>127 | 0=>0 | 53=>128 | 37=>54 | 5=>5 | 173=>131 | 212=>159 | 51=>160 | 20=>20 | 213=>161 | 46=>122 | 232=>194 | 233=>195 | n=>n,fun | 17=>1 | 18=>4 | 19=>5 | n=>n⟩
theorem Tryz.laysItoa:Go.Proofs.LaysM.n171 Tryz.prog Tryz.laysItoa_ren:={ mixed:=by kernel_rfl,f129:=Tryz.func152.trans (congrArg some (by kernel_rfl)),f171:=Tryz.func35.trans (congrArg some (by kernel_rfl)),f243:=Tryz.func64.trans (congrArg some (by kernel_rfl)),f246:=Tryz.func95.trans (congrArg some (by kernel_rfl)),f283:=Tryz.func116.trans (congrArg some (by kernel_rfl)),f284:=Tryz.func117.trans (congrArg some (by kernel_rfl)),f285:=Tryz.func118.trans (congrArg some (by kernel_rfl)),f286:=Tryz.func119.trans (congrArg some (by kernel_rfl)),f317:=Tryz.func151.trans (congrArg some (by kernel_rfl)),f318:=Tryz.func153.trans (congrArg some (by kernel_rfl)),f319:=Tryz.func154.trans (congrArg some (by kernel_rfl)),f320:=Tryz.func155.trans (congrArg some (by kernel_rfl)),f337:=Tryz.func180.trans (congrArg some (by kernel_rfl)),f338:=Tryz.func181.trans (congrArg some (by kernel_rfl)),t0:=Tryz.underlying0,a0:=Tryz.isAgg0,z0:=Tryz.sizeOf0,v0:=Tryz.zeroValue0,t2:=Tryz.underlying2,a2:=Tryz.isAgg2,z2:=Tryz.sizeOf2,v2:=Tryz.zeroValue2,t3:=Tryz.underlying3,a3:=Tryz.isAgg3,z3:=Tryz.sizeOf3,v3:=Tryz.zeroValue3,t4:=Tryz.underlying4,a4:=Tryz.isAgg4,z4:=Tryz.sizeOf4,v4:=Tryz.zeroValue4,t5:=Tryz.underlying5,a5:=Tryz.isAgg5,z5:=Tryz.sizeOf5,v5:=Tryz.zeroValue5,t9:=Tryz.underlying9,a9:=Tryz.isAgg9,z9:=Tryz.sizeOf9,v9:=Tryz.zeroValue9,t20:=Tryz.underlying20,a20:=Tryz.isAgg20,z20:=Tryz.sizeOf20,v20:=Tryz.zeroValue20,t37:=Tryz.underlying54,a37:=Tryz.isAgg54,z37:=Tryz.sizeOf54,v37:=Tryz.zeroValue54,t46:=Tryz.underlying122,a46:=Tryz.isAgg122,z46:=Tryz.sizeOf122,v46:=Tryz.zeroValue122,t51:=Tryz.underlying160,a51:=Tryz.isAgg160,z51:=Tryz.sizeOf160,v51:=Tryz.zeroValue160,t53:=Tryz.underlying128,a53:=Tryz.isAgg128,z53:=Tryz.sizeOf128,v53:=Tryz.zeroValue128,t171:=Tryz.underlying127,a171:=Tryz.isAgg127,z171:=Tryz.sizeOf127,v171:=Tryz.zeroValue127,t173:=Tryz.underlying131,a173:=Tryz.isAgg131,z173:=Tryz.sizeOf131,v173:=Tryz.zeroValue131,t212:=Tryz.underlying159,a212:=Tryz.isAgg159,z212:=Tryz.sizeOf159,v212:=Tryz.zeroValue159,t213:=Tryz.underlying161,a213:=Tryz.isAgg161,z213:=Tryz.sizeOf161,t232:=Tryz.underlying194,a232:=Tryz.isAgg194,z232:=Tryz.sizeOf194,v232:=Tryz.zeroValue194,t233:=Tryz.underlying195,a233:=Tryz.isAgg195,z233:=Tryz.sizeOf195,v233:=Tryz.zeroValue195,g17:=by kernel_rfl,g18:=by kernel_rfl,g19:=by kernel_rfl,i0:=by kernel_rfl,i2:=by kernel_rfl,i3:=by kernel_rfl,i4:=by kernel_rfl,i5:=by kernel_rfl,i9:=by kernel_rfl,i20:=by kernel_rfl,i37:=by kernel_rfl,i46:=by kernel_rfl,i51:=by kernel_rfl,i53:=by kernel_rfl,i171:=by kernel_rfl,i173:=by kernel_rfl,i212:=by kernel_rfl,i232:=by kernel_rfl,i233:=by kernel_rfl,m17:=by kernel_rfl,m18:=by kernel_rfl,m19:=by kernel_rfl }
theorem Tryz.laysJoin_x:Builder.Extra Tryz.prog Tryz.laysJoin_ren where
 sizeBuilder:=by kernel_rfl
 liesBuilder:=by kernel_rfl
 t5:=Tryz.underlying5
 a5:=Tryz.isAgg5
 z5:=Tryz.sizeOf5
 v5:=Tryz.zeroValue5
 infoByte:=by kernel_rfl
 cellsByte:=by kernel_rfl
 sizeByte:=by kernel_rfl
 neB5:=by decide
theorem Tryz.laysBldW_x:Builder.Extra Tryz.prog Tryz.laysBldW_ren where
 sizeBuilder:=by kernel_rfl
 liesBuilder:=by kernel_rfl
 t5:=Tryz.underlying5
 a5:=Tryz.isAgg5
 z5:=Tryz.sizeOf5
 v5:=Tryz.zeroValue5
 infoByte:=by kernel_rfl
 cellsByte:=by kernel_rfl
 sizeByte:=by kernel_rfl
 neB5:=by decide
theorem Tryz.laysBldS_x:Builder.Extra Tryz.prog Tryz.laysBldS_ren where
 sizeBuilder:=by kernel_rfl
 liesBuilder:=by kernel_rfl
 t5:=Tryz.underlying5
 a5:=Tryz.isAgg5
 z5:=Tryz.sizeOf5
 v5:=Tryz.zeroValue5
 infoByte:=by kernel_rfl
 cellsByte:=by kernel_rfl
 sizeByte:=by kernel_rfl
 neB5:=by decide
end Go.Proofs
namespace Go.Proofs.SYtbnjbajipjjbgaaGreatDoor
open Go Go.AL Go.Proofs
noncomputable section
abbrev P:Program:=Tryz.prog
attribute [instance] drT
theorem hm:P.follows .mixedOrders=true:=Tryz.checked.mixed
def cmpS (a b:ByteArray):Int:=Lib.compareBytes a.data.toList b.data.toList
def idxB (s:ByteArray) (c:Int):Int:=Lib.indexByte s.data.toList c.toNat.toUInt8
def trimB (s cut:ByteArray):ByteArray:=⟨(Lib.trimS s.data.toList cut.data.toList).toArray⟩
def itoaZ (n:Int):ByteArray:=⟨(Lib.itoa n).toArray⟩
def itoaB (n:Int):ByteArray:=⟨(Lib.decDigits n.toNat).toArray⟩
def ascii (cut:ByteArray):Bool:=cut.data.toList.all fun b=>Nat.blt b.toNat 128
def eqS (a b:ByteArray):Bool:=a.data.toList==b.data.toList
theorem eqS_eq {a b:ByteArray} (h:eqS a b=true):a=b:=by
 unfold eqS at h
 rw [beq_iff_eq] at h
 cases a with
 | mk a =>
  cases b with
  | mk b =>
   congr 1
   exact Array.ext' h
def lookS {α:Type}:List (ByteArray × α)→ByteArray→Option α
 | [],_=>none
 | (k,v)::l,s=>bif eqS k s then some v else lookS l s
theorem lookS_mem {α:Type} {s:ByteArray} {v:α}:∀ {l:List (ByteArray × α)},lookS l s=some v→(s,v)∈l
 | [],h=>by cases h
 | (k,u)::l,h=>by
  simp only [lookS] at h
  cases hk:eqS k s with
  | true =>
   rw [hk] at h
   cases h
   rw [eqS_eq hk]
   exact List.mem_cons_self
  | false =>
   rw [hk] at h
   exact List.mem_cons_of_mem _ (lookS_mem h)
abbrev KCt:List Kd:=[.int .i64,.int .i64,.str,.str,.int .i64,.int .i64,.str,.str]
abbrev KDeed:List Kd:=[.str,.int .i64,.int .i64,.int .i64,.int .i64,.int .i64,.str,.str,.int .i64,.int .i64,.str,.str,.str,.str,.int .i64]
abbrev KParts:List Kd:=[.str,.str,.str,.int .i64,.str]
def t0:Tab:=tabM []
theorem t0_ok:TabOK P t0:=tabM_ok P _
def F_strings_Compare (d:List G):Option (List G):=some [.i (cmpS (gi d 0).str (gi d 1).str)]
def s_strings_Compare:FSpec:=⟨49,[.s (.str),.s (.str)],[],[],[.s (.int .i64)],[],[],[],F_strings_Compare⟩
theorem c_strings_Compare:∀ d r,F_strings_Compare d=some r→ACallX P 49 (s_strings_Compare.args0 d) (denH (s_strings_Compare.H0 d)) (s_strings_Compare.out r) (denH (s_strings_Compare.H1 r)):=fun d r h=>by
 cases h
 exact (pcall_lits (vs:=[.string (gi d 0).str,.string (gi d 1).str]) fun w=>(Proofs.Any.strings_Compare Tryz.laysCompare (gi d 0).str (gi d 1).str w).mono fun e w' h=>⟨h.1,h.2▸Ext.refl w⟩) []
def t1:Tab:=t0.addP s_strings_Compare
theorem t1_ok:TabOK P t1:=t0_ok.aP c_strings_Compare
def F_strings_IndexByte (d:List G):Option (List G):=some [.i (idxB (gi d 0).str (gi d 1).int)]
def s_strings_IndexByte:FSpec:=⟨103,[.s (.str),.s (.int .u8)],[],[],[.s (.int .i64)],[],[],[],F_strings_IndexByte⟩
theorem c_strings_IndexByte:∀ d r,F_strings_IndexByte d=some r→ACallX P 103 (s_strings_IndexByte.args0 d) (denH (s_strings_IndexByte.H0 d)) (s_strings_IndexByte.out r) (denH (s_strings_IndexByte.H1 r)):=fun d r h=>by
 cases h
 exact (pcall_lits (vs:=[.string (gi d 0).str,.int .u8 (gi d 1).int]) fun w=>(Proofs.Any.strings_IndexByte Tryz.laysIndexByte (gi d 0).str (gi d 1).int w).mono fun e w' h=>⟨h.1,h.2▸Ext.refl w⟩) []
def t2:Tab:=t1.addP s_strings_IndexByte
theorem t2_ok:TabOK P t2:=t1_ok.aP c_strings_IndexByte
def F_strconv_Itoa (d:List G):Option (List G):=bif (leI (-9223372036854775808) (gi d 0).int&&leI (gi d 0).int 9223372036854775807) then some [.s (itoaZ (gi d 0).int)] else none
def s_strconv_Itoa:FSpec:=⟨35,[.s (.int .i64)],[],[],[.s (.str)],[],[],[],F_strconv_Itoa⟩
theorem c_strconv_Itoa:∀ d r,F_strconv_Itoa d=some r→ACallX P 35 (s_strconv_Itoa.args0 d) (denH (s_strconv_Itoa.H0 d)) (s_strconv_Itoa.out r) (denH (s_strconv_Itoa.H1 r)):=fun d r h=>by
 unfold F_strconv_Itoa at h
 cases hb:(leI (-9223372036854775808) (gi d 0).int&&leI (gi d 0).int 9223372036854775807) with
 | false=>rw [hb] at h; cases h
 | true =>
  rw [hb] at h
  cases h
  simp only [Bool.and_eq_true,leI_eq,decide_eq_true_eq] at hb
  have key:PCall P 35 [.lit (.int .i64 (gi d 0).int)] (.lit (.string (itoaZ (gi d 0).int))) :=
   pcall_litsT (vs:=[.int .i64 (gi d 0).int]) fun E hE=>(Proofs.Any.strconv_Itoa Tryz.laysItoa (gi d 0).int hb.1 hb.2 E.w (tabIs_of hE (g:=1) (by kernel_rfl) (List.mem_singleton.2 rfl))).mono fun e' w' h=>⟨h.1,by
    obtain ⟨q,os,rfl⟩:=h.2
    exact ext_growG _ q os⟩
  exact key []
def t3:Tab:=t2.addP s_strconv_Itoa
theorem t3_ok:TabOK P t3:=t2_ok.aP c_strconv_Itoa
def F_strings_Trim (d:List G):Option (List G):=bif (ascii (gi d 1).str&&(Nat.ble 2 (gi d 1).str.size&&(Nat.blt (gi d 1).str.size 4294967281&&(Nat.ble 1 (gi d 0).str.size&&Nat.ble (gi d 0).str.size 9223372036854775807)))) then some [.s (trimB (gi d 0).str (gi d 1).str)] else none
def s_strings_Trim:FSpec:=⟨100,[.s (.str),.s (.str)],[],[],[.s (.str)],[],[],[],F_strings_Trim⟩
theorem c_strings_Trim:∀ d r,F_strings_Trim d=some r→ACallX P 100 (s_strings_Trim.args0 d) (denH (s_strings_Trim.H0 d)) (s_strings_Trim.out r) (denH (s_strings_Trim.H1 r)):=fun d r h=>by
 unfold F_strings_Trim at h
 cases hb:(ascii (gi d 1).str&&(Nat.ble 2 (gi d 1).str.size&&(Nat.blt (gi d 1).str.size 4294967281&&(Nat.ble 1 (gi d 0).str.size&&Nat.ble (gi d 0).str.size 9223372036854775807)))) with
 | false=>rw [hb] at h; cases h
 | true =>
  rw [hb] at h
  cases h
  simp only [Bool.and_eq_true,Nat.blt_eq,Nat.ble_eq] at hb
  have hz:(Tryz.prog.info? (Tryz.laysTrim_ren.t 116)).map (fun i=>(i.zero,i.size))=some (some (.agg (Array.replicate 256 (.bool false))),256):=by kernel_rfl
  exact (pcall_lits (vs:=[.string (gi d 0).str,.string (gi d 1).str]) fun w=>(Proofs.Any.strings_Trim_set Tryz.laysTrim (zero_of_info hz).1 (zero_of_info hz).2 (gi d 0).str (gi d 1).str w hb.2.1 hb.2.2.2.1 hb.2.2.2.2 hb.2.2.1 fun j b hj=>by
   have:=List.all_eq_true.1 hb.1 b (List.mem_of_getElem? hj)
   simpa [Nat.blt_eq] using this).mono fun _ _ h=>⟨h.1,by
    obtain ⟨_,q,rfl⟩:=h
    exact ((Ext.push w _).trans (Ext.push _ _)).trans (Ext.drawn _ _ (Nat.le_add_right _ _))⟩) []
def t4:Tab:=t3.addP s_strings_Trim
theorem t4_ok:TabOK P t4:=t3_ok.aP c_strings_Trim
def F_stringslite_IndexByte (d:List G):Option (List G):=some [.i (idxB (gi d 0).str (gi d 1).int)]
def s_stringslite_IndexByte:FSpec:=⟨134,[.s (.str),.s (.int .u8)],[],[],[.s (.int .i64)],[],[],[],F_stringslite_IndexByte⟩
theorem c_stringslite_IndexByte:∀ d r,F_stringslite_IndexByte d=some r→ACallX P 134 (s_stringslite_IndexByte.args0 d) (denH (s_stringslite_IndexByte.H0 d)) (s_stringslite_IndexByte.out r) (denH (s_stringslite_IndexByte.H1 r)):=fun d r h=>by
 cases h
 exact (pcall_lits (vs:=[.string (gi d 0).str,.int .u8 (gi d 1).int]) fun w=>(Proofs.Any.stringslite_IndexByte Tryz.laysSlIndexByte (gi d 0).str (gi d 1).int w).mono fun e w' h=>⟨h.1,h.2▸Ext.refl w⟩) []
def t5:Tab:=t4.addP s_stringslite_IndexByte
theorem t5_ok:TabOK P t5:=t4_ok.aP c_stringslite_IndexByte
end
end Go.Proofs.SYtbnjbajipjjbgaaGreatDoor
