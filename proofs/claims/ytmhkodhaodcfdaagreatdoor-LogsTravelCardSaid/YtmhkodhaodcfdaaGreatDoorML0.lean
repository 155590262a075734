/-
 What is proved here: functions of the program as functions on data. No condition.
-/
import Derived.Test.YtmhkodhaodcfdaaGreatDoorMU
import Derived.Shelf.Strings.BuilderX
import Derived.Test.YtmhkodhaodcfdaaGreatDoorMG
import Derived.Test.YtmhkodhaodcfdaaGreatDoorChecked
import Derived.Test.YtmhkodhaodcfdaaGreatDoorMR
import Derived.Shelf.Small.Strs
import Derived.Shelf.Strconv.Itoa3
import Derived.Shelf.Strings.Search1
import Derived.Shelf.Strings.SlTrimAscii
open Bool renaming and_eq_true->aE
open Go renaming Program->ai
open Nat renaming ble->bf,blt->cR,blt_eq->dH
set_option linter.all false
namespace Go.AL
noncomputable section
inductive Kq where
 |l|i|s|t
def kp(d:LG):Nat->List Kq->LG->LG
 |_,[],r=>r
 |k,.l::q,r=>.l (gi d k).rZ::kp d (k+1) q r
 |k,.i::q,r=>.i (gi d k).iV::kp d (k+1) q r
 |k,.s::q,r=>.s (gi d k).sV::kp d (k+1) q r
 |k,.t::q,r=>.t (gi d k).bV::kp d (k+1) q r
attribute [go_sem] kp
abbrev bE{α:Type}(q:List α):Bool:=Nat.beq q.length q.length&&true
abbrev nL(a b:Int):Bool:=cA a&&aK a b
abbrev lI{α:Type}(q:List α):Int:=((q.length:Nat):Int)
abbrev nQ(x:LG):Option (Option Nat × LG):=some (none,x)
abbrev eQ(x:LG):Option (Option Nat × LG):=some (some 0,x)
abbrev eR(x:LG):Option (Option Nat × LG):=some (some 1,x)
attribute [go_sem] bE nL lI nQ eQ eR
abbrev gd{α:Type}(c:Bool)(x:Option α):Option α:=bif c then x else none
attribute [go_sem] gd
def fR{α:Type}{a:Option α}{x y:α}(h:a=some x)(e:x=y:=by kernel_rfl):a=some y:=h.trans (congrArg some e)
section
variable [Dr]
def aL.aP{P:ai}{τ:aJ}(h:aL P τ){sp:aM}(a:gR P sp)(b:fM P sp.f=true:=by kernel_rfl)(d:yU sp=true:=by kernel_rfl):aL P (τ.aZ sp):=h.aZ b d a
def aL.aW{P:ai}{τ:aJ}(h:aL P τ){sp:aM}(a:gR P sp)(b:fM P sp.f=true:=by kernel_rfl)(d:vZ sp=true:=by kernel_rfl):aL P (τ.dK sp):=h.dK b d a
def ba.a{P:ai}{τ:aJ}{m:Nat}{L:LT}(hm:P.follows .mixedOrders=true)(b:aL P τ){fn:Func}{sp:bS}(d:ba P m L (bp fn))(g:vW P τ L m (yG fn sp.key) sp) (h:nodupB ((cC (bp fn)).map (·.1))=true:=by kernel_rfl):ba P m (L.add m sp) (bp fn):=ba.add hm b h d g
def ba.aC{P:ai}{τ:aJ}{m:Nat}{L:LT}(hm:P.follows .mixedOrders=true)(a:aL P τ){fn:Func}{sp:bS}(b:ba P m L (bp fn))(d:tH P τ L m (ij fn sp.key) sp) (g:qb sp.key (cB (bp fn))=true:=by kernel_rfl):ba P m (L.mH m sp) (bp fn):=ba.mH hm a g b d
def Y0{P:ai}{τ:aJ}{L:LT}(hm:P.follows .mixedOrders=true)(b:aL P τ){sp:aM}{fn:Func}(d:P.funcs[sp.f]? = some fn)(g:ba P sp.bU.length L (bp fn))(h:tJ P τ L fn sp)(k:fn.body.isSome=true:=by kernel_rfl)(a:nV sp.bU=true:=by kernel_rfl):gR P sp:=qc hm b d k g h a
end
end
end Go.AL
set_option linter.all false
namespace Go.Proofs
open Go.Shelf Go.RowKit Go.AL
set_option maxHeartbeats 4000000
def Tryz.Y1:Go.Shelf.Ren:=⟨fun|106=>79|213=>116|265=>157|n=>n,fun|9=>9|3=>3|n=>n,fun|n=>n⟩
def Tryz.Y2:Go.Proofs.Lays.n106 Tryz.prog Tryz.Y1:={ mixed:=by kernel_rfl,f106:=fR func79,f213:=fR func116,f265:=fR func157,t3:=underlying3,a3:=isAgg3,z3:=sizeOf3,v3:=zeroValue3,t9:=underlying9,a9:=isAgg9,z9:=sizeOf9,v9:=zeroValue9 }
def Tryz.Y3:Go.Shelf.Ren:=⟨fun|137=>81|217=>117|266=>158|n=>n,fun|9=>9|5=>5|3=>3|n=>n,fun|n=>n⟩
def Tryz.O7:Go.Proofs.Lays.n137 Tryz.prog Tryz.Y3:={ mixed:=by kernel_rfl,f137:=fR func81,f217:=fR func117,f266:=fR func158,t3:=underlying3,a3:=isAgg3,z3:=sizeOf3,v3:=zeroValue3,t5:=underlying5,a5:=isAgg5,z5:=sizeOf5,v5:=zeroValue5,t9:=underlying9,a9:=isAgg9,z9:=sizeOf9,v9:=zeroValue9 }
def Tryz.O8:Go.Shelf.Ren:=⟨fun|160=>112|232=>149|231=>148|227=>150|234=>152|233=>151|236=>154|235=>153|228=>188|271=>190|151=>189|197=>160|120=>208|152=>201|260=>192|137=>81|119=>211|224=>180|225=>179|217=>117|266=>158|n=>n,fun|9=>9|4=>4|3=>3|5=>5|117=>145|116=>144|0=>0|124=>148|21=>21|105=>153|46=>152|119=>191|139=>194|138=>193|n=>n,fun|3=>4|4=>5|n=>n⟩
def Tryz.Y4:Go.Proofs.Lays.n160 Tryz.prog Tryz.O8:={ mixed:=by kernel_rfl,f119:=fR func211,f120:=fR func208,f137:=fR func81,f151:=fR func189,f152:=fR func201,f160:=fR func112,f197:=fR func160,f217:=fR func117,f224:=fR func180,f225:=fR func179,f227:=fR func150,f228:=fR func188,f231:=fR func148,f232:=fR func149,f233:=fR func151,f234:=fR func152,f235:=fR func153,f236:=fR func154,f260:=fR func192,f266:=fR func158,f271:=fR func190,t0:=underlying0,a0:=isAgg0,z0:=sizeOf0,v0:=zeroValue0,t3:=underlying3,a3:=isAgg3,z3:=sizeOf3,v3:=zeroValue3,t4:=underlying4,a4:=isAgg4,z4:=sizeOf4,v4:=zeroValue4,t5:=underlying5,a5:=isAgg5,z5:=sizeOf5,v5:=zeroValue5,t9:=underlying9,a9:=isAgg9,z9:=sizeOf9,v9:=zeroValue9,t21:=underlying21,a21:=isAgg21,z21:=sizeOf21,v21:=zeroValue21,t46:=underlying152,a46:=isAgg152,z46:=sizeOf152,v46:=zeroValue152,t105:=underlying153,a105:=isAgg153,z105:=sizeOf153,v105:=zeroValue153,t116:=underlying144,a116:=isAgg144,z116:=sizeOf144,t117:=underlying145,a117:=isAgg145,z117:=sizeOf145,v117:=zeroValue145,t119:=underlying191,a119:=isAgg191,z119:=sizeOf191,t124:=underlying148,a124:=isAgg148,z124:=sizeOf148,v124:=zeroValue148,t138:=underlying193,a138:=isAgg193,z138:=sizeOf193,v138:=zeroValue193,t139:=underlying194,a139:=isAgg194,z139:=sizeOf194,v139:=zeroValue194,g3:=by kernel_rfl,g4:=by kernel_rfl }
def Tryz.Y5:Go.Shelf.Ren:=⟨fun|217=>117|266=>158|n=>n,fun|9=>9|5=>5|3=>3|n=>n,fun|n=>n⟩
def Tryz.Y6:Go.Proofs.Lays.n217 Tryz.prog Tryz.Y5:={ mixed:=by kernel_rfl,f217:=fR func117,f266:=fR func158,t3:=underlying3,a3:=isAgg3,z3:=sizeOf3,v3:=zeroValue3,t5:=underlying5,a5:=isAgg5,z5:=sizeOf5,v5:=zeroValue5,t9:=underlying9,a9:=isAgg9,z9:=sizeOf9,v9:=zeroValue9 }
def Tryz.Y7:Go.Shelf.Ren:=⟨fun|219=>143|217=>117|225=>179|224=>180|267=>181|266=>158|314=>204|n=>n,fun|9=>9|3=>3|4=>4|5=>5|46=>152|146=>180|51=>177|n=>n,fun|1=>0|n=>n⟩
def Tryz.Y8:Go.Proofs.Lays.n219 Tryz.prog Tryz.Y7:={ mixed:=by kernel_rfl,f217:=fR func117,f219:=fR func143,f224:=fR func180,f225:=fR func179,f266:=fR func158,f267:=fR func181,f314:=fR func204,t3:=underlying3,a3:=isAgg3,z3:=sizeOf3,v3:=zeroValue3,t4:=underlying4,a4:=isAgg4,z4:=sizeOf4,v4:=zeroValue4,t5:=underlying5,a5:=isAgg5,z5:=sizeOf5,v5:=zeroValue5,t9:=underlying9,a9:=isAgg9,z9:=sizeOf9,v9:=zeroValue9,t46:=underlying152,a46:=isAgg152,z46:=sizeOf152,v46:=zeroValue152,t51:=underlying177,a51:=isAgg177,z51:=sizeOf177,v51:=zeroValue177,t146:=underlying180,a146:=isAgg180,z146:=sizeOf180,v146:=zeroValue180,g1:=by kernel_rfl }
def Tryz.Y9:Go.Shelf.Ren:=⟨fun|152=>201|137=>81|119=>211|224=>180|225=>179|217=>117|266=>158|n=>n,fun|9=>9|21=>21|3=>3|4=>4|5=>5|0=>0|46=>152|n=>n,fun|n=>n⟩
def Tryz.Y_:Go.Proofs.Lays.n152 Tryz.prog Tryz.Y9:={ mixed:=by kernel_rfl,f119:=fR func211,f137:=fR func81,f152:=fR func201,f217:=fR func117,f224:=fR func180,f225:=fR func179,f266:=fR func158,t0:=underlying0,a0:=isAgg0,z0:=sizeOf0,v0:=zeroValue0,t3:=underlying3,a3:=isAgg3,z3:=sizeOf3,v3:=zeroValue3,t4:=underlying4,a4:=isAgg4,z4:=sizeOf4,v4:=zeroValue4,t5:=underlying5,a5:=isAgg5,z5:=sizeOf5,v5:=zeroValue5,t9:=underlying9,a9:=isAgg9,z9:=sizeOf9,v9:=zeroValue9,t21:=underlying21,a21:=isAgg21,z21:=sizeOf21,v21:=zeroValue21,t46:=underlying152,a46:=isAgg152,z46:=sizeOf152,v46:=zeroValue152 }
def Tryz.Y':Go.Shelf.Ren:=⟨fun|227=>150|n=>n,fun|9=>9|116=>144|4=>4|0=>0|3=>3|5=>5|n=>n,fun|n=>n⟩
def Tryz.Za:Go.Proofs.Lays.n227 Tryz.prog Tryz.Y':={ mixed:=by kernel_rfl,f227:=fR func150,t0:=underlying0,a0:=isAgg0,z0:=sizeOf0,v0:=zeroValue0,t3:=underlying3,a3:=isAgg3,z3:=sizeOf3,v3:=zeroValue3,t4:=underlying4,a4:=isAgg4,z4:=sizeOf4,v4:=zeroValue4,t5:=underlying5,a5:=isAgg5,z5:=sizeOf5,v5:=zeroValue5,t9:=underlying9,a9:=isAgg9,z9:=sizeOf9,v9:=zeroValue9,t116:=underlying144,a116:=isAgg144,z116:=sizeOf144 }
def Tryz.Zb:Go.Shelf.Ren:=⟨fun|144=>69|143=>104|219=>143|217=>117|225=>179|224=>180|267=>181|266=>158|314=>204|n=>n,fun|9=>9|4=>4|3=>3|5=>5|46=>152|146=>180|51=>177|n=>n,fun|1=>0|n=>n⟩
def Tryz.Zc:Go.Proofs.Lays.n144 Tryz.prog Tryz.Zb:={ mixed:=by kernel_rfl,f143:=fR func104,f144:=fR func69,f217:=fR func117,f219:=fR func143,f224:=fR func180,f225:=fR func179,f266:=fR func158,f267:=fR func181,f314:=fR func204,t3:=underlying3,a3:=isAgg3,z3:=sizeOf3,v3:=zeroValue3,t4:=underlying4,a4:=isAgg4,z4:=sizeOf4,v4:=zeroValue4,t5:=underlying5,a5:=isAgg5,z5:=sizeOf5,v5:=zeroValue5,t9:=underlying9,a9:=isAgg9,z9:=sizeOf9,v9:=zeroValue9,t46:=underlying152,a46:=isAgg152,z46:=sizeOf152,v46:=zeroValue152,t51:=underlying177,a51:=isAgg177,z51:=sizeOf177,v51:=zeroValue177,t146:=underlying180,a146:=isAgg180,z146:=sizeOf180,v146:=zeroValue180,g1:=by kernel_rfl }
def Tryz.Zd:Go.Shelf.Ren:=⟨fun|221=>82|268=>118|138=>119|143=>104|195=>159|197=>160|218=>161|219=>143|260=>192|217=>117|225=>179|224=>180|267=>181|266=>158|314=>204|n=>n,fun|9=>9|3=>3|31=>64|4=>4|0=>0|105=>153|21=>21|5=>5|46=>152|119=>191|139=>194|138=>193|146=>180|51=>177|n=>n,fun|1=>0|3=>4|4=>5|n=>n⟩
def Tryz.Ze:Go.Proofs.Lays.n221 Tryz.prog Tryz.Zd:={ mixed:=by kernel_rfl,f138:=fR func119,f143:=fR func104,f195:=fR func159,f197:=fR func160,f217:=fR func117,f218:=fR func161,f219:=fR func143,f221:=fR func82,f224:=fR func180,f225:=fR func179,f260:=fR func192,f266:=fR func158,f267:=fR func181,f268:=fR func118,f314:=fR func204,t0:=underlying0,a0:=isAgg0,z0:=sizeOf0,v0:=zeroValue0,t3:=underlying3,a3:=isAgg3,z3:=sizeOf3,v3:=zeroValue3,t4:=underlying4,a4:=isAgg4,z4:=sizeOf4,v4:=zeroValue4,t5:=underlying5,a5:=isAgg5,z5:=sizeOf5,v5:=zeroValue5,t9:=underlying9,a9:=isAgg9,z9:=sizeOf9,v9:=zeroValue9,t21:=underlying21,a21:=isAgg21,z21:=sizeOf21,v21:=zeroValue21,t31:=underlying64,a31:=isAgg64,z31:=sizeOf64,v31:=zeroValue64,t46:=underlying152,a46:=isAgg152,z46:=sizeOf152,v46:=zeroValue152,t51:=underlying177,a51:=isAgg177,z51:=sizeOf177,v51:=zeroValue177,t105:=underlying153,a105:=isAgg153,z105:=sizeOf153,v105:=zeroValue153,t119:=underlying191,a119:=isAgg191,z119:=sizeOf191,t138:=underlying193,a138:=isAgg193,z138:=sizeOf193,v138:=zeroValue193,t139:=underlying194,a139:=isAgg194,z139:=sizeOf194,v139:=zeroValue194,t146:=underlying180,a146:=isAgg180,z146:=sizeOf180,v146:=zeroValue180,g1:=by kernel_rfl,g3:=by kernel_rfl,g4:=by kernel_rfl }
def Tryz.Zf:Go.Shelf.Ren:=⟨fun|172=>108|244=>146|245=>147|247=>183|279=>184|280=>185|281=>186|282=>187|287=>205|316=>206|171=>36|205=>207|321=>212|322=>213|243=>83|246=>120|283=>162|284=>163|285=>164|286=>165|129=>194|317=>193|318=>195|319=>196|320=>197|337=>209|338=>210|n=>n,fun|9=>9|3=>3|75=>77|76=>78|4=>4|5=>5|167=>168|37=>73|0=>0|85=>169|2=>2|168=>171|53=>156|175=>186|46=>152|210=>189|127=>118|145=>200|143=>198|21=>21|171=>155|173=>159|212=>176|51=>177|20=>20|213=>178|232=>201|233=>202|80=>29|n=>n,fun|15=>2|16=>3|17=>1|18=>6|19=>7|n=>n⟩
def Tryz.Zg:Go.Proofs.Lays.n172 Tryz.prog Tryz.Zf:={ mixed:=by kernel_rfl,f129:=fR func194,f171:=fR func36,f172:=fR func108,f205:=fR func207,f243:=fR func83,f244:=fR func146,f245:=fR func147,f246:=fR func120,f247:=fR func183,f279:=fR func184,f280:=fR func185,f281:=fR func186,f282:=fR func187,f283:=fR func162,f284:=fR func163,f285:=fR func164,f286:=fR func165,f287:=fR func205,f316:=fR func206,f317:=fR func193,f318:=fR func195,f319:=fR func196,f320:=fR func197,f321:=fR func212,f322:=fR func213,f337:=fR func209,f338:=fR func210,t0:=underlying0,a0:=isAgg0,z0:=sizeOf0,v0:=zeroValue0,t2:=underlying2,a2:=isAgg2,z2:=sizeOf2,v2:=zeroValue2,t3:=underlying3,a3:=isAgg3,z3:=sizeOf3,v3:=zeroValue3,t4:=underlying4,a4:=isAgg4,z4:=sizeOf4,v4:=zeroValue4,t5:=underlying5,a5:=isAgg5,z5:=sizeOf5,v5:=zeroValue5,t9:=underlying9,a9:=isAgg9,z9:=sizeOf9,v9:=zeroValue9,t20:=underlying20,a20:=isAgg20,z20:=sizeOf20,v20:=zeroValue20,t21:=underlying21,a21:=isAgg21,z21:=sizeOf21,v21:=zeroValue21,t37:=underlying73,a37:=isAgg73,z37:=sizeOf73,v37:=zeroValue73,t46:=underlying152,a46:=isAgg152,z46:=sizeOf152,v46:=zeroValue152,t51:=underlying177,a51:=isAgg177,z51:=sizeOf177,v51:=zeroValue177,t53:=underlying156,a53:=isAgg156,z53:=sizeOf156,v53:=zeroValue156,t75:=underlying77,a75:=isAgg77,z75:=sizeOf77,v75:=zeroValue77,t76:=underlying78,a76:=isAgg78,z76:=sizeOf78,v76:=zeroValue78,t85:=underlying169,a85:=isAgg169,z85:=sizeOf169,v85:=zeroValue169,t127:=underlying118,a127:=isAgg118,z127:=sizeOf118,v127:=zeroValue118,t143:=underlying198,a143:=isAgg198,z143:=sizeOf198,v143:=zeroValue198,t145:=underlying200,a145:=isAgg200,z145:=sizeOf200,v145:=zeroValue200,t167:=underlying168,a167:=isAgg168,z167:=sizeOf168,v167:=zeroValue168,t168:=underlying171,a168:=isAgg171,z168:=sizeOf171,v168:=zeroValue171,t171:=underlying155,a171:=isAgg155,z171:=sizeOf155,v171:=zeroValue155,t173:=underlying159,a173:=isAgg159,z173:=sizeOf159,v173:=zeroValue159,t175:=underlying186,a175:=isAgg186,z175:=sizeOf186,v175:=zeroValue186,t210:=underlying189,a210:=isAgg189,z210:=sizeOf189,v210:=zeroValue189,t212:=underlying176,a212:=isAgg176,z212:=sizeOf176,v212:=zeroValue176,t213:=underlying178,a213:=isAgg178,z213:=sizeOf178,t232:=underlying201,a232:=isAgg201,z232:=sizeOf201,v232:=zeroValue201,t233:=underlying202,a233:=isAgg202,z233:=sizeOf202,v233:=zeroValue202,g15:=by kernel_rfl,g16:=by kernel_rfl,g17:=by kernel_rfl,g18:=by kernel_rfl,g19:=by kernel_rfl }
def Tryz.Zh:Go.Shelf.Ren:=⟨fun|150=>177|153=>203|152=>201|226=>202|227=>150|228=>188|137=>81|119=>211|224=>180|225=>179|217=>117|266=>158|n=>n,fun|9=>9|4=>4|3=>3|5=>5|21=>21|117=>145|116=>144|0=>0|46=>152|124=>148|n=>n,fun|n=>n⟩
def Tryz.Zi:Go.Proofs.Lays.n150 Tryz.prog Tryz.Zh:={ mixed:=by kernel_rfl,f119:=fR func211,f137:=fR func81,f150:=fR func177,f152:=fR func201,f153:=fR func203,f217:=fR func117,f224:=fR func180,f225:=fR func179,f226:=fR func202,f227:=fR func150,f228:=fR func188,f266:=fR func158,t0:=underlying0,a0:=isAgg0,z0:=sizeOf0,v0:=zeroValue0,t3:=underlying3,a3:=isAgg3,z3:=sizeOf3,v3:=zeroValue3,t4:=underlying4,a4:=isAgg4,z4:=sizeOf4,v4:=zeroValue4,t5:=underlying5,a5:=isAgg5,z5:=sizeOf5,v5:=zeroValue5,t9:=underlying9,a9:=isAgg9,z9:=sizeOf9,v9:=zeroValue9,t21:=underlying21,a21:=isAgg21,z21:=sizeOf21,v21:=zeroValue21,t46:=underlying152,a46:=isAgg152,z46:=sizeOf152,v46:=zeroValue152,t116:=underlying144,a116:=isAgg144,z116:=sizeOf144,t117:=underlying145,a117:=isAgg145,z117:=sizeOf145,v117:=zeroValue145,t124:=underlying148,a124:=isAgg148,z124:=sizeOf148,v124:=zeroValue148 }
def Tryz.O9:Go.Shelf.Ren:=⟨fun|156=>65|165=>101|166=>42|169=>51|240=>87|241=>140|276=>127|277=>178|n=>n,fun|31=>64|9=>9|3=>3|4=>4|0=>0|20=>20|72=>75|76=>78|70=>72|37=>73|75=>77|127=>118|164=>134|5=>5|80=>29|n=>n,fun|n=>n⟩
def Tryz.Zj:Go.Proofs.Lays.n156 Tryz.prog Tryz.O9:={ mixed:=by kernel_rfl,f156:=fR func65,f165:=fR func101,f166:=fR func42,f169:=fR func51,f240:=fR func87,f241:=fR func140,f276:=fR func127,f277:=fR func178,t0:=underlying0,a0:=isAgg0,z0:=sizeOf0,v0:=zeroValue0,t3:=underlying3,a3:=isAgg3,z3:=sizeOf3,v3:=zeroValue3,t4:=underlying4,a4:=isAgg4,z4:=sizeOf4,v4:=zeroValue4,t9:=underlying9,a9:=isAgg9,z9:=sizeOf9,v9:=zeroValue9,t20:=underlying20,a20:=isAgg20,z20:=sizeOf20,v20:=zeroValue20,t31:=underlying64,a31:=isAgg64,z31:=sizeOf64,v31:=zeroValue64,t37:=underlying73,a37:=isAgg73,z37:=sizeOf73,v37:=zeroValue73,t70:=underlying72,a70:=isAgg72,z70:=sizeOf72,v70:=zeroValue72,t72:=underlying75,a72:=isAgg75,z72:=sizeOf75,v72:=zeroValue75,t75:=underlying77,a75:=isAgg77,z75:=sizeOf77,v75:=zeroValue77,t76:=underlying78,a76:=isAgg78,z76:=sizeOf78,v76:=zeroValue78,t127:=underlying118,a127:=isAgg118,z127:=sizeOf118,v127:=zeroValue118,t164:=underlying134,a164:=isAgg134,z164:=sizeOf134,v164:=zeroValue134 }
def Tryz.O_:Go.Shelf.Ren:=⟨fun|166=>42|240=>87|276=>127|n=>n,fun|70=>72|9=>9|3=>3|75=>77|0=>0|72=>75|37=>73|4=>4|164=>134|80=>29|5=>5|n=>n,fun|n=>n⟩
def Tryz.Zk:Go.Proofs.Lays.n166 Tryz.prog Tryz.O_:={ mixed:=by kernel_rfl,f166:=fR func42,f240:=fR func87,f276:=fR func127,t0:=underlying0,a0:=isAgg0,z0:=sizeOf0,v0:=zeroValue0,t3:=underlying3,a3:=isAgg3,z3:=sizeOf3,v3:=zeroValue3,t4:=underlying4,a4:=isAgg4,z4:=sizeOf4,v4:=zeroValue4,t9:=underlying9,a9:=isAgg9,z9:=sizeOf9,v9:=zeroValue9,t20:=underlying20,a20:=isAgg20,z20:=sizeOf20,v20:=zeroValue20,t37:=underlying73,a37:=isAgg73,z37:=sizeOf73,v37:=zeroValue73,t70:=underlying72,a70:=isAgg72,z70:=sizeOf72,v70:=zeroValue72,t72:=underlying75,a72:=isAgg75,z72:=sizeOf75,v72:=zeroValue75,t75:=underlying77,a75:=isAgg77,z75:=sizeOf77,v75:=zeroValue77,t164:=underlying134,a164:=isAgg134,z164:=sizeOf134,v164:=zeroValue134 }
def Tryz.O':Go.Shelf.Ren:=⟨fun|105=>129|212=>169|99=>170|165=>101|166=>42|170=>50|169=>51|263=>199|264=>200|206=>142|240=>87|241=>140|276=>127|277=>178|n=>n,fun|9=>9|3=>3|4=>4|20=>20|0=>0|46=>152|109=>163|5=>5|72=>75|76=>78|51=>177|146=>180|53=>156|148=>182|70=>72|37=>73|75=>77|127=>118|164=>134|80=>29|n=>n,fun|n=>n⟩
def Tryz.Zl:Go.Proofs.Lays.n105 Tryz.prog Tryz.O':={ mixed:=by kernel_rfl,f99:=fR func170,f105:=fR func129,f165:=fR func101,f166:=fR func42,f169:=fR func51,f170:=fR func50,f206:=fR func142,f212:=fR func169,f240:=fR func87,f241:=fR func140,f263:=fR func199,f264:=fR func200,f276:=fR func127,f277:=fR func178,t0:=underlying0,a0:=isAgg0,z0:=sizeOf0,v0:=zeroValue0,t3:=underlying3,a3:=isAgg3,z3:=sizeOf3,v3:=zeroValue3,t4:=underlying4,a4:=isAgg4,z4:=sizeOf4,v4:=zeroValue4,t5:=underlying5,a5:=isAgg5,z5:=sizeOf5,v5:=zeroValue5,t9:=underlying9,a9:=isAgg9,z9:=sizeOf9,v9:=zeroValue9,t20:=underlying20,a20:=isAgg20,z20:=sizeOf20,v20:=zeroValue20,t37:=underlying73,a37:=isAgg73,z37:=sizeOf73,v37:=zeroValue73,t46:=underlying152,a46:=isAgg152,z46:=sizeOf152,v46:=zeroValue152,t51:=underlying177,a51:=isAgg177,z51:=sizeOf177,v51:=zeroValue177,t53:=underlying156,a53:=isAgg156,z53:=sizeOf156,v53:=zeroValue156,t70:=underlying72,a70:=isAgg72,z70:=sizeOf72,v70:=zeroValue72,t72:=underlying75,a72:=isAgg75,z72:=sizeOf75,v72:=zeroValue75,t75:=underlying77,a75:=isAgg77,z75:=sizeOf77,v75:=zeroValue77,t76:=underlying78,a76:=isAgg78,z76:=sizeOf78,v76:=zeroValue78,t109:=underlying163,a109:=isAgg163,z109:=sizeOf163,v109:=zeroValue163,t127:=underlying118,a127:=isAgg118,z127:=sizeOf118,v127:=zeroValue118,t146:=underlying180,a146:=isAgg180,z146:=sizeOf180,v146:=zeroValue180,t148:=underlying182,a148:=isAgg182,z148:=sizeOf182,v148:=zeroValue182,t164:=underlying134,a164:=isAgg134,z164:=sizeOf134,v164:=zeroValue134 }
def Tryz.Zm:Go.Shelf.Ren:=⟨fun|170=>50|n=>n,fun|70=>72|3=>3|0=>0|72=>75|37=>73|5=>5|n=>n,fun|n=>n⟩
def Tryz.Zn:Go.Proofs.Lays.n170 Tryz.prog Tryz.Zm:={ mixed:=by kernel_rfl,f170:=fR func50,t0:=underlying0,a0:=isAgg0,z0:=sizeOf0,v0:=zeroValue0,t3:=underlying3,a3:=isAgg3,z3:=sizeOf3,v3:=zeroValue3,t37:=underlying73,a37:=isAgg73,z37:=sizeOf73,v37:=zeroValue73,t70:=underlying72,a70:=isAgg72,z70:=sizeOf72,v70:=zeroValue72,t72:=underlying75,a72:=isAgg75,z72:=sizeOf75,v72:=zeroValue75 }
def Tryz.Pa:Go.Shelf.Ren:=⟨fun|169=>51|n=>n,fun|70=>72|9=>9|0=>0|72=>75|37=>73|127=>118|3=>3|5=>5|n=>n,fun|n=>n⟩
def Tryz.Zo:Go.Proofs.Lays.n169 Tryz.prog Tryz.Pa:={ mixed:=by kernel_rfl,f169:=fR func51,t0:=underlying0,a0:=isAgg0,z0:=sizeOf0,v0:=zeroValue0,t3:=underlying3,a3:=isAgg3,z3:=sizeOf3,v3:=zeroValue3,t9:=underlying9,a9:=isAgg9,z9:=sizeOf9,v9:=zeroValue9,t37:=underlying73,a37:=isAgg73,z37:=sizeOf73,v37:=zeroValue73,t70:=underlying72,a70:=isAgg72,z70:=sizeOf72,v70:=zeroValue72,t72:=underlying75,a72:=isAgg75,z72:=sizeOf75,v72:=zeroValue75,t127:=underlying118,a127:=isAgg118,z127:=sizeOf118,v127:=zeroValue118 }
def Tryz.Zp:Go.Shelf.Ren:=⟨fun|171=>36|243=>83|246=>120|283=>162|284=>163|285=>164|286=>165|129=>194|317=>193|318=>195|319=>196|320=>197|337=>209|338=>210|n=>n,fun|3=>3|9=>9|2=>2|4=>4|171=>155|0=>0|53=>156|37=>73|5=>5|173=>159|212=>176|51=>177|20=>20|213=>178|46=>152|232=>201|233=>202|n=>n,fun|17=>1|18=>6|19=>7|n=>n⟩
def Tryz.Zq:Go.Proofs.LaysM.n171 Tryz.prog Tryz.Zp:={ mixed:=by kernel_rfl,f129:=fR func194,f171:=fR func36,f243:=fR func83,f246:=fR func120,f283:=fR func162,f284:=fR func163,f285:=fR func164,f286:=fR func165,f317:=fR func193,f318:=fR func195,f319:=fR func196,f320:=fR func197,f337:=fR func209,f338:=fR func210,t0:=underlying0,a0:=isAgg0,z0:=sizeOf0,v0:=zeroValue0,t2:=underlying2,a2:=isAgg2,z2:=sizeOf2,v2:=zeroValue2,t3:=underlying3,a3:=isAgg3,z3:=sizeOf3,v3:=zeroValue3,t4:=underlying4,a4:=isAgg4,z4:=sizeOf4,v4:=zeroValue4,t5:=underlying5,a5:=isAgg5,z5:=sizeOf5,v5:=zeroValue5,t9:=underlying9,a9:=isAgg9,z9:=sizeOf9,v9:=zeroValue9,t20:=underlying20,a20:=isAgg20,z20:=sizeOf20,v20:=zeroValue20,t37:=underlying73,a37:=isAgg73,z37:=sizeOf73,v37:=zeroValue73,t46:=underlying152,a46:=isAgg152,z46:=sizeOf152,v46:=zeroValue152,t51:=underlying177,a51:=isAgg177,z51:=sizeOf177,v51:=zeroValue177,t53:=underlying156,a53:=isAgg156,z53:=sizeOf156,v53:=zeroValue156,t171:=underlying155,a171:=isAgg155,z171:=sizeOf155,v171:=zeroValue155,t173:=underlying159,a173:=isAgg159,z173:=sizeOf159,v173:=zeroValue159,t212:=underlying176,a212:=isAgg176,z212:=sizeOf176,v212:=zeroValue176,t213:=underlying178,a213:=isAgg178,z213:=sizeOf178,t232:=underlying201,a232:=isAgg201,z232:=sizeOf201,v232:=zeroValue201,t233:=underlying202,a233:=isAgg202,z233:=sizeOf202,v233:=zeroValue202,g17:=by kernel_rfl,g18:=by kernel_rfl,g19:=by kernel_rfl,i0:=by kernel_rfl,i2:=by kernel_rfl,i3:=by kernel_rfl,i4:=by kernel_rfl,i5:=by kernel_rfl,i9:=by kernel_rfl,i20:=by kernel_rfl,i37:=by kernel_rfl,i46:=by kernel_rfl,i51:=by kernel_rfl,i53:=by kernel_rfl,i171:=by kernel_rfl,i173:=by kernel_rfl,i212:=by kernel_rfl,i232:=by kernel_rfl,i233:=by kernel_rfl,m17:=by kernel_rfl,m18:=by kernel_rfl,m19:=by kernel_rfl }
def Tryz.Zr:Builder.Extra Tryz.prog Tryz.O9 where
 sizeBuilder:=by kernel_rfl
 liesBuilder:=by kernel_rfl
 t5:=underlying5
 a5:=isAgg5
 z5:=sizeOf5
 v5:=zeroValue5
 infoByte:=by kernel_rfl
 cellsByte:=by kernel_rfl
 sizeByte:=by kernel_rfl
 neB5:=by decide
def Tryz.Zs:Builder.Extra Tryz.prog Tryz.O_ where
 sizeBuilder:=by kernel_rfl
 liesBuilder:=by kernel_rfl
 t5:=underlying5
 a5:=isAgg5
 z5:=sizeOf5
 v5:=zeroValue5
 infoByte:=by kernel_rfl
 cellsByte:=by kernel_rfl
 sizeByte:=by kernel_rfl
 neB5:=by decide
def Tryz.Zt:Builder.Extra Tryz.prog Tryz.O' where
 sizeBuilder:=by kernel_rfl
 liesBuilder:=by kernel_rfl
 t5:=underlying5
 a5:=isAgg5
 z5:=sizeOf5
 v5:=zeroValue5
 infoByte:=by kernel_rfl
 cellsByte:=by kernel_rfl
 sizeByte:=by kernel_rfl
 neB5:=by decide
def Tryz.Zu:Builder.Extra Tryz.prog Tryz.Pa where
 sizeBuilder:=by kernel_rfl
 liesBuilder:=by kernel_rfl
 t5:=underlying5
 a5:=isAgg5
 z5:=sizeOf5
 v5:=zeroValue5
 infoByte:=by kernel_rfl
 cellsByte:=by kernel_rfl
 sizeByte:=by kernel_rfl
 neB5:=by decide
end Go.Proofs
namespace Go.Proofs.jL
open Go Go.AL Go.Proofs Tryz
noncomputable section
noncomputable abbrev P:ai:=Tryz.prog
attribute [instance] xv
def hm:P.follows .mixedOrders=true:=Tryz.checked.mixed
def tP[Dr]{τ:aJ}{L:LT}(a:aL P τ){sp:aM}{fn:Func}(g:P.funcs[sp.f]? = some fn)(h:ba P sp.bU.length L (bp fn))(k:tJ P τ L fn sp:=by intro d;kernel_rfl)(q:fn.body.isSome=true:=by kernel_rfl)(b:nV sp.bU=true:=by kernel_rfl)(t:fM P sp.f=true:=by kernel_rfl)(v:yU sp=true:=by kernel_rfl):aL P (τ.aZ sp):=a.aZ t v (qc hm a g q h k b)
def tW[Dr]{τ:aJ}{L:LT}(a:aL P τ){sp:aM}{fn:Func}(g:P.funcs[sp.f]? = some fn)(h:ba P sp.bU.length L (bp fn))(k:tJ P τ L fn sp:=by intro d;kernel_rfl)(q:fn.body.isSome=true:=by kernel_rfl)(b:nV sp.bU=true:=by kernel_rfl)(t:fM P sp.f=true:=by kernel_rfl)(v:vZ sp=true:=by kernel_rfl):aL P (τ.dK sp):=a.dK t v (qc hm a g q h k b)
def bL[Dr]{τ:aJ}(b:aL P τ){sp:aM}{fn:Func}(g:P.funcs[sp.f]? = some fn)(h:tJ P τ dc fn sp:=by intro d;kernel_rfl)(k:fn.body.isSome=true:=by kernel_rfl)(a:nV sp.bU=true:=by kernel_rfl)(q:fM P sp.f=true:=by kernel_rfl)(t:yU sp=true:=by kernel_rfl):aL P (τ.aZ sp):=tP b g (dx _ _ _) h k a q t
def kE[Dr]{τ:aJ}(b:aL P τ){sp:aM}{fn:Func}(g:P.funcs[sp.f]? = some fn)(h:tJ P τ dc fn sp:=by intro d;kernel_rfl)(k:fn.body.isSome=true:=by kernel_rfl)(a:nV sp.bU=true:=by kernel_rfl)(q:fM P sp.f=true:=by kernel_rfl)(t:vZ sp=true:=by kernel_rfl):aL P (τ.dK sp):=tW b g (dx _ _ _) h k a q t
def lA[Dr]{τ:aJ}{m:Nat}{L:LT}(b:aL P τ){fn:Func}{sp:bS}(g:ba P m L (bp fn))(h:vW P τ L m (yG fn sp.key) sp:=by intro d;kernel_rfl) (k:nodupB ((cC (bp fn)).map (·.1))=true:=by kernel_rfl):ba P m (L.add m sp) (bp fn):=ba.a hm b g h k
def lC[Dr]{τ:aJ}{m:Nat}{L:LT}(a:aL P τ){fn:Func}{sp:bS}(b:ba P m L (bp fn))(g:tH P τ L m (ij fn sp.key) sp:=by intro d;kernel_rfl) (h:qb sp.key (cB (bp fn))=true:=by kernel_rfl):ba P m (L.mH m sp) (bp fn):=ba.aC hm a b g h
def iL(a b:BY):Int:=Lib.compareBytes a.data.toList b.data.toList
def Il(s:BY)(c:Int):Int:=Lib.indexByte s.data.toList c.toNat.toUInt8
def trimB(s a:BY):BY:=⟨(Lib.trimS s.data.toList a.data.toList).toArray⟩
def mO(n:Int):BY:=⟨(Lib.itoa n).toArray⟩
def akQ(n:Int):BY:=⟨(Lib.decDigits n.toNat).toArray⟩
def Pb(a:BY):Bool:=a.data.toList.all fun b=>cR b.toNat 128
def wq(a b:BY):Bool:=a.data.toList==b.data.toList
def Pc{a b:BY}(h:wq a b=true):a=b:=by
 unfold wq at h;rw[beq_iff_eq]at h;cases a with
 | mk a =>
  cases b with
  | mk b =>
   congr 1;exact Array.ext' h
def Im{α:Type}:List (BY × α)->BY->Option α
 | [],_=>none
 |(k,v)::l,s=>bif wq k s then some v else Im l s
def Zv{α:Type}{s:BY}{v:α}:∀{l:List (BY × α)},Im l s=some v->(s,v)∈l
 | [],h=>by cases h
 | (k,u)::l,h=>by
  simp only[Im]at h;cases a:wq k s with
  | true =>
   rw[a]at h;cases h;rw[Pc a];exact List.mem_cons_self
  | false =>
   rw[a]at h;exact List.mem_cons_of_mem _ (Zv h)
abbrev bI:List Kd:=[.I,.I,.str,.str,.I,.I,.str,.str]
abbrev cw:List Kd:=[.str,.I,.I]
abbrev wu:List Kd:=[.str,.str,.str,.I,.str]
def t0:aJ:=M3 []
def Zw:aL P t0:=WW P _
def lj(d:LG):Option LG:=some [.i (iL (gi d 0).sV (gi d 1).sV)]
abbrev az:Sh:=.s .I
abbrev aS:Sh:=.s (.str)
abbrev bP:Sh:=.s (.bool)
abbrev gT:Sh:=.s (.list bI)
abbrev mP:Sh:=.s (.list [.I])
abbrev zzW:Sh:=.s (.row [.str,.list bI])
abbrev zzA:Sh:=.s (.addr)
def Pd:aM:=⟨79,[aS,aS],[],[],[az],[],[],[],lj⟩
def Zx:gR P Pd:=fun d r (h:lj d=some r)=>by
 cases h;exact(yH (vs:=[.string (gi d 0).sV,.string (gi d 1).sV]) fun w=>(Proofs.Any.strings_Compare Tryz.Y2 (gi d 0).sV (gi d 1).sV w).mono fun e w' h=>⟨h.1,h.2▸Ext.refl w⟩) []
def t1:aJ:=t0.aZ Pd
def Zy:aL P t1:=Zw.aP Zx
def wv(d:LG):Option LG:=some [.i (Il (gi d 0).sV (gi d 1).iV)]
def Pe:aM:=⟨81,[aS,.s (.int .u8)],[],[],[az],[],[],[],wv⟩
def Zz:gR P Pe:=fun d r (h:wv d=some r)=>by
 cases h;exact(yH (vs:=[.string (gi d 0).sV,.int .u8 (gi d 1).iV]) fun w=>(Proofs.Any.strings_IndexByte Tryz.O7 (gi d 0).sV (gi d 1).iV w).mono fun e w' h=>⟨h.1,h.2▸Ext.refl w⟩) []
def t2:aJ:=t1.aZ Pe
def ZA:aL P t2:=Zy.aP Zz
def lk(d:LG):Option LG:=bif (aR (-9223372036854775808) (gi d 0).iV&&aR (gi d 0).iV 9223372036854775807) then some [.s (mO (gi d 0).iV)] else none
def Pf:aM:=⟨36,[az],[],[],[aS],[],[],[],lk⟩
def ZB:gR P Pf:=fun d r (h:lk d=some r)=>by
 unfold lk at h;cases a:(aR (-9223372036854775808) (gi d 0).iV&&aR (gi d 0).iV 9223372036854775807)with
 |false=>rw[a]at h; cases h
 | true =>
  rw[a]at h;cases h;simp only[aE,bz,dT]at a;have key:nJ P 36 [.lit (.int .i64 (gi d 0).iV)] (.lit (.string (mO (gi d 0).iV))) :=
   X6 (vs:=[.int .i64 (gi d 0).iV]) fun E b=>(Proofs.Any.strconv_Itoa Tryz.Zq (gi d 0).iV a.1 a.2 E.w (X3 b (g:=1) (by kernel_rfl) (List.mem_singleton.2 rfl))).mono fun k w' h=>⟨h.1,by
    obtain⟨q,os,rfl⟩:=h.2;exact XZ _ q os⟩
  exact key []
def t3:aJ:=t2.aZ Pf
def ZC:aL P t3:=ZA.aP ZB
def lV(d:LG):Option LG:=bif (Pb (gi d 1).sV&&(bf 2 (gi d 1).sV.size&&(cR (gi d 1).sV.size 4294967281&&(bf 1 (gi d 0).sV.size&&bf (gi d 0).sV.size 9223372036854775807)))) then some [.s (trimB (gi d 0).sV (gi d 1).sV)] else none
def Pg:aM:=⟨112,[aS,aS],[],[],[aS],[],[],[],lV⟩
def ZD:gR P Pg:=fun d r (h:lV d=some r)=>by
 unfold lV at h;cases a:(Pb (gi d 1).sV&&(bf 2 (gi d 1).sV.size&&(cR (gi d 1).sV.size 4294967281&&(bf 1 (gi d 0).sV.size&&bf (gi d 0).sV.size 9223372036854775807))))with
 |false=>rw[a]at h; cases h
 | true =>
  rw[a]at h;cases h;simp only[aE,dH,Nat.ble_eq]at a;have g:(Tryz.prog.info? (Tryz.O8.t 116)).map (fun i=>(i.zero,i.size))=some (some (.agg (Array.replicate 256 (.bool false))),256):=by kernel_rfl
  exact(yH (vs:=[.string (gi d 0).sV,.string (gi d 1).sV]) fun w=>(Proofs.Any.strings_Trim_set Tryz.Y4 (zero_of_info g).1 (zero_of_info g).2 (gi d 0).sV (gi d 1).sV w a.2.1 a.2.2.2.1 a.2.2.2.2 a.2.2.1 fun j b k=>by
   have:=List.all_eq_true.1 a.1 b (List.mem_of_getElem? k);simpa[dH]using this).mono fun _ _ h=>⟨h.1,by
    obtain⟨_,q,rfl⟩:=h;exact((Ext.push w _).trans (Ext.push _ _)).trans (Ext.drawn _ _ (Nat.le_add_right _ _))⟩) []
def t4:aJ:=t3.aZ Pg
def ZE:aL P t4:=ZC.aP ZD
def Ph(d:LG):Option LG:=some [.i (Il (gi d 0).sV (gi d 1).iV)]
def Pj:aM:=⟨117,[aS,.s (.int .u8)],[],[],[az],[],[],[],Ph⟩
def ZF:gR P Pj:=fun d r (h:Ph d=some r)=>by
 cases h;exact(yH (vs:=[.string (gi d 0).sV,.int .u8 (gi d 1).iV]) fun w=>(Proofs.Any.stringslite_IndexByte Tryz.Y6 (gi d 0).sV (gi d 1).iV w).mono fun e w' h=>⟨h.1,h.2▸Ext.refl w⟩) []
def t5:aJ:=t4.aZ Pj
def ZG:aL P t5:=ZE.aP ZF
end
end Go.Proofs.jL
