/-
 What is proved here: functions of the program as functions on data. No condition.
-/
import Derived.Test.YtkkkhbhbjlikhaaGreatDoorMU
import Derived.Shelf.Strings.BuilderX
import Derived.Test.YtkkkhbhbjlikhaaGreatDoorMY
import Derived.Test.YtkkkhbhbjlikhaaGreatDoorMH
import Derived.Test.YtkkkhbhbjlikhaaGreatDoorChecked
import Derived.Test.YtkkkhbhbjlikhaaGreatDoorMR
import Derived.Test.YtkkkhbhbjlikhaaGreatDoorMI
import Derived.Shelf.SortM.Plain
import Derived.Shelf.SortM.SortNone
import Derived.Test.YtkkkhbhbjlikhaaGreatDoorMQ
import Derived.Test.YtkkkhbhbjlikhaaGreatDoorMT
import Derived.Shelf.Small.Strs
import Derived.Shelf.Strconv.Itoa3
import Derived.Shelf.Strings.Search1
import Derived.Shelf.Strings.SlTrimAscii
import Derived.Test.YtkkkhbhbjlikhaaGreatDoorMG
open Bool renaming and_eq_true->aR
open Go renaming Program->ak
open Nat renaming ble->bW,blt->fT,blt_eq->jS
namespace List
open Go.AL
abbrev iV(d:List G)(k:Nat):Int:=(gi d k).iV
abbrev rZ(d:List G)(k:Nat):List (List G):=(gi d k).rZ
abbrev sV(d:List G)(k:Nat):ByteArray:=(gi d k).sV
abbrev bV(d:List G)(k:Nat):Bool:=(gi d k).bV
abbrev rV(d:List G)(k:Nat):List G:=(gi d k).rV
abbrev nN(d:List G)(k:Nat):Int:=(((gi d k).iV.toNat:Nat):Int)
abbrev gR(l:List (List G))(i:Int):List G:=l.getD i.toNat []
attribute [go_sem] iV rZ sV bV rV nN gR
end List
set_option linter.all false
namespace Go.AL
noncomputable section
inductive Kq where
 |l|i|s|t
def kp(d:LG):Nat->List Kq->LG->LG
 |_,[],r=>r
 |k,.l::q,r=>.l (gi d k).rZ::kp d (k+1) q r
 |k,.i::q,r=>.i (gi d k).iV::kp d (k+1) q r
 |k,.s::q,r=>.s (gi d k).sV::kp d (k+1) q r
 |k,.t::q,r=>.t (gi d k).bV::kp d (k+1) q r
attribute [go_sem] kp
abbrev bE{α:Type}(q:List α):Bool:=Nat.beq q.length q.length&&true
abbrev nL(a b:Int):Bool:=eg a&&ba a b
abbrev lI{α:Type}(q:List α):Int:=((q.length:Nat):Int)
abbrev nQ(x:LG):bk:=some (none,x)
abbrev eQ(x:LG):bk:=some (some 0,x)
abbrev eR(x:LG):bk:=some (some 1,x)
attribute [go_sem] bE nL lI nQ eQ eR
abbrev gd{α:Type}(c:Bool)(x:Option α):Option α:=bif c then x else none
attribute [go_sem] gd
def fR{α:Type}{a:Option α}{x y:α}(h:a=some x)(e:x=y:=by kernel_rfl):a=some y:=h.trans (congrArg some e)
section
variable [Dr]
def aw.aP{P:ak}{τ:ar}(h:aw P τ){sp:aI}(hc:ff P sp)(d:eC P sp.f=true:=by kernel_rfl)(g:BX sp=true:=by kernel_rfl):aw P (τ.bx sp):=h.bx d g hc
def aw.aW{P:ak}{τ:ar}(h:aw P τ){sp:aI}(hc:ff P sp)(d:eC P sp.f=true:=by kernel_rfl)(g:sa sp=true:=by kernel_rfl):aw P (τ.df sp):=h.df d g hc
def aQ.a{P:ak}{τ:ar}{m:Nat}{L:LT}(hm:P.follows .mixedOrders=true)(d:aw P τ){fn:Func}{sp:bF}(g:aQ P m L (bf fn))(hr:wz P τ L m (yE fn sp.key) sp) (hn:nodupB ((cI (bf fn)).map (·.1))=true:=by kernel_rfl):aQ P m (L.add m sp) (bf fn):=aQ.add hm d hn g hr
def aQ.aC{P:ak}{τ:ar}{m:Nat}{L:LT}(hm:P.follows .mixedOrders=true)(d:aw P τ){fn:Func}{sp:bF}(g:aQ P m L (bf fn))(hr:qI P τ L m (bS fn sp.key) sp) (hn:mF sp.key (cB (bf fn))=true:=by kernel_rfl):aQ P m (L.gF m sp) (bf fn):=aQ.gF hm d hn g hr
def zf{P:ak}{τ:ar}{L:LT}(hm:P.follows .mixedOrders=true)(g:aw P τ){sp:aI}{fn:Func}(q:P.funcs[sp.f]?=some fn)(A:aQ P sp.bj.length L (bf fn))(B:uk P τ L fn sp)(F:fn.body.isSome=true:=by kernel_rfl)(d:jW sp.bj=true:=by kernel_rfl):ff P sp:=qJ hm g q F A B d
end
end
end Go.AL
set_option linter.all false
namespace Go.Proofs
open Go.Shelf Go.RowKit Go.AL
set_option maxHeartbeats 4000000
def Tryz.afr:Go.Shelf.Ren:=⟨fun|106=>41|213=>76|265=>123|n=>n,fun|9=>9|3=>3|n=>n,fun|n=>n⟩
def Tryz.afs:Go.Proofs.Lays.n106 Tryz.prog Tryz.afr:={ mixed:=by kernel_rfl,f106:=fR func41,f213:=fR func76,f265:=fR func123,t3:=underlying3,a3:=isAgg3,z3:=sizeOf3,v3:=zeroValue3,t9:=underlying9,a9:=isAgg9,z9:=sizeOf9,v9:=zeroValue9 }
def Tryz.aft:Go.Shelf.Ren:=⟨fun|137=>58|217=>103|266=>147|n=>n,fun|9=>9|5=>5|3=>3|n=>n,fun|n=>n⟩
def Tryz.TO:Go.Proofs.Lays.n137 Tryz.prog Tryz.aft:={ mixed:=by kernel_rfl,f137:=fR func58,f217:=fR func103,f266:=fR func147,t3:=underlying3,a3:=isAgg3,z3:=sizeOf3,v3:=zeroValue3,t5:=underlying5,a5:=isAgg5,z5:=sizeOf5,v5:=zeroValue5,t9:=underlying9,a9:=isAgg9,z9:=sizeOf9,v9:=zeroValue9 }
def Tryz.TP:Go.Shelf.Ren:=⟨fun|160=>124|232=>173|231=>172|227=>174|234=>176|233=>175|236=>178|235=>177|228=>234|271=>236|151=>235|197=>181|120=>294|152=>293|260=>240|137=>58|119=>319|224=>242|225=>241|217=>103|266=>147|n=>n,fun|9=>9|4=>4|3=>3|5=>5|117=>200|116=>199|0=>0|124=>203|21=>21|105=>205|46=>150|119=>285|139=>288|138=>287|n=>n,fun|3=>4|4=>5|n=>n⟩
def Tryz.afu:Go.Proofs.Lays.n160 Tryz.prog Tryz.TP:={ mixed:=by kernel_rfl,f119:=fR func319,f120:=fR func294,f137:=fR func58,f151:=fR func235,f152:=fR func293,f160:=fR func124,f197:=fR func181,f217:=fR func103,f224:=fR func242,f225:=fR func241,f227:=fR func174,f228:=fR func234,f231:=fR func172,f232:=fR func173,f233:=fR func175,f234:=fR func176,f235:=fR func177,f236:=fR func178,f260:=fR func240,f266:=fR func147,f271:=fR func236,t0:=underlying0,a0:=isAgg0,z0:=sizeOf0,v0:=zeroValue0,t3:=underlying3,a3:=isAgg3,z3:=sizeOf3,v3:=zeroValue3,t4:=underlying4,a4:=isAgg4,z4:=sizeOf4,v4:=zeroValue4,t5:=underlying5,a5:=isAgg5,z5:=sizeOf5,v5:=zeroValue5,t9:=underlying9,a9:=isAgg9,z9:=sizeOf9,v9:=zeroValue9,t21:=underlying21,a21:=isAgg21,z21:=sizeOf21,v21:=zeroValue21,t46:=underlying150,a46:=isAgg150,z46:=sizeOf150,v46:=zeroValue150,t105:=underlying205,a105:=isAgg205,z105:=sizeOf205,v105:=zeroValue205,t116:=underlying199,a116:=isAgg199,z116:=sizeOf199,t117:=underlying200,a117:=isAgg200,z117:=sizeOf200,v117:=zeroValue200,t119:=underlying285,a119:=isAgg285,z119:=sizeOf285,t124:=underlying203,a124:=isAgg203,z124:=sizeOf203,v124:=zeroValue203,t138:=underlying287,a138:=isAgg287,z138:=sizeOf287,v138:=zeroValue287,t139:=underlying288,a139:=isAgg288,z139:=sizeOf288,v139:=zeroValue288,g3:=by kernel_rfl,g4:=by kernel_rfl }
def Tryz.afv:Go.Shelf.Ren:=⟨fun|217=>103|266=>147|n=>n,fun|9=>9|5=>5|3=>3|n=>n,fun|n=>n⟩
def Tryz.afw:Go.Proofs.Lays.n217 Tryz.prog Tryz.afv:={ mixed:=by kernel_rfl,f217:=fR func103,f266:=fR func147,t3:=underlying3,a3:=isAgg3,z3:=sizeOf3,v3:=zeroValue3,t5:=underlying5,a5:=isAgg5,z5:=sizeOf5,v5:=zeroValue5,t9:=underlying9,a9:=isAgg9,z9:=sizeOf9,v9:=zeroValue9 }
def Tryz.afx:Go.Shelf.Ren:=⟨fun|221=>85|268=>127|138=>128|143=>129|195=>180|197=>181|218=>182|219=>183|260=>240|217=>103|225=>241|224=>242|267=>243|266=>147|314=>296|n=>n,fun|9=>9|3=>3|31=>48|4=>4|0=>0|105=>205|21=>21|5=>5|46=>150|119=>285|139=>288|138=>287|146=>289|51=>233|n=>n,fun|1=>0|3=>4|4=>5|n=>n⟩
def Tryz.afy:Go.Proofs.Lays.n221 Tryz.prog Tryz.afx:={ mixed:=by kernel_rfl,f138:=fR func128,f143:=fR func129,f195:=fR func180,f197:=fR func181,f217:=fR func103,f218:=fR func182,f219:=fR func183,f221:=fR func85,f224:=fR func242,f225:=fR func241,f260:=fR func240,f266:=fR func147,f267:=fR func243,f268:=fR func127,f314:=fR func296,t0:=underlying0,a0:=isAgg0,z0:=sizeOf0,v0:=zeroValue0,t3:=underlying3,a3:=isAgg3,z3:=sizeOf3,v3:=zeroValue3,t4:=underlying4,a4:=isAgg4,z4:=sizeOf4,v4:=zeroValue4,t5:=underlying5,a5:=isAgg5,z5:=sizeOf5,v5:=zeroValue5,t9:=underlying9,a9:=isAgg9,z9:=sizeOf9,v9:=zeroValue9,t21:=underlying21,a21:=isAgg21,z21:=sizeOf21,v21:=zeroValue21,t31:=underlying48,a31:=isAgg48,z31:=sizeOf48,v31:=zeroValue48,t46:=underlying150,a46:=isAgg150,z46:=sizeOf150,v46:=zeroValue150,t51:=underlying233,a51:=isAgg233,z51:=sizeOf233,v51:=zeroValue233,t105:=underlying205,a105:=isAgg205,z105:=sizeOf205,v105:=zeroValue205,t119:=underlying285,a119:=isAgg285,z119:=sizeOf285,t138:=underlying287,a138:=isAgg287,z138:=sizeOf287,v138:=zeroValue287,t139:=underlying288,a139:=isAgg288,z139:=sizeOf288,v139:=zeroValue288,t146:=underlying289,a146:=isAgg289,z146:=sizeOf289,v146:=zeroValue289,g1:=by kernel_rfl,g3:=by kernel_rfl,g4:=by kernel_rfl }
def Tryz.afz:Go.Shelf.Ren:=⟨fun|172=>72|244=>119|245=>120|247=>162|279=>163|280=>164|281=>165|282=>166|287=>227|316=>228|171=>36|205=>229|321=>289|322=>290|243=>73|246=>121|283=>167|284=>168|285=>169|286=>170|129=>217|317=>230|318=>231|319=>232|320=>233|337=>291|338=>292|n=>n,fun|9=>9|3=>3|75=>59|76=>60|4=>4|5=>5|167=>185|37=>55|0=>0|85=>186|2=>2|168=>188|53=>192|175=>239|46=>150|210=>242|127=>89|145=>283|143=>281|21=>21|171=>191|173=>195|212=>245|51=>233|20=>20|213=>246|232=>307|233=>308|80=>29|n=>n,fun|15=>1|16=>2|17=>3|18=>6|19=>7|n=>n⟩
def Tryz.afA:Go.Proofs.Lays.n172 Tryz.prog Tryz.afz:={ mixed:=by kernel_rfl,f129:=fR func217,f171:=fR func36,f172:=fR func72,f205:=fR func229,f243:=fR func73,f244:=fR func119,f245:=fR func120,f246:=fR func121,f247:=fR func162,f279:=fR func163,f280:=fR func164,f281:=fR func165,f282:=fR func166,f283:=fR func167,f284:=fR func168,f285:=fR func169,f286:=fR func170,f287:=fR func227,f316:=fR func228,f317:=fR func230,f318:=fR func231,f319:=fR func232,f320:=fR func233,f321:=fR func289,f322:=fR func290,f337:=fR func291,f338:=fR func292,t0:=underlying0,a0:=isAgg0,z0:=sizeOf0,v0:=zeroValue0,t2:=underlying2,a2:=isAgg2,z2:=sizeOf2,v2:=zeroValue2,t3:=underlying3,a3:=isAgg3,z3:=sizeOf3,v3:=zeroValue3,t4:=underlying4,a4:=isAgg4,z4:=sizeOf4,v4:=zeroValue4,t5:=underlying5,a5:=isAgg5,z5:=sizeOf5,v5:=zeroValue5,t9:=underlying9,a9:=isAgg9,z9:=sizeOf9,v9:=zeroValue9,t20:=underlying20,a20:=isAgg20,z20:=sizeOf20,v20:=zeroValue20,t21:=underlying21,a21:=isAgg21,z21:=sizeOf21,v21:=zeroValue21,t37:=underlying55,a37:=isAgg55,z37:=sizeOf55,v37:=zeroValue55,t46:=underlying150,a46:=isAgg150,z46:=sizeOf150,v46:=zeroValue150,t51:=underlying233,a51:=isAgg233,z51:=sizeOf233,v51:=zeroValue233,t53:=underlying192,a53:=isAgg192,z53:=sizeOf192,v53:=zeroValue192,t75:=underlying59,a75:=isAgg59,z75:=sizeOf59,v75:=zeroValue59,t76:=underlying60,a76:=isAgg60,z76:=sizeOf60,v76:=zeroValue60,t85:=underlying186,a85:=isAgg186,z85:=sizeOf186,v85:=zeroValue186,t127:=underlying89,a127:=isAgg89,z127:=sizeOf89,v127:=zeroValue89,t143:=underlying281,a143:=isAgg281,z143:=sizeOf281,v143:=zeroValue281,t145:=underlying283,a145:=isAgg283,z145:=sizeOf283,v145:=zeroValue283,t167:=underlying185,a167:=isAgg185,z167:=sizeOf185,v167:=zeroValue185,t168:=underlying188,a168:=isAgg188,z168:=sizeOf188,v168:=zeroValue188,t171:=underlying191,a171:=isAgg191,z171:=sizeOf191,v171:=zeroValue191,t173:=underlying195,a173:=isAgg195,z173:=sizeOf195,v173:=zeroValue195,t175:=underlying239,a175:=isAgg239,z175:=sizeOf239,v175:=zeroValue239,t210:=underlying242,a210:=isAgg242,z210:=sizeOf242,v210:=zeroValue242,t212:=underlying245,a212:=isAgg245,z212:=sizeOf245,v212:=zeroValue245,t213:=underlying246,a213:=isAgg246,z213:=sizeOf246,t232:=underlying307,a232:=isAgg307,z232:=sizeOf307,v232:=zeroValue307,t233:=underlying308,a233:=isAgg308,z233:=sizeOf308,v233:=zeroValue308,g15:=by kernel_rfl,g16:=by kernel_rfl,g17:=by kernel_rfl,g18:=by kernel_rfl,g19:=by kernel_rfl }
def Tryz.TQ:Go.Shelf.Ren:=⟨fun|156=>105|165=>153|166=>21|169=>23|240=>46|241=>204|276=>86|277=>271|n=>n,fun|31=>48|9=>9|3=>3|4=>4|0=>0|20=>20|72=>57|76=>60|70=>54|37=>55|75=>59|127=>89|164=>116|5=>5|80=>29|n=>n,fun|n=>n⟩
def Tryz.afB:Go.Proofs.Lays.n156 Tryz.prog Tryz.TQ:={ mixed:=by kernel_rfl,f156:=fR func105,f165:=fR func153,f166:=fR func21,f169:=fR func23,f240:=fR func46,f241:=fR func204,f276:=fR func86,f277:=fR func271,t0:=underlying0,a0:=isAgg0,z0:=sizeOf0,v0:=zeroValue0,t3:=underlying3,a3:=isAgg3,z3:=sizeOf3,v3:=zeroValue3,t4:=underlying4,a4:=isAgg4,z4:=sizeOf4,v4:=zeroValue4,t9:=underlying9,a9:=isAgg9,z9:=sizeOf9,v9:=zeroValue9,t20:=underlying20,a20:=isAgg20,z20:=sizeOf20,v20:=zeroValue20,t31:=underlying48,a31:=isAgg48,z31:=sizeOf48,v31:=zeroValue48,t37:=underlying55,a37:=isAgg55,z37:=sizeOf55,v37:=zeroValue55,t70:=underlying54,a70:=isAgg54,z70:=sizeOf54,v70:=zeroValue54,t72:=underlying57,a72:=isAgg57,z72:=sizeOf57,v72:=zeroValue57,t75:=underlying59,a75:=isAgg59,z75:=sizeOf59,v75:=zeroValue59,t76:=underlying60,a76:=isAgg60,z76:=sizeOf60,v76:=zeroValue60,t127:=underlying89,a127:=isAgg89,z127:=sizeOf89,v127:=zeroValue89,t164:=underlying116,a164:=isAgg116,z164:=sizeOf116,v164:=zeroValue116 }
def Tryz.TR:Go.Shelf.Ren:=⟨fun|166=>21|240=>46|276=>86|n=>n,fun|70=>54|9=>9|3=>3|75=>59|0=>0|72=>57|37=>55|4=>4|164=>116|80=>29|5=>5|n=>n,fun|n=>n⟩
def Tryz.afC:Go.Proofs.Lays.n166 Tryz.prog Tryz.TR:={ mixed:=by kernel_rfl,f166:=fR func21,f240:=fR func46,f276:=fR func86,t0:=underlying0,a0:=isAgg0,z0:=sizeOf0,v0:=zeroValue0,t3:=underlying3,a3:=isAgg3,z3:=sizeOf3,v3:=zeroValue3,t4:=underlying4,a4:=isAgg4,z4:=sizeOf4,v4:=zeroValue4,t9:=underlying9,a9:=isAgg9,z9:=sizeOf9,v9:=zeroValue9,t20:=underlying20,a20:=isAgg20,z20:=sizeOf20,v20:=zeroValue20,t37:=underlying55,a37:=isAgg55,z37:=sizeOf55,v37:=zeroValue55,t70:=underlying54,a70:=isAgg54,z70:=sizeOf54,v70:=zeroValue54,t72:=underlying57,a72:=isAgg57,z72:=sizeOf57,v72:=zeroValue57,t75:=underlying59,a75:=isAgg59,z75:=sizeOf59,v75:=zeroValue59,t164:=underlying116,a164:=isAgg116,z164:=sizeOf116,v164:=zeroValue116 }
def Tryz.TS:Go.Shelf.Ren:=⟨fun|169=>23|n=>n,fun|70=>54|9=>9|0=>0|72=>57|37=>55|127=>89|3=>3|5=>5|n=>n,fun|n=>n⟩
def Tryz.afD:Go.Proofs.Lays.n169 Tryz.prog Tryz.TS:={ mixed:=by kernel_rfl,f169:=fR func23,t0:=underlying0,a0:=isAgg0,z0:=sizeOf0,v0:=zeroValue0,t3:=underlying3,a3:=isAgg3,z3:=sizeOf3,v3:=zeroValue3,t9:=underlying9,a9:=isAgg9,z9:=sizeOf9,v9:=zeroValue9,t37:=underlying55,a37:=isAgg55,z37:=sizeOf55,v37:=zeroValue55,t70:=underlying54,a70:=isAgg54,z70:=sizeOf54,v70:=zeroValue54,t72:=underlying57,a72:=isAgg57,z72:=sizeOf57,v72:=zeroValue57,t127:=underlying89,a127:=isAgg89,z127:=sizeOf89,v127:=zeroValue89 }
def Tryz.afE:Go.Shelf.Ren:=⟨fun|171=>36|243=>73|246=>121|283=>167|284=>168|285=>169|286=>170|129=>217|317=>230|318=>231|319=>232|320=>233|337=>291|338=>292|n=>n,fun|3=>3|9=>9|2=>2|4=>4|171=>191|0=>0|53=>192|37=>55|5=>5|173=>195|212=>245|51=>233|20=>20|213=>246|46=>150|232=>307|233=>308|n=>n,fun|17=>3|18=>6|19=>7|n=>n⟩
def Tryz.afF:Go.Proofs.LaysM.n171 Tryz.prog Tryz.afE:={ mixed:=by kernel_rfl,f129:=fR func217,f171:=fR func36,f243:=fR func73,f246:=fR func121,f283:=fR func167,f284:=fR func168,f285:=fR func169,f286:=fR func170,f317:=fR func230,f318:=fR func231,f319:=fR func232,f320:=fR func233,f337:=fR func291,f338:=fR func292,t0:=underlying0,a0:=isAgg0,z0:=sizeOf0,v0:=zeroValue0,t2:=underlying2,a2:=isAgg2,z2:=sizeOf2,v2:=zeroValue2,t3:=underlying3,a3:=isAgg3,z3:=sizeOf3,v3:=zeroValue3,t4:=underlying4,a4:=isAgg4,z4:=sizeOf4,v4:=zeroValue4,t5:=underlying5,a5:=isAgg5,z5:=sizeOf5,v5:=zeroValue5,t9:=underlying9,a9:=isAgg9,z9:=sizeOf9,v9:=zeroValue9,t20:=underlying20,a20:=isAgg20,z20:=sizeOf20,v20:=zeroValue20,t37:=underlying55,a37:=isAgg55,z37:=sizeOf55,v37:=zeroValue55,t46:=underlying150,a46:=isAgg150,z46:=sizeOf150,v46:=zeroValue150,t51:=underlying233,a51:=isAgg233,z51:=sizeOf233,v51:=zeroValue233,t53:=underlying192,a53:=isAgg192,z53:=sizeOf192,v53:=zeroValue192,t171:=underlying191,a171:=isAgg191,z171:=sizeOf191,v171:=zeroValue191,t173:=underlying195,a173:=isAgg195,z173:=sizeOf195,v173:=zeroValue195,t212:=underlying245,a212:=isAgg245,z212:=sizeOf245,v212:=zeroValue245,t213:=underlying246,a213:=isAgg246,z213:=sizeOf246,t232:=underlying307,a232:=isAgg307,z232:=sizeOf307,v232:=zeroValue307,t233:=underlying308,a233:=isAgg308,z233:=sizeOf308,v233:=zeroValue308,g17:=by kernel_rfl,g18:=by kernel_rfl,g19:=by kernel_rfl,i0:=by kernel_rfl,i2:=by kernel_rfl,i3:=by kernel_rfl,i4:=by kernel_rfl,i5:=by kernel_rfl,i9:=by kernel_rfl,i20:=by kernel_rfl,i37:=by kernel_rfl,i46:=by kernel_rfl,i51:=by kernel_rfl,i53:=by kernel_rfl,i171:=by kernel_rfl,i173:=by kernel_rfl,i212:=by kernel_rfl,i232:=by kernel_rfl,i233:=by kernel_rfl,m17:=by kernel_rfl,m18:=by kernel_rfl,m19:=by kernel_rfl }
def Tryz.afG:Go.Shelf.Ren:=⟨fun|6=>134|15=>159|14=>186|28=>216|29=>217|20=>245|21=>246|22=>247|23=>248|24=>249|25=>250|26=>251|27=>252|46=>297|47=>281|48=>282|49=>298|50=>299|57=>323|n=>n,fun|22=>99|24=>40|25=>158|3=>3|39=>150|0=>0|53=>233|55=>192|4=>4|46=>226|45=>225|50=>78|5=>5|9=>9|66=>272|70=>276|76=>303|77=>304|n=>n,fun|n=>n⟩
def Tryz.afH:Go.Proofs.SlLaysF0.n6 Tryz.prog Tryz.afG:={ mixed:=by kernel_rfl,f6:=⟨f134.name,aj,fR func134⟩,f14:=⟨f186.name,aj,fR func186⟩,f15:=fR func159,f20:=⟨Tryz.f245.name,aj,fR func245⟩,f21:=⟨Tryz.f246.name,aj,fR func246⟩,f22:=⟨Tryz.f247.name,aj,fR func247⟩,f23:=⟨f248.name,aj,fR func248⟩,f24:=⟨f249.name,aj,fR func249⟩,f25:=⟨f250.name,aj,fR func250⟩,f26:=⟨f251.name,aj,fR func251⟩,f27:=⟨f252.name,aj,fR func252⟩,f28:=fR func216,f29:=fR func217,f46:=⟨f297.name,aj,fR func297⟩,f47:=fR func281,f48:=fR func282,f49:=⟨f298.name,aj,fR func298⟩,f50:=⟨f299.name,aj,fR func299⟩,f57:=⟨f323.name,aj,fR func323⟩,t0:=underlying0,a0:=isAgg0,z0:=sizeOf0,v0:=zeroValue0,t3:=underlying3,a3:=isAgg3,z3:=sizeOf3,v3:=zeroValue3,t4:=underlying4,a4:=isAgg4,z4:=sizeOf4,v4:=zeroValue4,t5:=underlying5,a5:=isAgg5,z5:=sizeOf5,v5:=zeroValue5,t9:=underlying9,a9:=isAgg9,z9:=sizeOf9,v9:=zeroValue9,t22:=underlying99,a22:=isAgg99,z22:=sizeOf99,v22:=zeroValue99,t25:=underlying158,a25:=isAgg158,z25:=sizeOf158,v25:=zeroValue158,t39:=underlying150,a39:=isAgg150,z39:=sizeOf150,v39:=zeroValue150,t45:=underlying225,a45:=isAgg225,z45:=sizeOf225,v45:=zeroValue225,t46:=underlying226,a46:=isAgg226,z46:=sizeOf226,v46:=zeroValue226,t50:=underlying78,a50:=isAgg78,z50:=sizeOf78,v50:=zeroValue78,t53:=underlying233,a53:=isAgg233,z53:=sizeOf233,v53:=zeroValue233,t55:=underlying192,a55:=isAgg192,z55:=sizeOf192,v55:=zeroValue192,t66:=underlying272,a66:=isAgg272,z66:=sizeOf272,v66:=zeroValue272,t70:=underlying276,a70:=isAgg276,z70:=sizeOf276,v70:=zeroValue276,t76:=underlying303,a76:=isAgg303,z76:=sizeOf303,v76:=zeroValue303,t77:=underlying304,a77:=isAgg304,z77:=sizeOf304,v77:=zeroValue304 }
def Tryz.afI:Go.Shelf.Ren:=⟨fun|6=>151|15=>159|14=>203|28=>216|29=>217|20=>74|21=>264|22=>265|23=>266|24=>267|25=>268|26=>269|27=>270|46=>311|47=>281|48=>282|49=>312|50=>313|57=>327|n=>n,fun|22=>26|24=>42|25=>47|3=>3|39=>150|0=>0|53=>233|55=>192|4=>4|46=>226|45=>225|50=>78|5=>5|9=>9|66=>272|70=>276|76=>303|77=>304|n=>n,fun|n=>n⟩
def Tryz.afJ:Go.Proofs.SlLaysF0.n6 Tryz.prog Tryz.afI:={ mixed:=by kernel_rfl,f6:=⟨Tryz.f151.name,aj,fR func151⟩,f14:=⟨f203.name,aj,fR func203⟩,f15:=fR func159,f20:=⟨f74.name,aj,fR func74⟩,f21:=⟨f264.name,aj,fR func264⟩,f22:=⟨Tryz.f265.name,aj,fR func265⟩,f23:=⟨Tryz.f266.name,aj,fR func266⟩,f24:=⟨Tryz.f267.name,aj,fR func267⟩,f25:=⟨Tryz.f268.name,aj,fR func268⟩,f26:=⟨f269.name,aj,fR func269⟩,f27:=⟨f270.name,aj,fR func270⟩,f28:=fR func216,f29:=fR func217,f46:=⟨f311.name,aj,fR func311⟩,f47:=fR func281,f48:=fR func282,f49:=⟨f312.name,aj,fR func312⟩,f50:=⟨f313.name,aj,fR func313⟩,f57:=⟨f327.name,aj,fR func327⟩,t0:=underlying0,a0:=isAgg0,z0:=sizeOf0,v0:=zeroValue0,t3:=underlying3,a3:=isAgg3,z3:=sizeOf3,v3:=zeroValue3,t4:=underlying4,a4:=isAgg4,z4:=sizeOf4,v4:=zeroValue4,t5:=underlying5,a5:=isAgg5,z5:=sizeOf5,v5:=zeroValue5,t9:=underlying9,a9:=isAgg9,z9:=sizeOf9,v9:=zeroValue9,t22:=underlying26,a22:=isAgg26,z22:=sizeOf26,v22:=zeroValue26,t25:=underlying47,a25:=isAgg47,z25:=sizeOf47,v25:=zeroValue47,t39:=underlying150,a39:=isAgg150,z39:=sizeOf150,v39:=zeroValue150,t45:=underlying225,a45:=isAgg225,z45:=sizeOf225,v45:=zeroValue225,t46:=underlying226,a46:=isAgg226,z46:=sizeOf226,v46:=zeroValue226,t50:=underlying78,a50:=isAgg78,z50:=sizeOf78,v50:=zeroValue78,t53:=underlying233,a53:=isAgg233,z53:=sizeOf233,v53:=zeroValue233,t55:=underlying192,a55:=isAgg192,z55:=sizeOf192,v55:=zeroValue192,t66:=underlying272,a66:=isAgg272,z66:=sizeOf272,v66:=zeroValue272,t70:=underlying276,a70:=isAgg276,z70:=sizeOf276,v70:=zeroValue276,t76:=underlying303,a76:=isAgg303,z76:=sizeOf303,v76:=zeroValue303,t77:=underlying304,a77:=isAgg304,z77:=sizeOf304,v77:=zeroValue304 }
def Tryz.afK:Go.Shelf.Ren:=⟨fun|6=>156|15=>159|14=>206|28=>216|29=>217|20=>272|21=>273|22=>274|23=>275|24=>276|25=>277|26=>278|27=>279|46=>314|47=>281|48=>282|49=>315|50=>316|57=>328|n=>n,fun|22=>137|24=>140|25=>180|3=>3|39=>150|0=>0|53=>233|55=>192|4=>4|46=>226|45=>225|50=>78|5=>5|9=>9|66=>272|70=>276|76=>303|77=>304|n=>n,fun|n=>n⟩
def Tryz.afL:Go.Proofs.SlLaysF0.n6 Tryz.prog Tryz.afK:={ mixed:=by kernel_rfl,f6:=⟨Tryz.f156.name,aj,fR func156⟩,f14:=⟨f206.name,aj,fR func206⟩,f15:=fR func159,f20:=⟨f272.name,aj,fR func272⟩,f21:=⟨f273.name,aj,fR func273⟩,f22:=⟨f274.name,aj,fR func274⟩,f23:=⟨f275.name,aj,fR func275⟩,f24:=⟨Tryz.f276.name,aj,fR func276⟩,f25:=⟨Tryz.f277.name,aj,fR func277⟩,f26:=⟨f278.name,aj,fR func278⟩,f27:=⟨Tryz.f279.name,aj,fR func279⟩,f28:=fR func216,f29:=fR func217,f46:=⟨Tryz.f314.name,aj,fR func314⟩,f47:=fR func281,f48:=fR func282,f49:=⟨f315.name,aj,fR func315⟩,f50:=⟨Tryz.f316.name,aj,fR func316⟩,f57:=⟨f328.name,aj,fR func328⟩,t0:=underlying0,a0:=isAgg0,z0:=sizeOf0,v0:=zeroValue0,t3:=underlying3,a3:=isAgg3,z3:=sizeOf3,v3:=zeroValue3,t4:=underlying4,a4:=isAgg4,z4:=sizeOf4,v4:=zeroValue4,t5:=underlying5,a5:=isAgg5,z5:=sizeOf5,v5:=zeroValue5,t9:=underlying9,a9:=isAgg9,z9:=sizeOf9,v9:=zeroValue9,t22:=underlying137,a22:=isAgg137,z22:=sizeOf137,v22:=zeroValue137,t25:=underlying180,a25:=isAgg180,z25:=sizeOf180,v25:=zeroValue180,t39:=underlying150,a39:=isAgg150,z39:=sizeOf150,v39:=zeroValue150,t45:=underlying225,a45:=isAgg225,z45:=sizeOf225,v45:=zeroValue225,t46:=underlying226,a46:=isAgg226,z46:=sizeOf226,v46:=zeroValue226,t50:=underlying78,a50:=isAgg78,z50:=sizeOf78,v50:=zeroValue78,t53:=underlying233,a53:=isAgg233,z53:=sizeOf233,v53:=zeroValue233,t55:=underlying192,a55:=isAgg192,z55:=sizeOf192,v55:=zeroValue192,t66:=underlying272,a66:=isAgg272,z66:=sizeOf272,v66:=zeroValue272,t70:=underlying276,a70:=isAgg276,z70:=sizeOf276,v70:=zeroValue276,t76:=underlying303,a76:=isAgg303,z76:=sizeOf303,v76:=zeroValue303,t77:=underlying304,a77:=isAgg304,z77:=sizeOf304,v77:=zeroValue304 }
def Tryz.afM:Go.Shelf.Ren:=⟨fun|6=>190|15=>159|14=>256|28=>216|29=>217|20=>301|21=>302|22=>303|23=>304|24=>305|25=>306|26=>307|27=>308|46=>324|47=>281|48=>282|49=>325|50=>326|57=>332|n=>n,fun|22=>159|24=>85|25=>164|3=>3|39=>150|0=>0|53=>233|55=>192|4=>4|46=>226|45=>225|50=>78|5=>5|9=>9|66=>272|70=>276|76=>303|77=>304|n=>n,fun|n=>n⟩
def Tryz.afN:Go.Proofs.SlLaysF0.n6 Tryz.prog Tryz.afM:={ mixed:=by kernel_rfl,f6:=⟨f190.name,aj,fR func190⟩,f14:=⟨f256.name,aj,fR func256⟩,f15:=fR func159,f20:=⟨f301.name,aj,fR func301⟩,f21:=⟨f302.name,aj,fR func302⟩,f22:=⟨f303.name,aj,fR func303⟩,f23:=⟨f304.name,aj,fR func304⟩,f24:=⟨f305.name,aj,fR func305⟩,f25:=⟨f306.name,aj,fR func306⟩,f26:=⟨f307.name,aj,fR func307⟩,f27:=⟨f308.name,aj,fR func308⟩,f28:=fR func216,f29:=fR func217,f46:=⟨f324.name,aj,fR func324⟩,f47:=fR func281,f48:=fR func282,f49:=⟨f325.name,aj,fR func325⟩,f50:=⟨f326.name,aj,fR func326⟩,f57:=⟨f332.name,aj,fR func332⟩,t0:=underlying0,a0:=isAgg0,z0:=sizeOf0,v0:=zeroValue0,t3:=underlying3,a3:=isAgg3,z3:=sizeOf3,v3:=zeroValue3,t4:=underlying4,a4:=isAgg4,z4:=sizeOf4,v4:=zeroValue4,t5:=underlying5,a5:=isAgg5,z5:=sizeOf5,v5:=zeroValue5,t9:=underlying9,a9:=isAgg9,z9:=sizeOf9,v9:=zeroValue9,t22:=underlying159,a22:=isAgg159,z22:=sizeOf159,v22:=zeroValue159,t25:=underlying164,a25:=isAgg164,z25:=sizeOf164,v25:=zeroValue164,t39:=underlying150,a39:=isAgg150,z39:=sizeOf150,v39:=zeroValue150,t45:=underlying225,a45:=isAgg225,z45:=sizeOf225,v45:=zeroValue225,t46:=underlying226,a46:=isAgg226,z46:=sizeOf226,v46:=zeroValue226,t50:=underlying78,a50:=isAgg78,z50:=sizeOf78,v50:=zeroValue78,t53:=underlying233,a53:=isAgg233,z53:=sizeOf233,v53:=zeroValue233,t55:=underlying192,a55:=isAgg192,z55:=sizeOf192,v55:=zeroValue192,t66:=underlying272,a66:=isAgg272,z66:=sizeOf272,v66:=zeroValue272,t70:=underlying276,a70:=isAgg276,z70:=sizeOf276,v70:=zeroValue276,t76:=underlying303,a76:=isAgg303,z76:=sizeOf303,v76:=zeroValue303,t77:=underlying304,a77:=isAgg304,z77:=sizeOf304,v77:=zeroValue304 }
def Tryz.afO:Go.Shelf.Ren:=⟨fun|5=>110|8=>159|7=>158|19=>216|20=>217|10=>207|11=>208|12=>209|13=>210|14=>211|15=>212|16=>213|17=>214|18=>215|30=>280|31=>281|32=>282|33=>283|34=>284|35=>126|40=>317|n=>n,fun|23=>22|25=>3|3=>3|32=>150|22=>22|0=>0|44=>233|46=>192|4=>4|36=>226|35=>225|41=>78|5=>5|9=>9|53=>272|57=>276|63=>303|64=>304|n=>n,fun|n=>n⟩
def Tryz.afP:Go.Proofs.SlLaysM.n5 Tryz.prog Tryz.afO:={ mixed:=by kernel_rfl,f5:=⟨f110.name,aj,fR func110⟩,f7:=⟨f158.name,aj,fR func158⟩,f8:=fR func159,f10:=⟨f207.name,aj,fR func207⟩,f11:=⟨f208.name,aj,fR func208⟩,f12:=⟨f209.name,aj,fR func209⟩,f13:=⟨f210.name,aj,fR func210⟩,f14:=⟨f211.name,aj,fR func211⟩,f15:=⟨f212.name,aj,fR func212⟩,f16:=⟨Tryz.f213.name,aj,fR func213⟩,f17:=⟨f214.name,aj,fR func214⟩,f18:=⟨f215.name,aj,fR func215⟩,f19:=fR func216,f20:=fR func217,f30:=⟨Tryz.f280.name,aj,fR func280⟩,f31:=fR func281,f32:=fR func282,f33:=⟨Tryz.f283.name,aj,fR func283⟩,f34:=⟨Tryz.f284.name,aj,fR func284⟩,f35:=⟨f126.name,aj,fR func126⟩,f40:=⟨Tryz.f317.name,aj,fR func317⟩,t0:=underlying0,a0:=isAgg0,z0:=sizeOf0,v0:=zeroValue0,t3:=underlying3,a3:=isAgg3,z3:=sizeOf3,v3:=zeroValue3,t4:=underlying4,a4:=isAgg4,z4:=sizeOf4,v4:=zeroValue4,t5:=underlying5,a5:=isAgg5,z5:=sizeOf5,v5:=zeroValue5,t9:=underlying9,a9:=isAgg9,z9:=sizeOf9,v9:=zeroValue9,t22:=underlying22,a22:=isAgg22,z22:=sizeOf22,v22:=zeroValue22,t23:=underlying22,a23:=isAgg22,z23:=sizeOf22,v23:=zeroValue22,t25:=underlying3,a25:=isAgg3,z25:=sizeOf3,v25:=zeroValue3,t32:=underlying150,a32:=isAgg150,z32:=sizeOf150,v32:=zeroValue150,t35:=underlying225,a35:=isAgg225,z35:=sizeOf225,v35:=zeroValue225,t36:=underlying226,a36:=isAgg226,z36:=sizeOf226,v36:=zeroValue226,t41:=underlying78,a41:=isAgg78,z41:=sizeOf78,v41:=zeroValue78,t44:=underlying233,a44:=isAgg233,z44:=sizeOf233,v44:=zeroValue233,t46:=underlying192,a46:=isAgg192,z46:=sizeOf192,v46:=zeroValue192,t53:=underlying272,a53:=isAgg272,z53:=sizeOf272,v53:=zeroValue272,t57:=underlying276,a57:=isAgg276,z57:=sizeOf276,v57:=zeroValue276,t63:=underlying303,a63:=isAgg303,z63:=sizeOf303,v63:=zeroValue303,t64:=underlying304,a64:=isAgg304,z64:=sizeOf304,v64:=zeroValue304 }
def Tryz.afQ:Go.Shelf.Ren:=⟨fun|5=>141|7=>192|n=>n,fun|23=>128|25=>3|3=>3|4=>4|20=>20|n=>n,fun|n=>n⟩
def Tryz.afR:Go.Proofs.SlLaysW.n5 Tryz.prog Tryz.afQ:={ mixed:=by kernel_rfl,f5:=⟨f141.name,aj,fR func141⟩,f7:=fR func192,t4:=underlying4,a4:=isAgg4,z4:=sizeOf4,v4:=zeroValue4,t20:=underlying20,a20:=isAgg20,z20:=sizeOf20,v20:=zeroValue20,t23:=underlying128,a23:=isAgg128,z23:=sizeOf128,v23:=zeroValue128 }
def Tryz.TT:Go.Shelf.Ren:=⟨fun|7=>188|10=>254|n=>n,fun|23=>211|26=>9|3=>4|28=>71|0=>0|27=>70|33=>90|4=>4|n=>n,fun|n=>n⟩
def Tryz.afS:Go.Proofs.SlLaysZ.n7 Tryz.prog Tryz.TT:={ mixed:=by kernel_rfl,f7:=⟨f188.name,aj,fR func188⟩,f10:=⟨f254.name,aj,fR func254⟩,t0:=underlying0,a0:=isAgg0,z0:=sizeOf0,v0:=zeroValue0,t4:=underlying4,a4:=isAgg4,z4:=sizeOf4,v4:=zeroValue4,t23:=underlying211,a23:=isAgg211,z23:=sizeOf211,v23:=zeroValue211,t26:=underlying9,a26:=isAgg9,z26:=sizeOf9,v26:=zeroValue9,t27:=underlying70,a27:=isAgg70,z27:=sizeOf70,v27:=zeroValue70,t28:=underlying71,a28:=isAgg71,z28:=sizeOf71,v28:=zeroValue71,t33:=underlying90,a33:=isAgg90,z33:=sizeOf90,v33:=zeroValue90 }
def Tryz.TU:Go.Shelf.Ren:=⟨fun|6=>187|8=>253|9=>111|11=>300|13=>159|12=>160|23=>216|24=>217|14=>218|15=>219|16=>220|17=>221|18=>222|19=>223|20=>224|21=>225|22=>226|25=>285|26=>281|27=>282|28=>286|29=>287|30=>288|31=>318|n=>n,fun|26=>9|28=>71|24=>48|0=>0|3=>3|37=>150|48=>233|50=>192|4=>4|40=>226|39=>225|45=>78|5=>5|9=>9|51=>272|55=>276|57=>303|58=>304|33=>90|n=>n,fun|n=>n⟩
def Tryz.afT:Go.Proofs.SlLaysZ.n6 Tryz.prog Tryz.TU:={ mixed:=by kernel_rfl,f6:=⟨f187.name,aj,fR func187⟩,f8:=⟨f253.name,aj,fR func253⟩,f11:=⟨f300.name,aj,fR func300⟩,t0:=underlying0,a0:=isAgg0,z0:=sizeOf0,v0:=zeroValue0,t24:=underlying48,a24:=isAgg48,z24:=sizeOf48,v24:=zeroValue48,t26:=underlying9,a26:=isAgg9,z26:=sizeOf9,v26:=zeroValue9,t28:=underlying71,a28:=isAgg71,z28:=sizeOf71,v28:=zeroValue71,i26:=by kernel_rfl }
def Tryz.afU:Go.Shelf.Ren:=⟨fun|6=>111|8=>159|9=>160|19=>216|20=>217|21=>218|22=>219|23=>220|24=>221|25=>222|26=>223|27=>224|28=>225|29=>226|36=>285|31=>281|32=>282|37=>286|38=>287|39=>288|41=>318|n=>n,fun|27=>48|29=>9|3=>3|32=>150|26=>48|0=>0|44=>233|46=>192|4=>4|36=>226|35=>225|41=>78|5=>5|9=>9|53=>272|57=>276|63=>303|64=>304|n=>n,fun|n=>n⟩
def Tryz.Mr:Go.Proofs.SlLaysM.n6 Tryz.prog Tryz.afU:={ mixed:=by kernel_rfl,f6:=⟨f111.name,aj,fR func111⟩,f8:=fR func159,f9:=⟨Tryz.f160.name,aj,fR func160⟩,f19:=fR func216,f20:=fR func217,f21:=⟨Tryz.f218.name,aj,fR func218⟩,f22:=⟨Tryz.f219.name,aj,fR func219⟩,f23:=⟨f220.name,aj,fR func220⟩,f24:=⟨Tryz.f221.name,aj,fR func221⟩,f25:=⟨f222.name,aj,fR func222⟩,f26:=⟨f223.name,aj,fR func223⟩,f27:=⟨Tryz.f224.name,aj,fR func224⟩,f28:=⟨Tryz.f225.name,aj,fR func225⟩,f29:=⟨f226.name,aj,fR func226⟩,f31:=fR func281,f32:=fR func282,f36:=⟨Tryz.f285.name,aj,fR func285⟩,f37:=⟨Tryz.f286.name,aj,fR func286⟩,f38:=⟨Tryz.f287.name,aj,fR func287⟩,f39:=⟨f288.name,aj,fR func288⟩,f41:=⟨Tryz.f318.name,aj,fR func318⟩,t0:=underlying0,a0:=isAgg0,z0:=sizeOf0,v0:=zeroValue0,t3:=underlying3,a3:=isAgg3,z3:=sizeOf3,v3:=zeroValue3,t4:=underlying4,a4:=isAgg4,z4:=sizeOf4,v4:=zeroValue4,t5:=underlying5,a5:=isAgg5,z5:=sizeOf5,v5:=zeroValue5,t9:=underlying9,a9:=isAgg9,z9:=sizeOf9,v9:=zeroValue9,t26:=underlying48,a26:=isAgg48,z26:=sizeOf48,v26:=zeroValue48,t27:=underlying48,a27:=isAgg48,z27:=sizeOf48,v27:=zeroValue48,t29:=underlying9,a29:=isAgg9,z29:=sizeOf9,v29:=zeroValue9,t32:=underlying150,a32:=isAgg150,z32:=sizeOf150,v32:=zeroValue150,t35:=underlying225,a35:=isAgg225,z35:=sizeOf225,v35:=zeroValue225,t36:=underlying226,a36:=isAgg226,z36:=sizeOf226,v36:=zeroValue226,t41:=underlying78,a41:=isAgg78,z41:=sizeOf78,v41:=zeroValue78,t44:=underlying233,a44:=isAgg233,z44:=sizeOf233,v44:=zeroValue233,t46:=underlying192,a46:=isAgg192,z46:=sizeOf192,v46:=zeroValue192,t53:=underlying272,a53:=isAgg272,z53:=sizeOf272,v53:=zeroValue272,t57:=underlying276,a57:=isAgg276,z57:=sizeOf276,v57:=zeroValue276,t63:=underlying303,a63:=isAgg303,z63:=sizeOf303,v63:=zeroValue303,t64:=underlying304,a64:=isAgg304,z64:=sizeOf304,v64:=zeroValue304 }
def Tryz.afV:Builder.Extra Tryz.prog Tryz.TQ where
 sizeBuilder:=aj
 liesBuilder:=aj
 t5:=underlying5
 a5:=isAgg5
 z5:=sizeOf5
 v5:=zeroValue5
 infoByte:=aj
 cellsByte:=aj
 sizeByte:=aj
 neB5:=cD
def Tryz.afW:Builder.Extra Tryz.prog Tryz.TR where
 sizeBuilder:=aj
 liesBuilder:=aj
 t5:=underlying5
 a5:=isAgg5
 z5:=sizeOf5
 v5:=zeroValue5
 infoByte:=aj
 cellsByte:=aj
 sizeByte:=aj
 neB5:=cD
def Tryz.afX:Builder.Extra Tryz.prog Tryz.TS where
 sizeBuilder:=aj
 liesBuilder:=aj
 t5:=underlying5
 a5:=isAgg5
 z5:=sizeOf5
 v5:=zeroValue5
 infoByte:=aj
 cellsByte:=aj
 sizeByte:=aj
 neB5:=cD
end Go.Proofs
namespace Go.Proofs.h_
open Go Go.AL Go.Proofs Tryz
noncomputable section
noncomputable abbrev P:ak:=Tryz.prog
attribute [instance] rK
def hm:P.follows .mixedOrders=true:=Tryz.checked.mixed
def tP[Dr]{τ:ar}{L:LT}(g:aw P τ){sp:aI}{fn:Func}(A:P.funcs[sp.f]?=some fn)(B:aQ P sp.bj.length L (bf fn))(F:uk P τ L fn sp:=by intro d;kernel_rfl)(I:fn.body.isSome=true:=by kernel_rfl)(q:jW sp.bj=true:=by kernel_rfl)(hc:eC P sp.f=true:=by kernel_rfl)(J:BX sp=true:=by kernel_rfl):aw P (τ.bx sp):=g.bx hc J (qJ hm g A I B F q)
def tW[Dr]{τ:ar}{L:LT}(g:aw P τ){sp:aI}{fn:Func}(A:P.funcs[sp.f]?=some fn)(B:aQ P sp.bj.length L (bf fn))(F:uk P τ L fn sp:=by intro d;kernel_rfl)(I:fn.body.isSome=true:=by kernel_rfl)(q:jW sp.bj=true:=by kernel_rfl)(hc:eC P sp.f=true:=by kernel_rfl)(J:sa sp=true:=by kernel_rfl):aw P (τ.df sp):=g.df hc J (qJ hm g A I B F q)
def cU[Dr]{τ:ar}(q:aw P τ){sp:aI}{fn:Func}(A:P.funcs[sp.f]?=some fn)(B:uk P τ bz fn sp:=by intro d;kernel_rfl)(F:fn.body.isSome=true:=by kernel_rfl)(g:jW sp.bj=true:=by kernel_rfl)(hc:eC P sp.f=true:=by kernel_rfl)(I:BX sp=true:=by kernel_rfl):aw P (τ.bx sp):=tP q A (bN _ _ _) B F g hc I
def pS[Dr]{τ:ar}(q:aw P τ){sp:aI}{fn:Func}(A:P.funcs[sp.f]?=some fn)(B:uk P τ bz fn sp:=by intro d;kernel_rfl)(F:fn.body.isSome=true:=by kernel_rfl)(g:jW sp.bj=true:=by kernel_rfl)(hc:eC P sp.f=true:=by kernel_rfl)(I:sa sp=true:=by kernel_rfl):aw P (τ.df sp):=tW q A (bN _ _ _) B F g hc I
def lA[Dr]{τ:ar}{m:Nat}{L:LT}(g:aw P τ){fn:Func}{sp:bF}(q:aQ P m L (bf fn))(hr:wz P τ L m (yE fn sp.key) sp:=by intro d;kernel_rfl) (hn:nodupB ((cI (bf fn)).map (·.1))=true:=by kernel_rfl):aQ P m (L.add m sp) (bf fn):=aQ.a hm g q hr hn
def lC[Dr]{τ:ar}{m:Nat}{L:LT}(g:aw P τ){fn:Func}{sp:bF}(q:aQ P m L (bf fn))(hr:qI P τ L m (bS fn sp.key) sp:=by intro d;kernel_rfl) (hn:mF sp.key (cB (bf fn))=true:=by kernel_rfl):aQ P m (L.gF m sp) (bf fn):=aQ.aC hm g q hr hn
def eP(a b:BY):Int:=Lib.compareBytes a.data.toList b.data.toList
def Ms(s:BY)(c:Int):Int:=Lib.indexByte s.data.toList c.toNat.toUInt8
def trimB(s d:BY):BY:=⟨(Lib.trimS s.data.toList d.data.toList).toArray⟩
def gg(n:Int):BY:=⟨(Lib.itoa n).toArray⟩
def auD(n:Int):BY:=⟨(Lib.decDigits n.toNat).toArray⟩
def TV(d:BY):Bool:=d.data.toList.all fun b=>fT b.toNat 128
def zg(a b:BY):Bool:=a.data.toList==b.data.toList
theorem TW{a b:BY}(h:zg a b=true):a=b:=by
 unfold zg at h;rw[beq_iff_eq]at h;cases a with
 |mk a=>
  cases b with
  |mk b=>
   congr 1;exact Array.ext' h
def CD{α:Type}:List (BY × α)->BY->Option α
 |[],_=>none
 |(k,v)::l,s=>bif zg k s then some v else CD l s
def Mt{α:Type}{s:BY}{v:α}:∀{l:List (BY × α)},CD l s=some v->(s,v)∈l
 |[],h=>by cases h
 |(k,u)::l,h=>by
  simp only[CD]at h;cases d:zg k s with
  |true=>
   rw[d]at h;cases h;rw[TW d];exact List.mem_cons_self
  |false=>
   rw[d]at h;exact List.mem_cons_of_mem _ (Mt h)
abbrev dt:List Kd:=[.I,.I,.str,.str,.I,.I,.str,.str]
abbrev auE:List Kd:=[.str,.list dt]
abbrev aY:List Kd:=[.str,.I,.I,.I,.I,.I,.str,.str,.I,.I,.str,.str,.str,.str,.I]
abbrev lG:List Kd:=[.str,.str,.I]
abbrev TX:List Kd:=[.str,.str,.str,.I,.str]
def t0:ar:=Rx []
def afY:aw P t0:=ac4 P _
def kF(d:LG):Option LG:=some [.i (eP (d.sV 0) (d.sV 1))]
abbrev aD:Sh:=.s .I
abbrev bY:Sh:=.s (.str)
abbrev dY:Sh:=.s (.bool)
abbrev kG:Sh:=.s (.list dt)
abbrev gV:Sh:=.s (.list [.I])
abbrev zzW:Sh:=.s (.row [.str,.list dt])
abbrev wN:Sh:=.s (.addr)
abbrev ep:List eH:=[.fix 0]
abbrev gH:List eH:=[.aU 0]
abbrev jL:List cq:=[.box [.list [.I],.I]]
abbrev l9:List Sh:=[bY,bY]
abbrev oB:List Sh:=[.s (.ptr 0 0)]
abbrev oC:List Sh:=[.s (.list aY),aD]
abbrev qV:List eH:=[.aU 0,.cell 0 4]
abbrev sB:List Sh:=[.s (.list [.str])]
abbrev uH:List eH:=[.aU 6]
abbrev uI:List eH:=[.fix 0,.fix 1]
abbrev wO:List Sh:=[.s (.row dt)]
abbrev wP:List eH:=[.aU 4]
abbrev wQ:List eH:=[.aU 6,.cell 0 0,.cell 0 1,.cell 0 2,.cell 0 3,.cell 0 4,.aU 7]
abbrev wR:List eH:=[.aU 3]
abbrev wS:List eH:=[.aU 10]
abbrev zh:List Sh:=[.s (.ptr 0 0),aD]
abbrev zk:List eH:=[.fix 0,.cell 0 4,.aU 3]
abbrev zl:List eH:=[.aU 5]
abbrev CE:List Sh:=[.s (.row aY)]
abbrev CF:List Sh:=[.s (.list [.str,.str])]
abbrev GK:List Sh:=[.s (.vQ 0 1)]
abbrev GL:List Sh:=[.s (.row aY),.s (.row aY)]
abbrev GM:List eH:=[.fix 0,.aU 5,.aU 7,.aU 8]
abbrev GN:List Sh:=[.s (.list aY)]
abbrev GO:List eH:=[.fix 0,.fix 1,.aU 0]
abbrev GP:List eH:=[.fix 0,.cell 0 4]
abbrev GQ:List cq:=[.vQ [.str,.I] 0]
abbrev GR:List eH:=[.aU 5,.aU 8,.aU 11]
abbrev GS:List cq:=[.box [.list aY,.I]]
abbrev GU:List eH:=[.fix 0,.cell 0 4,.aU 3,.aU 6]
abbrev GV:List cq:=[.dK 0 57 5]
abbrev Mu:List eH:=[.fix 0,.aU 5,.aU 7]
abbrev Mv:List eH:=[.aU 6,.cell 0 0,.cell 0 1,.cell 0 2,.cell 0 3,.cell 0 4,.aU 7,.aU 10]
abbrev Mw:List Sh:=[.s (.ptr 0 0),bY]
abbrev Mx:List eH:=[.fix 0,.cell 0 4,.aU 5]
abbrev My:List eH:=[.aU 5,.aU 6,.aU 9]
abbrev TY:List eH:=[.fix 0,.cell 0 0,.cell 0 4,.aU 2]
abbrev TZ:List Sh:=[.s (.row dt),.s (.row dt)]
abbrev T0:List Sh:=[.s (.row [.str,.I]),.s (.row [.str,.I])]
abbrev T3:List Sh:=[.s (.row aY),.s (.cptr aY)]
abbrev T4:List Sh:=[.s (.list aY),.clo 26 [.cptr aY]]
abbrev T5:List Sh:=[.s (.list aY),.clo 149 [.cptr aY]]
abbrev T6:List Sh:=[.s (.list aY),.clo 154 [.cptr aY,.cptr [.str,.I]]]
abbrev T7:List Sh:=[.s (.list [.str,.I]),.s (.row [.str,.I])]
abbrev T8:List cq:=[.box [.map 1],.map (.one (.str)) (.one (.bool))]
abbrev T9:List eH:=[.fix 0,.cell 0 4,.fix 2,.fix 3,.aU 2]
abbrev T_:List eH:=[.aU 5,.aU 6,.aU 9,.aU 12]
abbrev Ua:List eH:=[.fix 0,.fix 1,.fix 2,.fix 3]
def Ub:aI:=⟨41,l9,[],[],[aD],[],[],[],kF⟩
def afZ:ff P Ub:=fun d r (h:kF d=some r)=>by
 cases h;exact(BM (vs:=[.string (gi d 0).sV,.string (gi d 1).sV]) fun w=>(Proofs.Any.strings_Compare Tryz.afs (gi d 0).sV (gi d 1).sV w).mono fun e w' h=>⟨h.1,h.2▸Ext.refl w⟩) []
def t1:ar:=t0.bx Ub
def af0:aw P t1:=afY.aP afZ
def CG(d:LG):Option LG:=some [.i (Ms (d.sV 0) (d.iV 1))]
def Uc:aI:=⟨58,[bY,.s (.int .u8)],[],[],[aD],[],[],[],CG⟩
def af1:ff P Uc:=fun d r (h:CG d=some r)=>by
 cases h;exact(BM (vs:=[.string (gi d 0).sV,.int .u8 (gi d 1).iV]) fun w=>(Proofs.Any.strings_IndexByte Tryz.TO (gi d 0).sV (gi d 1).iV w).mono fun e w' h=>⟨h.1,h.2▸Ext.refl w⟩) []
def t2:ar:=t1.bx Uc
def af2:aw P t2:=af0.aP af1
def gz(d:LG):Option LG:=bif (cw (-9223372036854775808) (d.iV 0)&&cw (d.iV 0) 9223372036854775807) then some [.s (gg (d.iV 0))] else none
def Ud:aI:=⟨36,[aD],[],[],[bY],[],[],[],gz⟩
def af3:ff P Ud:=fun d r (h:gz d=some r)=>by
 unfold gz at h;cases A:(cw (-9223372036854775808) (d.iV 0)&&cw (d.iV 0) 9223372036854775807)with
 |false=>rw[A]at h; cases h
 |true=>
  rw[A]at h;cases h;simp only[aR,eh,dT]at A;have key:eA P 36 [.lit (.int .i64 (d.iV 0))] (.lit (.string (gg (d.iV 0)))):=
   ad8 (vs:=[.int .i64 (d.iV 0)]) fun E B=>(Proofs.Any.strconv_Itoa Tryz.afF (d.iV 0) A.1 A.2 E.w (ad6 B (g:=3) aj (List.mem_singleton.2 rfl))).mono fun F w' h=>⟨h.1,by
    obtain⟨q,os,rfl⟩:=h.2;exact ad5 _ q os⟩
  exact key []
def t3:ar:=t2.bx Ud
def af4:aw P t3:=af2.aP af3
def wT(d:LG):Option LG:=bif (TV (d.sV 1)&&(bW 2 (d.sV 1).size&&(fT (d.sV 1).size 4294967281&&(bW 1 (d.sV 0).size&&bW (d.sV 0).size 9223372036854775807)))) then some [.s (trimB (d.sV 0) (d.sV 1))] else none
def Ue:aI:=⟨124,l9,[],[],[bY],[],[],[],wT⟩
def af5:ff P Ue:=fun d r (h:wT d=some r)=>by
 unfold wT at h;cases g:(TV (d.sV 1)&&(bW 2 (d.sV 1).size&&(fT (d.sV 1).size 4294967281&&(bW 1 (d.sV 0).size&&bW (d.sV 0).size 9223372036854775807))))with
 |false=>rw[g]at h; cases h
 |true=>
  rw[g]at h;cases h;simp only[aR,jS,Nat.ble_eq]at g;have A:(Tryz.prog.info? (Tryz.TP.t 116)).map (fun i=>(i.zero,i.size))=some (some (.agg (Array.replicate 256 (.bool false))),256):=aj;exact(BM (vs:=[.string (d.sV 0),.string (d.sV 1)]) fun w=>(Proofs.Any.strings_Trim_set Tryz.afu (zero_of_info A).1 (zero_of_info A).2 (d.sV 0) (d.sV 1) w g.2.1 g.2.2.2.1 g.2.2.2.2 g.2.2.1 fun j b B=>by
   have:=List.all_eq_true.1 g.1 b (List.mem_of_getElem? B);simpa[jS]using this).mono fun _ _ h=>⟨h.1,by
    obtain⟨_,q,rfl⟩:=h;exact((Ext.push w _).trans (Ext.push _ _)).trans (Ext.drawn _ _ (Nat.le_add_right _ _))⟩) []
def t4:ar:=t3.bx Ue
def af6:aw P t4:=af4.aP af5
def Uf(d:LG):Option LG:=some [.i (Ms (d.sV 0) (d.iV 1))]
def Ug:aI:=⟨103,[bY,.s (.int .u8)],[],[],[aD],[],[],[],Uf⟩
def af7:ff P Ug:=fun d r (h:Uf d=some r)=>by
 cases h;exact(BM (vs:=[.string (gi d 0).sV,.int .u8 (gi d 1).iV]) fun w=>(Proofs.Any.stringslite_IndexByte Tryz.afw (gi d 0).sV (gi d 1).iV w).mono fun e w' h=>⟨h.1,h.2▸Ext.refl w⟩) []
def t5:ar:=t4.bx Ug
def Uh:aw P t5:=af6.aP af7
end
end Go.Proofs.h_
