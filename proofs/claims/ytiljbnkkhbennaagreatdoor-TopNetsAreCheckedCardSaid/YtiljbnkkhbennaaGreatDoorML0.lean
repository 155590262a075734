/-
 What is proved here: functions of the program as functions on data. No condition.
-/
import Derived.Test.YtiljbnkkhbennaaGreatDoorMH
import Derived.Test.YtiljbnkkhbennaaGreatDoorChecked
import Derived.Test.YtiljbnkkhbennaaGreatDoorMR
import Derived.Test.YtiljbnkkhbennaaGreatDoorMT
import Derived.Shelf.SortM.Plain
import Derived.Shelf.SortM.SortNone
import Derived.Shelf.Small.Strs
import Derived.Shelf.Strconv.Itoa3
import Derived.Shelf.Strings.Search1
import Derived.Shelf.Strings.SlTrimAscii
open Bool renaming and_eq_true→az
open Nat renaming ble→eE,blt→eh,blt_eq→iR
namespace Go.AL
section
variable [Dr]
theorem ak.aP{P:Program}{τ:ai}(h:ak P τ){sp:aB}(d:aT P sp)(hb:fw P sp.f=true:=by kernel_rfl)(k:FG sp=true:=by kernel_rfl):ak P (τ.bh sp):=h.bh hb k d
theorem ak.aW{P:Program}{τ:ai}(h:ak P τ){sp:aB}(d:aT P sp)(hb:fw P sp.f=true:=by kernel_rfl)(k:AY sp=true:=by kernel_rfl):ak P (τ.cX sp):=h.cX hb k d
theorem ax.a{P:Program}{τ:ai}{m:Nat}{L:LT}(hm:P.follows .mixedOrders=true)(d:ak P τ){fn:Func}{sp:be}(k:ax P m L (aQ fn))(hr:cy P τ L m (cB fn sp.key) sp) (hn:nodupB ((bJ (aQ fn)).map (·.1))=true:=by kernel_rfl):ax P m (L.add m sp) (aQ fn):=ax.add hm d hn k hr
theorem ax.aC{P:Program}{τ:ai}{m:Nat}{L:LT}(hm:P.follows .mixedOrders=true)(d:ak P τ){fn:Func}{sp:be}(k:ax P m L (aQ fn))(hr:fm P τ L m (cutAt fn sp.key) sp) (hn:lp sp.key (bE (aQ fn))=true:=by kernel_rfl):ax P m (L.eP m sp) (aQ fn):=ax.eP hm d hn k hr
theorem aR{P:Program}{τ:ai}{L:LT}(hm:P.follows .mixedOrders=true)(k:ak P τ){sp:aB}{fn:Func}(q:P.funcs[sp.f]? = some fn)(B:ax P sp.bV.length L (aQ fn))(I:aV P τ L fn sp)(hb:fn.body.isSome=true:=by kernel_rfl)(d:rL sp.bV=true:=by kernel_rfl):aT P sp:=tW hm k q hb B I d
end
end Go.AL
set_option linter.all false
namespace Go.Proofs
open Go.Shelf Go.RowKit
set_option maxHeartbeats 4000000
def Tryz.aa1:Go.Shelf.Ren:=⟨fun|106=>51|213=>81|265=>125|n=>n,fun|9=>9|3=>3|n=>n,fun|n=>n⟩
theorem Tryz.aa2:Go.Proofs.Lays.n106 Tryz.prog Tryz.aa1:={ mixed:=by kernel_rfl,f106:=func51.trans (congrArg some (by kernel_rfl)),f213:=func81.trans (congrArg some (by kernel_rfl)),f265:=func125.trans (congrArg some (by kernel_rfl)),t3:=Tryz.underlying3,a3:=Tryz.isAgg3,z3:=Tryz.sizeOf3,v3:=Tryz.zeroValue3,t9:=Tryz.underlying9,a9:=Tryz.isAgg9,z9:=Tryz.sizeOf9,v9:=Tryz.zeroValue9 }
def Tryz.aa3:Go.Shelf.Ren:=⟨fun|137=>77|217=>113|266=>154|n=>n,fun|9=>9|5=>5|3=>3|n=>n,fun|n=>n⟩
theorem Tryz.aa4:Go.Proofs.Lays.n137 Tryz.prog Tryz.aa3:={ mixed:=by kernel_rfl,f137:=func77.trans (congrArg some (by kernel_rfl)),f217:=func113.trans (congrArg some (by kernel_rfl)),f266:=func154.trans (congrArg some (by kernel_rfl)),t3:=Tryz.underlying3,a3:=Tryz.isAgg3,z3:=Tryz.sizeOf3,v3:=Tryz.zeroValue3,t5:=Tryz.underlying5,a5:=Tryz.isAgg5,z5:=Tryz.sizeOf5,v5:=Tryz.zeroValue5,t9:=Tryz.underlying9,a9:=Tryz.isAgg9,z9:=Tryz.sizeOf9,v9:=Tryz.zeroValue9 }
def Tryz.OR:Go.Shelf.Ren:=⟨fun|160=>78|232=>115|231=>114|227=>116|234=>118|233=>117|236=>120|235=>119|228=>155|271=>158|151=>157|197=>156|120=>189|152=>188|260=>187|137=>77|119=>209|224=>210|225=>211|217=>113|266=>154|n=>n,fun|9=>9|4=>4|3=>3|5=>5|117=>178|116=>177|0=>0|124=>181|21=>21|105=>209|46=>103|119=>248|139=>251|138=>250|n=>n,fun|3=>2|4=>3|n=>n⟩
theorem Tryz.aa5:Go.Proofs.Lays.n160 Tryz.prog Tryz.OR:={ mixed:=by kernel_rfl,f119:=func209.trans (congrArg some (by kernel_rfl)),f120:=func189.trans (congrArg some (by kernel_rfl)),f137:=func77.trans (congrArg some (by kernel_rfl)),f151:=func157.trans (congrArg some (by kernel_rfl)),f152:=func188.trans (congrArg some (by kernel_rfl)),f160:=func78.trans (congrArg some (by kernel_rfl)),f197:=func156.trans (congrArg some (by kernel_rfl)),f217:=func113.trans (congrArg some (by kernel_rfl)),f224:=func210.trans (congrArg some (by kernel_rfl)),f225:=func211.trans (congrArg some (by kernel_rfl)),f227:=func116.trans (congrArg some (by kernel_rfl)),f228:=func155.trans (congrArg some (by kernel_rfl)),f231:=func114.trans (congrArg some (by kernel_rfl)),f232:=func115.trans (congrArg some (by kernel_rfl)),f233:=func117.trans (congrArg some (by kernel_rfl)),f234:=func118.trans (congrArg some (by kernel_rfl)),f235:=func119.trans (congrArg some (by kernel_rfl)),f236:=func120.trans (congrArg some (by kernel_rfl)),f260:=func187.trans (congrArg some (by kernel_rfl)),f266:=func154.trans (congrArg some (by kernel_rfl)),f271:=func158.trans (congrArg some (by kernel_rfl)),t0:=Tryz.underlying0,a0:=Tryz.isAgg0,z0:=Tryz.sizeOf0,v0:=Tryz.zeroValue0,t3:=Tryz.underlying3,a3:=Tryz.isAgg3,z3:=Tryz.sizeOf3,v3:=Tryz.zeroValue3,t4:=Tryz.underlying4,a4:=Tryz.isAgg4,z4:=Tryz.sizeOf4,v4:=Tryz.zeroValue4,t5:=Tryz.underlying5,a5:=Tryz.isAgg5,z5:=Tryz.sizeOf5,v5:=Tryz.zeroValue5,t9:=Tryz.underlying9,a9:=Tryz.isAgg9,z9:=Tryz.sizeOf9,v9:=Tryz.zeroValue9,t21:=Tryz.underlying21,a21:=Tryz.isAgg21,z21:=Tryz.sizeOf21,v21:=Tryz.zeroValue21,t46:=Tryz.underlying103,a46:=Tryz.isAgg103,z46:=Tryz.sizeOf103,v46:=Tryz.zeroValue103,t105:=Tryz.underlying209,a105:=Tryz.isAgg209,z105:=Tryz.sizeOf209,v105:=Tryz.zeroValue209,t116:=Tryz.underlying177,a116:=Tryz.isAgg177,z116:=Tryz.sizeOf177,t117:=Tryz.underlying178,a117:=Tryz.isAgg178,z117:=Tryz.sizeOf178,v117:=Tryz.zeroValue178,t119:=Tryz.underlying248,a119:=Tryz.isAgg248,z119:=Tryz.sizeOf248,t124:=Tryz.underlying181,a124:=Tryz.isAgg181,z124:=Tryz.sizeOf181,v124:=Tryz.zeroValue181,t138:=Tryz.underlying250,a138:=Tryz.isAgg250,z138:=Tryz.sizeOf250,v138:=Tryz.zeroValue250,t139:=Tryz.underlying251,a139:=Tryz.isAgg251,z139:=Tryz.sizeOf251,v139:=Tryz.zeroValue251,g3:=by kernel_rfl,g4:=by kernel_rfl }
def Tryz.aa6:Go.Shelf.Ren:=⟨fun|217=>113|266=>154|n=>n,fun|9=>9|5=>5|3=>3|n=>n,fun|n=>n⟩
theorem Tryz.aa7:Go.Proofs.Lays.n217 Tryz.prog Tryz.aa6:={ mixed:=by kernel_rfl,f217:=func113.trans (congrArg some (by kernel_rfl)),f266:=func154.trans (congrArg some (by kernel_rfl)),t3:=Tryz.underlying3,a3:=Tryz.isAgg3,z3:=Tryz.sizeOf3,v3:=Tryz.zeroValue3,t5:=Tryz.underlying5,a5:=Tryz.isAgg5,z5:=Tryz.sizeOf5,v5:=Tryz.zeroValue5,t9:=Tryz.underlying9,a9:=Tryz.isAgg9,z9:=Tryz.sizeOf9,v9:=Tryz.zeroValue9 }
def Tryz.aa8:Go.Shelf.Ren:=⟨fun|171=>28|243=>64|246=>103|283=>137|284=>138|285=>139|286=>140|129=>92|317=>174|318=>175|319=>176|320=>177|337=>202|338=>203|n=>n,fun|3=>3|9=>9|2=>2|4=>4|171=>197|0=>0|53=>145|37=>199|5=>5|173=>200|212=>227|51=>143|20=>20|213=>228|46=>103|232=>257|233=>258|n=>n,fun|17=>1|18=>4|19=>5|n=>n⟩
theorem Tryz.aa9:Go.Proofs.Lays.n171 Tryz.prog Tryz.aa8:={ mixed:=by kernel_rfl,f129:=func92.trans (congrArg some (by kernel_rfl)),f171:=func28.trans (congrArg some (by kernel_rfl)),f243:=func64.trans (congrArg some (by kernel_rfl)),f246:=func103.trans (congrArg some (by kernel_rfl)),f283:=func137.trans (congrArg some (by kernel_rfl)),f284:=func138.trans (congrArg some (by kernel_rfl)),f285:=func139.trans (congrArg some (by kernel_rfl)),f286:=func140.trans (congrArg some (by kernel_rfl)),f317:=func174.trans (congrArg some (by kernel_rfl)),f318:=func175.trans (congrArg some (by kernel_rfl)),f319:=func176.trans (congrArg some (by kernel_rfl)),f320:=func177.trans (congrArg some (by kernel_rfl)),f337:=func202.trans (congrArg some (by kernel_rfl)),f338:=func203.trans (congrArg some (by kernel_rfl)),t0:=Tryz.underlying0,a0:=Tryz.isAgg0,z0:=Tryz.sizeOf0,v0:=Tryz.zeroValue0,t2:=Tryz.underlying2,a2:=Tryz.isAgg2,z2:=Tryz.sizeOf2,v2:=Tryz.zeroValue2,t3:=Tryz.underlying3,a3:=Tryz.isAgg3,z3:=Tryz.sizeOf3,v3:=Tryz.zeroValue3,t4:=Tryz.underlying4,a4:=Tryz.isAgg4,z4:=Tryz.sizeOf4,v4:=Tryz.zeroValue4,t5:=Tryz.underlying5,a5:=Tryz.isAgg5,z5:=Tryz.sizeOf5,v5:=Tryz.zeroValue5,t9:=Tryz.underlying9,a9:=Tryz.isAgg9,z9:=Tryz.sizeOf9,v9:=Tryz.zeroValue9,t20:=Tryz.underlying20,a20:=Tryz.isAgg20,z20:=Tryz.sizeOf20,v20:=Tryz.zeroValue20,t37:=Tryz.underlying199,a37:=Tryz.isAgg199,z37:=Tryz.sizeOf199,v37:=Tryz.zeroValue199,t46:=Tryz.underlying103,a46:=Tryz.isAgg103,z46:=Tryz.sizeOf103,v46:=Tryz.zeroValue103,t51:=Tryz.underlying143,a51:=Tryz.isAgg143,z51:=Tryz.sizeOf143,v51:=Tryz.zeroValue143,t53:=Tryz.underlying145,a53:=Tryz.isAgg145,z53:=Tryz.sizeOf145,v53:=Tryz.zeroValue145,t171:=Tryz.underlying197,a171:=Tryz.isAgg197,z171:=Tryz.sizeOf197,v171:=Tryz.zeroValue197,t173:=Tryz.underlying200,a173:=Tryz.isAgg200,z173:=Tryz.sizeOf200,v173:=Tryz.zeroValue200,t212:=Tryz.underlying227,a212:=Tryz.isAgg227,z212:=Tryz.sizeOf227,v212:=Tryz.zeroValue227,t213:=Tryz.underlying228,a213:=Tryz.isAgg228,z213:=Tryz.sizeOf228,t232:=Tryz.underlying257,a232:=Tryz.isAgg257,z232:=Tryz.sizeOf257,v232:=Tryz.zeroValue257,t233:=Tryz.underlying258,a233:=Tryz.isAgg258,z233:=Tryz.sizeOf258,v233:=Tryz.zeroValue258,g17:=by kernel_rfl,g18:=by kernel_rfl,g19:=by kernel_rfl }
def Tryz.aa_:Go.Shelf.Ren:=⟨fun|6=>68|15=>53|14=>108|28=>91|29=>92|20=>144|21=>145|22=>146|23=>147|24=>148|25=>149|26=>150|27=>151|46=>179|47=>127|48=>128|49=>180|50=>181|57=>204|n=>n,fun|22=>26|24=>56|25=>58|3=>3|39=>103|0=>0|53=>143|55=>145|4=>4|46=>136|45=>135|50=>113|5=>5|9=>9|66=>186|70=>190|76=>213|77=>195|n=>n,fun|n=>n⟩
theorem Tryz.aa':Go.Proofs.SlLaysF0.n6 Tryz.prog Tryz.aa_:={ mixed:=by kernel_rfl,f6:=⟨f68.name,by kernel_rfl,func68.trans (congrArg some (by kernel_rfl))⟩,f14:=⟨f108.name,by kernel_rfl,func108.trans (congrArg some (by kernel_rfl))⟩,f15:=func53.trans (congrArg some (by kernel_rfl)),f20:=⟨f144.name,by kernel_rfl,func144.trans (congrArg some (by kernel_rfl))⟩,f21:=⟨f145.name,by kernel_rfl,func145.trans (congrArg some (by kernel_rfl))⟩,f22:=⟨f146.name,by kernel_rfl,func146.trans (congrArg some (by kernel_rfl))⟩,f23:=⟨f147.name,by kernel_rfl,func147.trans (congrArg some (by kernel_rfl))⟩,f24:=⟨f148.name,by kernel_rfl,func148.trans (congrArg some (by kernel_rfl))⟩,f25:=⟨f149.name,by kernel_rfl,func149.trans (congrArg some (by kernel_rfl))⟩,f26:=⟨f150.name,by kernel_rfl,func150.trans (congrArg some (by kernel_rfl))⟩,f27:=⟨Tryz.f151.name,by kernel_rfl,func151.trans (congrArg some (by kernel_rfl))⟩,f28:=func91.trans (congrArg some (by kernel_rfl)),f29:=func92.trans (congrArg some (by kernel_rfl)),f46:=⟨f179.name,by kernel_rfl,func179.trans (congrArg some (by kernel_rfl))⟩,f47:=func127.trans (congrArg some (by kernel_rfl)),f48:=func128.trans (congrArg some (by kernel_rfl)),f49:=⟨f180.name,by kernel_rfl,func180.trans (congrArg some (by kernel_rfl))⟩,f50:=⟨f181.name,by kernel_rfl,func181.trans (congrArg some (by kernel_rfl))⟩,f57:=⟨f204.name,by kernel_rfl,func204.trans (congrArg some (by kernel_rfl))⟩,t0:=Tryz.underlying0,a0:=Tryz.isAgg0,z0:=Tryz.sizeOf0,v0:=Tryz.zeroValue0,t3:=Tryz.underlying3,a3:=Tryz.isAgg3,z3:=Tryz.sizeOf3,v3:=Tryz.zeroValue3,t4:=Tryz.underlying4,a4:=Tryz.isAgg4,z4:=Tryz.sizeOf4,v4:=Tryz.zeroValue4,t5:=Tryz.underlying5,a5:=Tryz.isAgg5,z5:=Tryz.sizeOf5,v5:=Tryz.zeroValue5,t9:=Tryz.underlying9,a9:=Tryz.isAgg9,z9:=Tryz.sizeOf9,v9:=Tryz.zeroValue9,t22:=Tryz.underlying26,a22:=Tryz.isAgg26,z22:=Tryz.sizeOf26,v22:=Tryz.zeroValue26,t25:=Tryz.underlying58,a25:=Tryz.isAgg58,z25:=Tryz.sizeOf58,v25:=Tryz.zeroValue58,t39:=Tryz.underlying103,a39:=Tryz.isAgg103,z39:=Tryz.sizeOf103,v39:=Tryz.zeroValue103,t45:=Tryz.underlying135,a45:=Tryz.isAgg135,z45:=Tryz.sizeOf135,v45:=Tryz.zeroValue135,t46:=Tryz.underlying136,a46:=Tryz.isAgg136,z46:=Tryz.sizeOf136,v46:=Tryz.zeroValue136,t50:=Tryz.underlying113,a50:=Tryz.isAgg113,z50:=Tryz.sizeOf113,v50:=Tryz.zeroValue113,t53:=Tryz.underlying143,a53:=Tryz.isAgg143,z53:=Tryz.sizeOf143,v53:=Tryz.zeroValue143,t55:=Tryz.underlying145,a55:=Tryz.isAgg145,z55:=Tryz.sizeOf145,v55:=Tryz.zeroValue145,t66:=Tryz.underlying186,a66:=Tryz.isAgg186,z66:=Tryz.sizeOf186,v66:=Tryz.zeroValue186,t70:=Tryz.underlying190,a70:=Tryz.isAgg190,z70:=Tryz.sizeOf190,v70:=Tryz.zeroValue190,t76:=Tryz.underlying213,a76:=Tryz.isAgg213,z76:=Tryz.sizeOf213,v76:=Tryz.zeroValue213,t77:=Tryz.underlying195,a77:=Tryz.isAgg195,z77:=Tryz.sizeOf195,v77:=Tryz.zeroValue195 }
def Tryz.aba:Go.Shelf.Ren:=⟨fun|6=>198|15=>53|14=>217|28=>91|29=>92|20=>221|21=>222|22=>223|23=>224|24=>225|25=>226|26=>227|27=>228|46=>229|47=>127|48=>128|49=>230|50=>231|57=>232|n=>n,fun|22=>221|24=>224|25=>244|3=>3|39=>103|0=>0|53=>143|55=>145|4=>4|46=>136|45=>135|50=>113|5=>5|9=>9|66=>186|70=>190|76=>213|77=>195|n=>n,fun|n=>n⟩
theorem Tryz.abb:Go.Proofs.SlLaysF0.n6 Tryz.prog Tryz.aba:={ mixed:=by kernel_rfl,f6:=⟨f198.name,by kernel_rfl,func198.trans (congrArg some (by kernel_rfl))⟩,f14:=⟨Tryz.f217.name,by kernel_rfl,func217.trans (congrArg some (by kernel_rfl))⟩,f15:=func53.trans (congrArg some (by kernel_rfl)),f20:=⟨f221.name,by kernel_rfl,func221.trans (congrArg some (by kernel_rfl))⟩,f21:=⟨f222.name,by kernel_rfl,func222.trans (congrArg some (by kernel_rfl))⟩,f22:=⟨f223.name,by kernel_rfl,func223.trans (congrArg some (by kernel_rfl))⟩,f23:=⟨Tryz.f224.name,by kernel_rfl,func224.trans (congrArg some (by kernel_rfl))⟩,f24:=⟨Tryz.f225.name,by kernel_rfl,func225.trans (congrArg some (by kernel_rfl))⟩,f25:=⟨f226.name,by kernel_rfl,func226.trans (congrArg some (by kernel_rfl))⟩,f26:=⟨Tryz.f227.name,by kernel_rfl,func227.trans (congrArg some (by kernel_rfl))⟩,f27:=⟨Tryz.f228.name,by kernel_rfl,func228.trans (congrArg some (by kernel_rfl))⟩,f28:=func91.trans (congrArg some (by kernel_rfl)),f29:=func92.trans (congrArg some (by kernel_rfl)),f46:=⟨f229.name,by kernel_rfl,func229.trans (congrArg some (by kernel_rfl))⟩,f47:=func127.trans (congrArg some (by kernel_rfl)),f48:=func128.trans (congrArg some (by kernel_rfl)),f49:=⟨f230.name,by kernel_rfl,func230.trans (congrArg some (by kernel_rfl))⟩,f50:=⟨Tryz.f231.name,by kernel_rfl,func231.trans (congrArg some (by kernel_rfl))⟩,f57:=⟨Tryz.f232.name,by kernel_rfl,func232.trans (congrArg some (by kernel_rfl))⟩,t0:=Tryz.underlying0,a0:=Tryz.isAgg0,z0:=Tryz.sizeOf0,v0:=Tryz.zeroValue0,t3:=Tryz.underlying3,a3:=Tryz.isAgg3,z3:=Tryz.sizeOf3,v3:=Tryz.zeroValue3,t4:=Tryz.underlying4,a4:=Tryz.isAgg4,z4:=Tryz.sizeOf4,v4:=Tryz.zeroValue4,t5:=Tryz.underlying5,a5:=Tryz.isAgg5,z5:=Tryz.sizeOf5,v5:=Tryz.zeroValue5,t9:=Tryz.underlying9,a9:=Tryz.isAgg9,z9:=Tryz.sizeOf9,v9:=Tryz.zeroValue9,t22:=Tryz.underlying221,a22:=Tryz.isAgg221,z22:=Tryz.sizeOf221,v22:=Tryz.zeroValue221,t25:=Tryz.underlying244,a25:=Tryz.isAgg244,z25:=Tryz.sizeOf244,v25:=Tryz.zeroValue244,t39:=Tryz.underlying103,a39:=Tryz.isAgg103,z39:=Tryz.sizeOf103,v39:=Tryz.zeroValue103,t45:=Tryz.underlying135,a45:=Tryz.isAgg135,z45:=Tryz.sizeOf135,v45:=Tryz.zeroValue135,t46:=Tryz.underlying136,a46:=Tryz.isAgg136,z46:=Tryz.sizeOf136,v46:=Tryz.zeroValue136,t50:=Tryz.underlying113,a50:=Tryz.isAgg113,z50:=Tryz.sizeOf113,v50:=Tryz.zeroValue113,t53:=Tryz.underlying143,a53:=Tryz.isAgg143,z53:=Tryz.sizeOf143,v53:=Tryz.zeroValue143,t55:=Tryz.underlying145,a55:=Tryz.isAgg145,z55:=Tryz.sizeOf145,v55:=Tryz.zeroValue145,t66:=Tryz.underlying186,a66:=Tryz.isAgg186,z66:=Tryz.sizeOf186,v66:=Tryz.zeroValue186,t70:=Tryz.underlying190,a70:=Tryz.isAgg190,z70:=Tryz.sizeOf190,v70:=Tryz.zeroValue190,t76:=Tryz.underlying213,a76:=Tryz.isAgg213,z76:=Tryz.sizeOf213,v76:=Tryz.zeroValue213,t77:=Tryz.underlying195,a77:=Tryz.isAgg195,z77:=Tryz.sizeOf195,v77:=Tryz.zeroValue195 }
def Tryz.abc:Go.Shelf.Ren:=⟨fun|6=>19|8=>53|9=>52|19=>91|20=>92|21=>82|22=>83|23=>84|24=>85|25=>86|26=>87|27=>88|28=>89|29=>90|36=>126|31=>127|32=>128|37=>129|38=>130|39=>131|41=>163|n=>n,fun|27=>49|29=>9|3=>3|32=>103|26=>49|0=>0|44=>143|46=>145|4=>4|36=>136|35=>135|41=>113|5=>5|9=>9|53=>186|57=>190|63=>213|64=>195|n=>n,fun|n=>n⟩
theorem Tryz.abd:Go.Proofs.SlLaysM.n6 Tryz.prog Tryz.abc:={ mixed:=by kernel_rfl,f6:=⟨Tryz.f19.name,by kernel_rfl,func19.trans (congrArg some (by kernel_rfl))⟩,f8:=func53.trans (congrArg some (by kernel_rfl)),f9:=⟨f52.name,by kernel_rfl,func52.trans (congrArg some (by kernel_rfl))⟩,f19:=func91.trans (congrArg some (by kernel_rfl)),f20:=func92.trans (congrArg some (by kernel_rfl)),f21:=⟨f82.name,by kernel_rfl,func82.trans (congrArg some (by kernel_rfl))⟩,f22:=⟨f83.name,by kernel_rfl,func83.trans (congrArg some (by kernel_rfl))⟩,f23:=⟨f84.name,by kernel_rfl,func84.trans (congrArg some (by kernel_rfl))⟩,f24:=⟨f85.name,by kernel_rfl,func85.trans (congrArg some (by kernel_rfl))⟩,f25:=⟨f86.name,by kernel_rfl,func86.trans (congrArg some (by kernel_rfl))⟩,f26:=⟨f87.name,by kernel_rfl,func87.trans (congrArg some (by kernel_rfl))⟩,f27:=⟨f88.name,by kernel_rfl,func88.trans (congrArg some (by kernel_rfl))⟩,f28:=⟨f89.name,by kernel_rfl,func89.trans (congrArg some (by kernel_rfl))⟩,f29:=⟨f90.name,by kernel_rfl,func90.trans (congrArg some (by kernel_rfl))⟩,f31:=func127.trans (congrArg some (by kernel_rfl)),f32:=func128.trans (congrArg some (by kernel_rfl)),f36:=⟨f126.name,by kernel_rfl,func126.trans (congrArg some (by kernel_rfl))⟩,f37:=⟨Tryz.f129.name,by kernel_rfl,func129.trans (congrArg some (by kernel_rfl))⟩,f38:=⟨f130.name,by kernel_rfl,func130.trans (congrArg some (by kernel_rfl))⟩,f39:=⟨f131.name,by kernel_rfl,func131.trans (congrArg some (by kernel_rfl))⟩,f41:=⟨f163.name,by kernel_rfl,func163.trans (congrArg some (by kernel_rfl))⟩,t0:=Tryz.underlying0,a0:=Tryz.isAgg0,z0:=Tryz.sizeOf0,v0:=Tryz.zeroValue0,t3:=Tryz.underlying3,a3:=Tryz.isAgg3,z3:=Tryz.sizeOf3,v3:=Tryz.zeroValue3,t4:=Tryz.underlying4,a4:=Tryz.isAgg4,z4:=Tryz.sizeOf4,v4:=Tryz.zeroValue4,t5:=Tryz.underlying5,a5:=Tryz.isAgg5,z5:=Tryz.sizeOf5,v5:=Tryz.zeroValue5,t9:=Tryz.underlying9,a9:=Tryz.isAgg9,z9:=Tryz.sizeOf9,v9:=Tryz.zeroValue9,t26:=Tryz.underlying49,a26:=Tryz.isAgg49,z26:=Tryz.sizeOf49,v26:=Tryz.zeroValue49,t27:=Tryz.underlying49,a27:=Tryz.isAgg49,z27:=Tryz.sizeOf49,v27:=Tryz.zeroValue49,t29:=Tryz.underlying9,a29:=Tryz.isAgg9,z29:=Tryz.sizeOf9,v29:=Tryz.zeroValue9,t32:=Tryz.underlying103,a32:=Tryz.isAgg103,z32:=Tryz.sizeOf103,v32:=Tryz.zeroValue103,t35:=Tryz.underlying135,a35:=Tryz.isAgg135,z35:=Tryz.sizeOf135,v35:=Tryz.zeroValue135,t36:=Tryz.underlying136,a36:=Tryz.isAgg136,z36:=Tryz.sizeOf136,v36:=Tryz.zeroValue136,t41:=Tryz.underlying113,a41:=Tryz.isAgg113,z41:=Tryz.sizeOf113,v41:=Tryz.zeroValue113,t44:=Tryz.underlying143,a44:=Tryz.isAgg143,z44:=Tryz.sizeOf143,v44:=Tryz.zeroValue143,t46:=Tryz.underlying145,a46:=Tryz.isAgg145,z46:=Tryz.sizeOf145,v46:=Tryz.zeroValue145,t53:=Tryz.underlying186,a53:=Tryz.isAgg186,z53:=Tryz.sizeOf186,v53:=Tryz.zeroValue186,t57:=Tryz.underlying190,a57:=Tryz.isAgg190,z57:=Tryz.sizeOf190,v57:=Tryz.zeroValue190,t63:=Tryz.underlying213,a63:=Tryz.isAgg213,z63:=Tryz.sizeOf213,v63:=Tryz.zeroValue213,t64:=Tryz.underlying195,a64:=Tryz.isAgg195,z64:=Tryz.sizeOf195,v64:=Tryz.zeroValue195 }
end Go.Proofs
namespace Go.Proofs.gl
open Go Go.AL Go.Proofs Tryz
noncomputable section
abbrev P:Program:=Tryz.prog
attribute [instance] vz
theorem hm:P.follows .mixedOrders=true:=Tryz.checked.mixed
def cJ(a b:ByteArray):Int:=Lib.compareBytes a.data.toList b.data.toList
def OS(s:ByteArray)(c:Int):Int:=Lib.indexByte s.data.toList c.toNat.toUInt8
def trimB(s cut:ByteArray):ByteArray:=⟨(Lib.trimS s.data.toList cut.data.toList).toArray⟩
def uk(n:Int):ByteArray:=⟨(Lib.decDigits n.toNat).toArray⟩
def OT(cut:ByteArray):Bool:=cut.data.toList.all fun b=>eh b.toNat 128
def nz(a b:ByteArray):Bool:=a.data.toList==b.data.toList
theorem OU{a b:ByteArray}(h:nz a b=true):a=b:=by
 unfold nz at h;rw[beq_iff_eq]at h;cases a with
 | mk a =>
  cases b with
  | mk b =>
   congr 1;exact Array.ext' h
def xq{α:Type}:List (ByteArray × α)→ByteArray→Option α
 | [],_=>none
 |(k,v)::l,s=>bif nz k s then some v else xq l s
theorem Gd{α:Type}{s:ByteArray}{v:α}:∀{l:List (ByteArray × α)},xq l s=some v→(s,v)∈l
 | [],h=>by cases h
 | (k,u)::l,h=>by
  simp only[xq]at h;cases hk:nz k s with
  | true =>
   rw[hk]at h;cases h;rw[OU hk];exact List.mem_cons_self
  | false =>
   rw[hk]at h;exact List.mem_cons_of_mem _ (Gd h)
abbrev au:List Kd:=[.int .i64,.int .i64,.str,.str,.int .i64,.int .i64,.str,.str]
abbrev xr:List Kd:=[.str,.str,.int .i64,.str]
abbrev aF:List Kd:=[.str,.int .i64,.int .i64,.int .i64,.int .i64,.int .i64,.str,.str,.int .i64,.int .i64,.str,.str,.str,.str,.int .i64]
abbrev ma:List Kd:=[.int .i64,.int .i64,.str,.int .i64]
abbrev dW:List Kd:=[.int .i64,.int .i64,.str]
abbrev OV:List Kd:=[.str,.str,.str,.int .i64,.str]
def t0:ai:=MX []
theorem abe:ak P t0:=Zg P _
def j8(d:List G):Option (List G):=some [.i (cJ (gi d 0).str (gi d 1).str)]
def xu:aB:=⟨51,[.s (.str),.s (.str)],[],[],[.s (.int .i64)],[],[],[],j8⟩
theorem abf:∀ d r,j8 d=some r→dC P 51 (xu.args0 d) (aj (xu.H0 d)) (xu.out r) (aj (xu.H1 r)):=fun d r h=>by
 cases h;exact(wI (vs:=[.string (gi d 0).str,.string (gi d 1).str]) fun w=>(Proofs.Any.strings_Compare Tryz.aa2 (gi d 0).str (gi d 1).str w).mono fun e w' h=>⟨h.1,h.2▸Ext.refl w⟩) []
def t1:ai:=t0.bh xu
theorem abg:ak P t1:=abe.aP abf
def BD(d:List G):Option (List G):=some [.i (OS (gi d 0).str (gi d 1).int)]
def xv:aB:=⟨77,[.s (.str),.s (.int .u8)],[],[],[.s (.int .i64)],[],[],[],BD⟩
theorem abh:∀ d r,BD d=some r→dC P 77 (xv.args0 d) (aj (xv.H0 d)) (xv.out r) (aj (xv.H1 r)):=fun d r h=>by
 cases h;exact(wI (vs:=[.string (gi d 0).str,.int .u8 (gi d 1).int]) fun w=>(Proofs.Any.strings_IndexByte Tryz.aa4 (gi d 0).str (gi d 1).int w).mono fun e w' h=>⟨h.1,h.2▸Ext.refl w⟩) []
def t2:ai:=t1.bh xv
theorem abi:ak P t2:=abg.aP abh
def um(d:List G):Option (List G):=bif (aJ (gi d 0).int&&ao (gi d 0).int 100) then some [.s (uk (gi d 0).int)] else none
def xw:aB:=⟨28,[.s (.int .i64)],[],[],[.s (.str)],[],[],[],um⟩
theorem abj:∀ d r,um d=some r→dC P 28 (xw.args0 d) (aj (xw.H0 d)) (xw.out r) (aj (xw.H1 r)):=fun d r h=>by
 unfold um at h;cases hb:(aJ (gi d 0).int&&ao (gi d 0).int 100)with
 |false=>rw[hb]at h; cases h
 | true =>
  rw[hb]at h;cases h;simp only[az,jW,dD,decide_eq_true_eq]at hb;have e:(gi d 0).int=((gi d 0).int.toNat:Int):=by omega
  have key:cV P 28 [.lit (.int .i64 (gi d 0).int)] (.lit (.string (uk (gi d 0).int))):=by
   rw[e];exact wI (vs:=[.int .i64 ((gi d 0).int.toNat:Int)]) fun w=>(Proofs.Any.strconv_Itoa_small Tryz.aa9 (gi d 0).int.toNat (by omega) w).mono fun e w' h=>⟨h.1,h.2▸Ext.refl w⟩
  exact key []
def t3:ai:=t2.bh xw
theorem abk:ak P t3:=abi.aP abj
def BE(d:List G):Option (List G):=bif (OT (gi d 1).str&&(eE 2 (gi d 1).str.size&&(eh (gi d 1).str.size 4294967281&&(eE 1 (gi d 0).str.size&&eE (gi d 0).str.size 9223372036854775807)))) then some [.s (trimB (gi d 0).str (gi d 1).str)] else none
def xy:aB:=⟨78,[.s (.str),.s (.str)],[],[],[.s (.str)],[],[],[],BE⟩
theorem abl:∀ d r,BE d=some r→dC P 78 (xy.args0 d) (aj (xy.H0 d)) (xy.out r) (aj (xy.H1 r)):=fun d r h=>by
 unfold BE at h;cases hb:(OT (gi d 1).str&&(eE 2 (gi d 1).str.size&&(eh (gi d 1).str.size 4294967281&&(eE 1 (gi d 0).str.size&&eE (gi d 0).str.size 9223372036854775807))))with
 |false=>rw[hb]at h; cases h
 | true =>
  rw[hb]at h;cases h;simp only[az,iR,Nat.ble_eq]at hb;have k:(Tryz.prog.info? (Tryz.OR.t 116)).map (fun i=>(i.zero,i.size))=some (some (.agg (Array.replicate 256 (.bool false))),256):=by kernel_rfl
  exact(wI (vs:=[.string (gi d 0).str,.string (gi d 1).str]) fun w=>(Proofs.Any.strings_Trim_set Tryz.aa5 (zero_of_info k).1 (zero_of_info k).2 (gi d 0).str (gi d 1).str w hb.2.1 hb.2.2.2.1 hb.2.2.2.2 hb.2.2.1 fun j b B=>by
   have:=List.all_eq_true.1 hb.1 b (List.mem_of_getElem? B);simpa[iR]using this).mono fun _ _ h=>⟨h.1,by
    obtain⟨_,q,rfl⟩:=h;exact((Ext.push w _).trans (Ext.push _ _)).trans (Ext.drawn _ _ (Nat.le_add_right _ _))⟩) []
def t4:ai:=t3.bh xy
theorem abm:ak P t4:=abk.aP abl
def OW(d:List G):Option (List G):=some [.i (OS (gi d 0).str (gi d 1).int)]
def xz:aB:=⟨113,[.s (.str),.s (.int .u8)],[],[],[.s (.int .i64)],[],[],[],OW⟩
theorem abn:∀ d r,OW d=some r→dC P 113 (xz.args0 d) (aj (xz.H0 d)) (xz.out r) (aj (xz.H1 r)):=fun d r h=>by
 cases h;exact(wI (vs:=[.string (gi d 0).str,.int .u8 (gi d 1).int]) fun w=>(Proofs.Any.stringslite_IndexByte Tryz.aa7 (gi d 0).str (gi d 1).int w).mono fun e w' h=>⟨h.1,h.2▸Ext.refl w⟩) []
def t5:ai:=t4.bh xz
theorem OX:ak P t5:=abm.aP abn
end
end Go.Proofs.gl
