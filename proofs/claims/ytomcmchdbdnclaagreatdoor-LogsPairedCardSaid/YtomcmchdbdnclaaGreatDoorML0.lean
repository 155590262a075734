/-
 What is proved: functions as functions on data. No condition.
-/
import Derived.Test.YtomcmchdbdnclaaGreatDoorMH
import Derived.Test.YtomcmchdbdnclaaGreatDoorChecked
import Derived.Test.YtomcmchdbdnclaaGreatDoorMQ
import Derived.Shelf.SortM.Plain
import Derived.Shelf.SortM.SortNone
import Derived.Shelf.Small.Strs
import Derived.Shelf.Strconv.Itoa3
import Derived.Shelf.Strings.Search1
import Derived.Shelf.Strings.SlTrimAscii
open Bool renaming and_eq_true->ax
open Nat renaming ble->dD,blt->cC,blt_eq->gG
namespace Go.AL
section
variable [Dr]
theorem aw.aP{P:Program}{τ:au}(h:aw P τ){sp:aH}(d:aY P sp)(hb:jd P sp.f=true:=by kernel_rfl)(g:GD sp=true:=by kernel_rfl):aw P (τ.br sp):=h.br hb g d
theorem aw.aW{P:Program}{τ:au}(h:aw P τ){sp:aH}(d:aY P sp)(hb:jd P sp.f=true:=by kernel_rfl)(g:BP sp=true:=by kernel_rfl):aw P (τ.du sp):=h.du hb g d
theorem ay.a{P:Program}{τ:au}{m:Nat}{L:LT}(hm:P.follows .mixedOrders=true)(d:aw P τ){fn:Func}{sp:bq}(g:ay P m L (a6 fn))(hr:cA P τ L m (cF fn sp.key) sp) (k:nodupB ((bO (a6 fn)).map (·.1))=true:=by kernel_rfl):ay P m (L.add m sp) (a6 fn):=ay.add hm d k g hr
theorem ay.aC{P:Program}{τ:au}{m:Nat}{L:LT}(hm:P.follows .mixedOrders=true)(d:aw P τ){fn:Func}{sp:bq}(g:ay P m L (a6 fn))(hr:gx P τ L m (cutAt fn sp.key) sp) (k:qi sp.key (bR (a6 fn))=true:=by kernel_rfl):ay P m (L.eL m sp) (a6 fn):=ay.eL hm d k g hr
theorem aV{P:Program}{τ:au}{L:LT}(hm:P.follows .mixedOrders=true)(g:aw P τ){sp:aH}{fn:Func}(k:P.funcs[sp.f]? = some fn)(q:ay P sp.cY.length L (a6 fn))(hB:aX P τ L fn sp)(hb:fn.body.isSome=true:=by kernel_rfl)(d:r_ sp.cY=true:=by kernel_rfl):aY P sp:=oT hm g k hb q hB d
end
end Go.AL
set_option linter.all false
namespace Go.Proofs
open Go.Shelf Go.RowKit
set_option maxHeartbeats 4000000
def Tryz.ab4:Go.Shelf.Ren:=⟨fun|106=>67|213=>100|265=>142|n=>n,fun|9=>9|3=>3|n=>n,fun|n=>n⟩
theorem Tryz.ab5:Go.Proofs.Lays.n106 Tryz.prog Tryz.ab4:={ mixed:=by kernel_rfl,f106:=func67.trans (congrArg some (by kernel_rfl)),f213:=func100.trans (congrArg some (by kernel_rfl)),f265:=func142.trans (congrArg some (by kernel_rfl)),t3:=Tryz.underlying3,a3:=Tryz.isAgg3,z3:=Tryz.sizeOf3,v3:=Tryz.zeroValue3,t9:=Tryz.underlying9,a9:=Tryz.isAgg9,z9:=Tryz.sizeOf9,v9:=Tryz.zeroValue9 }
def Tryz.ab6:Go.Shelf.Ren:=⟨fun|137=>156|217=>173|266=>187|n=>n,fun|9=>9|5=>5|3=>3|n=>n,fun|n=>n⟩
theorem Tryz.ab7:Go.Proofs.Lays.n137 Tryz.prog Tryz.ab6:={ mixed:=by kernel_rfl,f137:=func156.trans (congrArg some (by kernel_rfl)),f217:=func173.trans (congrArg some (by kernel_rfl)),f266:=func187.trans (congrArg some (by kernel_rfl)),t3:=Tryz.underlying3,a3:=Tryz.isAgg3,z3:=Tryz.sizeOf3,v3:=Tryz.zeroValue3,t5:=Tryz.underlying5,a5:=Tryz.isAgg5,z5:=Tryz.sizeOf5,v5:=Tryz.zeroValue5,t9:=Tryz.underlying9,a9:=Tryz.isAgg9,z9:=Tryz.sizeOf9,v9:=Tryz.zeroValue9 }
def Tryz.PK:Go.Shelf.Ren:=⟨fun|160=>157|232=>175|231=>174|227=>161|234=>177|233=>176|236=>179|235=>178|228=>162|271=>163|151=>188|197=>185|120=>184|152=>159|260=>190|137=>156|119=>183|224=>181|225=>180|217=>173|266=>187|n=>n,fun|9=>9|4=>4|3=>3|5=>5|117=>189|116=>188|0=>0|124=>198|21=>21|105=>191|46=>106|119=>207|139=>210|138=>209|n=>n,fun|3=>4|4=>5|n=>n⟩
theorem Tryz.ab8:Go.Proofs.Lays.n160 Tryz.prog Tryz.PK:={ mixed:=by kernel_rfl,f119:=func183.trans (congrArg some (by kernel_rfl)),f120:=func184.trans (congrArg some (by kernel_rfl)),f137:=func156.trans (congrArg some (by kernel_rfl)),f151:=func188.trans (congrArg some (by kernel_rfl)),f152:=func159.trans (congrArg some (by kernel_rfl)),f160:=func157.trans (congrArg some (by kernel_rfl)),f197:=func185.trans (congrArg some (by kernel_rfl)),f217:=func173.trans (congrArg some (by kernel_rfl)),f224:=func181.trans (congrArg some (by kernel_rfl)),f225:=func180.trans (congrArg some (by kernel_rfl)),f227:=func161.trans (congrArg some (by kernel_rfl)),f228:=func162.trans (congrArg some (by kernel_rfl)),f231:=func174.trans (congrArg some (by kernel_rfl)),f232:=func175.trans (congrArg some (by kernel_rfl)),f233:=func176.trans (congrArg some (by kernel_rfl)),f234:=func177.trans (congrArg some (by kernel_rfl)),f235:=func178.trans (congrArg some (by kernel_rfl)),f236:=func179.trans (congrArg some (by kernel_rfl)),f260:=func190.trans (congrArg some (by kernel_rfl)),f266:=func187.trans (congrArg some (by kernel_rfl)),f271:=func163.trans (congrArg some (by kernel_rfl)),t0:=Tryz.underlying0,a0:=Tryz.isAgg0,z0:=Tryz.sizeOf0,v0:=Tryz.zeroValue0,t3:=Tryz.underlying3,a3:=Tryz.isAgg3,z3:=Tryz.sizeOf3,v3:=Tryz.zeroValue3,t4:=Tryz.underlying4,a4:=Tryz.isAgg4,z4:=Tryz.sizeOf4,v4:=Tryz.zeroValue4,t5:=Tryz.underlying5,a5:=Tryz.isAgg5,z5:=Tryz.sizeOf5,v5:=Tryz.zeroValue5,t9:=Tryz.underlying9,a9:=Tryz.isAgg9,z9:=Tryz.sizeOf9,v9:=Tryz.zeroValue9,t21:=Tryz.underlying21,a21:=Tryz.isAgg21,z21:=Tryz.sizeOf21,v21:=Tryz.zeroValue21,t46:=Tryz.underlying106,a46:=Tryz.isAgg106,z46:=Tryz.sizeOf106,v46:=Tryz.zeroValue106,t105:=Tryz.underlying191,a105:=Tryz.isAgg191,z105:=Tryz.sizeOf191,v105:=Tryz.zeroValue191,t116:=Tryz.underlying188,a116:=Tryz.isAgg188,z116:=Tryz.sizeOf188,t117:=Tryz.underlying189,a117:=Tryz.isAgg189,z117:=Tryz.sizeOf189,v117:=Tryz.zeroValue189,t119:=Tryz.underlying207,a119:=Tryz.isAgg207,z119:=Tryz.sizeOf207,t124:=Tryz.underlying198,a124:=Tryz.isAgg198,z124:=Tryz.sizeOf198,v124:=Tryz.zeroValue198,t138:=Tryz.underlying209,a138:=Tryz.isAgg209,z138:=Tryz.sizeOf209,v138:=Tryz.zeroValue209,t139:=Tryz.underlying210,a139:=Tryz.isAgg210,z139:=Tryz.sizeOf210,v139:=Tryz.zeroValue210,g3:=by kernel_rfl,g4:=by kernel_rfl }
def Tryz.ab9:Go.Shelf.Ren:=⟨fun|217=>173|266=>187|n=>n,fun|9=>9|5=>5|3=>3|n=>n,fun|n=>n⟩
theorem Tryz.ab_:Go.Proofs.Lays.n217 Tryz.prog Tryz.ab9:={ mixed:=by kernel_rfl,f217:=func173.trans (congrArg some (by kernel_rfl)),f266:=func187.trans (congrArg some (by kernel_rfl)),t3:=Tryz.underlying3,a3:=Tryz.isAgg3,z3:=Tryz.sizeOf3,v3:=Tryz.zeroValue3,t5:=Tryz.underlying5,a5:=Tryz.isAgg5,z5:=Tryz.sizeOf5,v5:=Tryz.zeroValue5,t9:=Tryz.underlying9,a9:=Tryz.isAgg9,z9:=Tryz.sizeOf9,v9:=Tryz.zeroValue9 }
def Tryz.ab':Go.Shelf.Ren:=⟨fun|171=>30|243=>56|246=>73|283=>114|284=>115|285=>116|286=>117|129=>86|317=>148|318=>149|319=>150|320=>151|337=>170|338=>171|n=>n,fun|3=>3|9=>9|2=>2|4=>4|171=>151|0=>0|53=>133|37=>153|5=>5|173=>154|212=>178|51=>131|20=>20|213=>179|46=>106|232=>202|233=>203|n=>n,fun|17=>1|18=>2|19=>3|n=>n⟩
theorem Tryz.aca:Go.Proofs.Lays.n171 Tryz.prog Tryz.ab':={ mixed:=by kernel_rfl,f129:=func86.trans (congrArg some (by kernel_rfl)),f171:=func30.trans (congrArg some (by kernel_rfl)),f243:=func56.trans (congrArg some (by kernel_rfl)),f246:=func73.trans (congrArg some (by kernel_rfl)),f283:=func114.trans (congrArg some (by kernel_rfl)),f284:=func115.trans (congrArg some (by kernel_rfl)),f285:=func116.trans (congrArg some (by kernel_rfl)),f286:=func117.trans (congrArg some (by kernel_rfl)),f317:=func148.trans (congrArg some (by kernel_rfl)),f318:=func149.trans (congrArg some (by kernel_rfl)),f319:=func150.trans (congrArg some (by kernel_rfl)),f320:=func151.trans (congrArg some (by kernel_rfl)),f337:=func170.trans (congrArg some (by kernel_rfl)),f338:=func171.trans (congrArg some (by kernel_rfl)),t0:=Tryz.underlying0,a0:=Tryz.isAgg0,z0:=Tryz.sizeOf0,v0:=Tryz.zeroValue0,t2:=Tryz.underlying2,a2:=Tryz.isAgg2,z2:=Tryz.sizeOf2,v2:=Tryz.zeroValue2,t3:=Tryz.underlying3,a3:=Tryz.isAgg3,z3:=Tryz.sizeOf3,v3:=Tryz.zeroValue3,t4:=Tryz.underlying4,a4:=Tryz.isAgg4,z4:=Tryz.sizeOf4,v4:=Tryz.zeroValue4,t5:=Tryz.underlying5,a5:=Tryz.isAgg5,z5:=Tryz.sizeOf5,v5:=Tryz.zeroValue5,t9:=Tryz.underlying9,a9:=Tryz.isAgg9,z9:=Tryz.sizeOf9,v9:=Tryz.zeroValue9,t20:=Tryz.underlying20,a20:=Tryz.isAgg20,z20:=Tryz.sizeOf20,v20:=Tryz.zeroValue20,t37:=Tryz.underlying153,a37:=Tryz.isAgg153,z37:=Tryz.sizeOf153,v37:=Tryz.zeroValue153,t46:=Tryz.underlying106,a46:=Tryz.isAgg106,z46:=Tryz.sizeOf106,v46:=Tryz.zeroValue106,t51:=Tryz.underlying131,a51:=Tryz.isAgg131,z51:=Tryz.sizeOf131,v51:=Tryz.zeroValue131,t53:=Tryz.underlying133,a53:=Tryz.isAgg133,z53:=Tryz.sizeOf133,v53:=Tryz.zeroValue133,t171:=Tryz.underlying151,a171:=Tryz.isAgg151,z171:=Tryz.sizeOf151,v171:=Tryz.zeroValue151,t173:=Tryz.underlying154,a173:=Tryz.isAgg154,z173:=Tryz.sizeOf154,v173:=Tryz.zeroValue154,t212:=Tryz.underlying178,a212:=Tryz.isAgg178,z212:=Tryz.sizeOf178,v212:=Tryz.zeroValue178,t213:=Tryz.underlying179,a213:=Tryz.isAgg179,z213:=Tryz.sizeOf179,t232:=Tryz.underlying202,a232:=Tryz.isAgg202,z232:=Tryz.sizeOf202,v232:=Tryz.zeroValue202,t233:=Tryz.underlying203,a233:=Tryz.isAgg203,z233:=Tryz.sizeOf203,v233:=Tryz.zeroValue203,g17:=by kernel_rfl,g18:=by kernel_rfl,g19:=by kernel_rfl }
def Tryz.acb:Go.Shelf.Ren:=⟨fun|6=>32|15=>60|14=>59|28=>85|29=>86|20=>77|21=>78|22=>79|23=>80|24=>81|25=>82|26=>83|27=>84|46=>119|47=>120|48=>121|49=>122|50=>123|57=>152|n=>n,fun|22=>40|24=>53|25=>70|3=>3|39=>106|0=>0|53=>131|55=>133|4=>4|46=>125|45=>124|50=>115|5=>5|9=>9|66=>156|70=>160|76=>180|77=>48|n=>n,fun|n=>n⟩
theorem Tryz.PL:Go.Proofs.SlLaysF0.n6 Tryz.prog Tryz.acb:={ mixed:=by kernel_rfl,f6:=⟨Tryz.f32.name,by kernel_rfl,func32.trans (congrArg some (by kernel_rfl))⟩,f14:=⟨f59.name,by kernel_rfl,func59.trans (congrArg some (by kernel_rfl))⟩,f15:=func60.trans (congrArg some (by kernel_rfl)),f20:=⟨f77.name,by kernel_rfl,func77.trans (congrArg some (by kernel_rfl))⟩,f21:=⟨f78.name,by kernel_rfl,func78.trans (congrArg some (by kernel_rfl))⟩,f22:=⟨f79.name,by kernel_rfl,func79.trans (congrArg some (by kernel_rfl))⟩,f23:=⟨f80.name,by kernel_rfl,func80.trans (congrArg some (by kernel_rfl))⟩,f24:=⟨f81.name,by kernel_rfl,func81.trans (congrArg some (by kernel_rfl))⟩,f25:=⟨f82.name,by kernel_rfl,func82.trans (congrArg some (by kernel_rfl))⟩,f26:=⟨f83.name,by kernel_rfl,func83.trans (congrArg some (by kernel_rfl))⟩,f27:=⟨f84.name,by kernel_rfl,func84.trans (congrArg some (by kernel_rfl))⟩,f28:=func85.trans (congrArg some (by kernel_rfl)),f29:=func86.trans (congrArg some (by kernel_rfl)),f46:=⟨Tryz.f119.name,by kernel_rfl,func119.trans (congrArg some (by kernel_rfl))⟩,f47:=func120.trans (congrArg some (by kernel_rfl)),f48:=func121.trans (congrArg some (by kernel_rfl)),f49:=⟨f122.name,by kernel_rfl,func122.trans (congrArg some (by kernel_rfl))⟩,f50:=⟨f123.name,by kernel_rfl,func123.trans (congrArg some (by kernel_rfl))⟩,f57:=⟨Tryz.f152.name,by kernel_rfl,func152.trans (congrArg some (by kernel_rfl))⟩,t0:=Tryz.underlying0,a0:=Tryz.isAgg0,z0:=Tryz.sizeOf0,v0:=Tryz.zeroValue0,t3:=Tryz.underlying3,a3:=Tryz.isAgg3,z3:=Tryz.sizeOf3,v3:=Tryz.zeroValue3,t4:=Tryz.underlying4,a4:=Tryz.isAgg4,z4:=Tryz.sizeOf4,v4:=Tryz.zeroValue4,t5:=Tryz.underlying5,a5:=Tryz.isAgg5,z5:=Tryz.sizeOf5,v5:=Tryz.zeroValue5,t9:=Tryz.underlying9,a9:=Tryz.isAgg9,z9:=Tryz.sizeOf9,v9:=Tryz.zeroValue9,t22:=Tryz.underlying40,a22:=Tryz.isAgg40,z22:=Tryz.sizeOf40,v22:=Tryz.zeroValue40,t25:=Tryz.underlying70,a25:=Tryz.isAgg70,z25:=Tryz.sizeOf70,v25:=Tryz.zeroValue70,t39:=Tryz.underlying106,a39:=Tryz.isAgg106,z39:=Tryz.sizeOf106,v39:=Tryz.zeroValue106,t45:=Tryz.underlying124,a45:=Tryz.isAgg124,z45:=Tryz.sizeOf124,v45:=Tryz.zeroValue124,t46:=Tryz.underlying125,a46:=Tryz.isAgg125,z46:=Tryz.sizeOf125,v46:=Tryz.zeroValue125,t50:=Tryz.underlying115,a50:=Tryz.isAgg115,z50:=Tryz.sizeOf115,v50:=Tryz.zeroValue115,t53:=Tryz.underlying131,a53:=Tryz.isAgg131,z53:=Tryz.sizeOf131,v53:=Tryz.zeroValue131,t55:=Tryz.underlying133,a55:=Tryz.isAgg133,z55:=Tryz.sizeOf133,v55:=Tryz.zeroValue133,t66:=Tryz.underlying156,a66:=Tryz.isAgg156,z66:=Tryz.sizeOf156,v66:=Tryz.zeroValue156,t70:=Tryz.underlying160,a70:=Tryz.isAgg160,z70:=Tryz.sizeOf160,v70:=Tryz.zeroValue160,t76:=Tryz.underlying180,a76:=Tryz.isAgg180,z76:=Tryz.sizeOf180,v76:=Tryz.zeroValue180,t77:=Tryz.underlying48,a77:=Tryz.isAgg48,z77:=Tryz.sizeOf48,v77:=Tryz.zeroValue48 }
def Tryz.acd:Go.Shelf.Ren:=⟨fun|5=>51|8=>60|7=>70|19=>85|20=>86|10=>103|11=>104|12=>105|13=>106|14=>107|15=>108|16=>109|17=>110|18=>111|30=>143|31=>120|32=>121|33=>144|34=>145|35=>146|40=>169|n=>n,fun|23=>22|25=>3|3=>3|32=>106|22=>22|0=>0|44=>131|46=>133|4=>4|36=>125|35=>124|41=>115|5=>5|9=>9|53=>156|57=>160|63=>180|64=>48|n=>n,fun|n=>n⟩
theorem Tryz.ace:Go.Proofs.SlLaysM.n5 Tryz.prog Tryz.acd:={ mixed:=by kernel_rfl,f5:=⟨f51.name,by kernel_rfl,func51.trans (congrArg some (by kernel_rfl))⟩,f7:=⟨f70.name,by kernel_rfl,func70.trans (congrArg some (by kernel_rfl))⟩,f8:=func60.trans (congrArg some (by kernel_rfl)),f10:=⟨f103.name,by kernel_rfl,func103.trans (congrArg some (by kernel_rfl))⟩,f11:=⟨f104.name,by kernel_rfl,func104.trans (congrArg some (by kernel_rfl))⟩,f12:=⟨f105.name,by kernel_rfl,func105.trans (congrArg some (by kernel_rfl))⟩,f13:=⟨Tryz.f106.name,by kernel_rfl,func106.trans (congrArg some (by kernel_rfl))⟩,f14:=⟨f107.name,by kernel_rfl,func107.trans (congrArg some (by kernel_rfl))⟩,f15:=⟨f108.name,by kernel_rfl,func108.trans (congrArg some (by kernel_rfl))⟩,f16:=⟨f109.name,by kernel_rfl,func109.trans (congrArg some (by kernel_rfl))⟩,f17:=⟨f110.name,by kernel_rfl,func110.trans (congrArg some (by kernel_rfl))⟩,f18:=⟨f111.name,by kernel_rfl,func111.trans (congrArg some (by kernel_rfl))⟩,f19:=func85.trans (congrArg some (by kernel_rfl)),f20:=func86.trans (congrArg some (by kernel_rfl)),f30:=⟨f143.name,by kernel_rfl,func143.trans (congrArg some (by kernel_rfl))⟩,f31:=func120.trans (congrArg some (by kernel_rfl)),f32:=func121.trans (congrArg some (by kernel_rfl)),f33:=⟨f144.name,by kernel_rfl,func144.trans (congrArg some (by kernel_rfl))⟩,f34:=⟨f145.name,by kernel_rfl,func145.trans (congrArg some (by kernel_rfl))⟩,f35:=⟨f146.name,by kernel_rfl,func146.trans (congrArg some (by kernel_rfl))⟩,f40:=⟨f169.name,by kernel_rfl,func169.trans (congrArg some (by kernel_rfl))⟩,t0:=Tryz.underlying0,a0:=Tryz.isAgg0,z0:=Tryz.sizeOf0,v0:=Tryz.zeroValue0,t3:=Tryz.underlying3,a3:=Tryz.isAgg3,z3:=Tryz.sizeOf3,v3:=Tryz.zeroValue3,t4:=Tryz.underlying4,a4:=Tryz.isAgg4,z4:=Tryz.sizeOf4,v4:=Tryz.zeroValue4,t5:=Tryz.underlying5,a5:=Tryz.isAgg5,z5:=Tryz.sizeOf5,v5:=Tryz.zeroValue5,t9:=Tryz.underlying9,a9:=Tryz.isAgg9,z9:=Tryz.sizeOf9,v9:=Tryz.zeroValue9,t22:=Tryz.underlying22,a22:=Tryz.isAgg22,z22:=Tryz.sizeOf22,v22:=Tryz.zeroValue22,t23:=Tryz.underlying22,a23:=Tryz.isAgg22,z23:=Tryz.sizeOf22,v23:=Tryz.zeroValue22,t25:=Tryz.underlying3,a25:=Tryz.isAgg3,z25:=Tryz.sizeOf3,v25:=Tryz.zeroValue3,t32:=Tryz.underlying106,a32:=Tryz.isAgg106,z32:=Tryz.sizeOf106,v32:=Tryz.zeroValue106,t35:=Tryz.underlying124,a35:=Tryz.isAgg124,z35:=Tryz.sizeOf124,v35:=Tryz.zeroValue124,t36:=Tryz.underlying125,a36:=Tryz.isAgg125,z36:=Tryz.sizeOf125,v36:=Tryz.zeroValue125,t41:=Tryz.underlying115,a41:=Tryz.isAgg115,z41:=Tryz.sizeOf115,v41:=Tryz.zeroValue115,t44:=Tryz.underlying131,a44:=Tryz.isAgg131,z44:=Tryz.sizeOf131,v44:=Tryz.zeroValue131,t46:=Tryz.underlying133,a46:=Tryz.isAgg133,z46:=Tryz.sizeOf133,v46:=Tryz.zeroValue133,t53:=Tryz.underlying156,a53:=Tryz.isAgg156,z53:=Tryz.sizeOf156,v53:=Tryz.zeroValue156,t57:=Tryz.underlying160,a57:=Tryz.isAgg160,z57:=Tryz.sizeOf160,v57:=Tryz.zeroValue160,t63:=Tryz.underlying180,a63:=Tryz.isAgg180,z63:=Tryz.sizeOf180,v63:=Tryz.zeroValue180,t64:=Tryz.underlying48,a64:=Tryz.isAgg48,z64:=Tryz.sizeOf48,v64:=Tryz.zeroValue48 }
end Go.Proofs
namespace Go.Proofs.iy
open Go Go.AL Go.Proofs Tryz
noncomputable section
abbrev P:Program:=Tryz.prog
attribute [instance] wR
theorem hm:P.follows .mixedOrders=true:=Tryz.checked.mixed
def eX(a b:ByteArray):Int:=Lib.compareBytes a.data.toList b.data.toList
def PM(s:ByteArray)(c:Int):Int:=Lib.indexByte s.data.toList c.toNat.toUInt8
def trimB(s cut:ByteArray):ByteArray:=⟨(Lib.trimS s.data.toList cut.data.toList).toArray⟩
def lx(n:Int):ByteArray:=⟨(Lib.decDigits n.toNat).toArray⟩
def PN(cut:ByteArray):Bool:=cut.data.toList.all fun b=>cC b.toNat 128
def u4(a b:ByteArray):Bool:=a.data.toList==b.data.toList
theorem PO{a b:ByteArray}(h:u4 a b=true):a=b:=by
 unfold u4 at h;rw[beq_iff_eq]at h;cases a with
 | mk a =>
  cases b with
  | mk b =>
   congr 1;exact Array.ext' h
def yy{α:Type}:List (ByteArray × α)->ByteArray->Option α
 | [],_=>none
 |(k,v)::l,s=>bif u4 k s then some v else yy l s
theorem G6{α:Type}{s:ByteArray}{v:α}:∀{l:List (ByteArray × α)},yy l s=some v->(s,v)∈l
 | [],h=>by cases h
 | (k,u)::l,h=>by
  simp only[yy]at h;cases hk:u4 k s with
  | true =>
   rw[hk]at h;cases h;rw[PO hk];exact List.mem_cons_self
  | false =>
   rw[hk]at h;exact List.mem_cons_of_mem _ (G6 h)
abbrev aq:List Kd:=[.int .i64,.int .i64,.str,.str,.int .i64,.int .i64,.str,.str]
abbrev oY:List Kd:=[.int .i64,.int .i64,.str,.int .i64]
abbrev PQ:List Kd:=[.str,.str,.str,.int .i64,.str]
def t0:au:=N_ []
theorem acf:aw P t0:=aag P _
def mX(d:List G):Option (List G):=some [.i (eX (gi d 0).str (gi d 1).str)]
abbrev ad:Sh:=.s (.int .i64)
abbrev cO:Sh:=.s (.str)
abbrev dj:Sh:=.s (.bool)
abbrev gL:Sh:=.s (.list aq)
abbrev fj:Sh:=.s (.list [.int .i64])
abbrev gz:Sh:=.s (.row [.str,.list aq])
abbrev sx:Sh:=.s (.addr)
def yz:aH:=⟨67,[cO,cO],[],[],[ad],[],[],[],mX⟩
theorem acg:∀ d r,mX d=some r->dn P 67 (yz.args0 d) (ah (yz.H0 d)) (yz.out r) (ah (yz.H1 r)):=fun d r h=>by
 cases h;exact(xW (vs:=[.string (gi d 0).str,.string (gi d 1).str]) fun w=>(Proofs.Any.strings_Compare Tryz.ab5 (gi d 0).str (gi d 1).str w).mono fun e w' h=>⟨h.1,h.2▸Ext.refl w⟩) []
def t1:au:=t0.br yz
theorem ach:aw P t1:=acf.aP acg
def Cr(d:List G):Option (List G):=some [.i (PM (gi d 0).str (gi d 1).int)]
def yA:aH:=⟨156,[cO,.s (.int .u8)],[],[],[ad],[],[],[],Cr⟩
theorem aci:∀ d r,Cr d=some r->dn P 156 (yA.args0 d) (ah (yA.H0 d)) (yA.out r) (ah (yA.H1 r)):=fun d r h=>by
 cases h;exact(xW (vs:=[.string (gi d 0).str,.int .u8 (gi d 1).int]) fun w=>(Proofs.Any.strings_IndexByte Tryz.ab7 (gi d 0).str (gi d 1).int w).mono fun e w' h=>⟨h.1,h.2▸Ext.refl w⟩) []
def t2:au:=t1.br yA
theorem acj:aw P t2:=ach.aP aci
def u5(d:List G):Option (List G):=bif (az (gi d 0).int&&aj (gi d 0).int 100) then some [.s (lx (gi d 0).int)] else none
def yB:aH:=⟨30,[ad],[],[],[cO],[],[],[],u5⟩
theorem ack:∀ d r,u5 d=some r->dn P 30 (yB.args0 d) (ah (yB.H0 d)) (yB.out r) (ah (yB.H1 r)):=fun d r h=>by
 unfold u5 at h;cases hb:(az (gi d 0).int&&aj (gi d 0).int 100)with
 |false=>rw[hb]at h; cases h
 | true =>
  rw[hb]at h;cases h;simp only[ax,iP,cd,decide_eq_true_eq]at hb;have e:(gi d 0).int=((gi d 0).int.toNat:Int):=by omega
  have key:c7 P 30 [.lit (.int .i64 (gi d 0).int)] (.lit (.string (lx (gi d 0).int))):=by
   rw[e];exact xW (vs:=[.int .i64 ((gi d 0).int.toNat:Int)]) fun w=>(Proofs.Any.strconv_Itoa_small Tryz.aca (gi d 0).int.toNat (by omega) w).mono fun e w' h=>⟨h.1,h.2▸Ext.refl w⟩
  exact key []
def t3:au:=t2.br yB
theorem acm:aw P t3:=acj.aP ack
def Cs(d:List G):Option (List G):=bif (PN (gi d 1).str&&(dD 2 (gi d 1).str.size&&(cC (gi d 1).str.size 4294967281&&(dD 1 (gi d 0).str.size&&dD (gi d 0).str.size 9223372036854775807)))) then some [.s (trimB (gi d 0).str (gi d 1).str)] else none
def yC:aH:=⟨157,[cO,cO],[],[],[cO],[],[],[],Cs⟩
theorem acn:∀ d r,Cs d=some r->dn P 157 (yC.args0 d) (ah (yC.H0 d)) (yC.out r) (ah (yC.H1 r)):=fun d r h=>by
 unfold Cs at h;cases hb:(PN (gi d 1).str&&(dD 2 (gi d 1).str.size&&(cC (gi d 1).str.size 4294967281&&(dD 1 (gi d 0).str.size&&dD (gi d 0).str.size 9223372036854775807))))with
 |false=>rw[hb]at h; cases h
 | true =>
  rw[hb]at h;cases h;simp only[ax,gG,Nat.ble_eq]at hb;have g:(Tryz.prog.info? (Tryz.PK.t 116)).map (fun i=>(i.zero,i.size))=some (some (.agg (Array.replicate 256 (.bool false))),256):=by kernel_rfl
  exact(xW (vs:=[.string (gi d 0).str,.string (gi d 1).str]) fun w=>(Proofs.Any.strings_Trim_set Tryz.ab8 (zero_of_info g).1 (zero_of_info g).2 (gi d 0).str (gi d 1).str w hb.2.1 hb.2.2.2.1 hb.2.2.2.2 hb.2.2.1 fun j b k=>by
   have:=List.all_eq_true.1 hb.1 b (List.mem_of_getElem? k);simpa[gG]using this).mono fun _ _ h=>⟨h.1,by
    obtain⟨_,q,rfl⟩:=h;exact((Ext.push w _).trans (Ext.push _ _)).trans (Ext.drawn _ _ (Nat.le_add_right _ _))⟩) []
def t4:au:=t3.br yC
theorem aco:aw P t4:=acm.aP acn
def PR(d:List G):Option (List G):=some [.i (PM (gi d 0).str (gi d 1).int)]
def yD:aH:=⟨173,[cO,.s (.int .u8)],[],[],[ad],[],[],[],PR⟩
theorem acp:∀ d r,PR d=some r->dn P 173 (yD.args0 d) (ah (yD.H0 d)) (yD.out r) (ah (yD.H1 r)):=fun d r h=>by
 cases h;exact(xW (vs:=[.string (gi d 0).str,.int .u8 (gi d 1).int]) fun w=>(Proofs.Any.stringslite_IndexByte Tryz.ab_ (gi d 0).str (gi d 1).int w).mono fun e w' h=>⟨h.1,h.2▸Ext.refl w⟩) []
def t5:au:=t4.br yD
theorem PS:aw P t5:=aco.aP acp
end
end Go.Proofs.iy
