/-
 What is proved here: functions of the program as functions on data. No condition.
-/
import Derived.Test.YtjmnkdlhpemooaaGreatDoorMH
import Derived.Test.YtjmnkdlhpemooaaGreatDoorChecked
import Derived.Test.YtjmnkdlhpemooaaGreatDoorMT
import Derived.Shelf.SortM.Plain
import Derived.Shelf.SortM.SortNone
import Derived.Shelf.Small.Strs
import Derived.Shelf.Strings.Search1
import Derived.Shelf.Strings.SlTrimAscii
open Nat renaming ble→ep,blt→er,blt_eq→jb
namespace Go.AL
section
variable [Dr]
theorem aq.aP{P:Program}{τ:ak}(h:aq P τ){sp:aG}(d:aV P sp)(hb:fc P sp.f=true:=by kernel_rfl)(k:C' sp=true:=by kernel_rfl):aq P (τ.bC sp):=h.bC hb k d
theorem aq.aW{P:Program}{τ:ak}(h:aq P τ){sp:aG}(d:aV P sp)(hb:fc P sp.f=true:=by kernel_rfl)(k:yw sp=true:=by kernel_rfl):aq P (τ.cT sp):=h.cT hb k d
theorem aA.a{P:Program}{τ:ak}{m:Nat}{L:LT}(hm:P.follows .mixedOrders=true)(d:aq P τ){fn:Func}{sp:bz}(h:aA P m L (aU fn))(hr:cy P τ L m (cD fn sp.key) sp) (k:nodupB ((bM (aU fn)).map (·.1))=true:=by kernel_rfl):aA P m (L.add m sp) (aU fn):=aA.add hm d k h hr
theorem aA.aC{P:Program}{τ:ak}{m:Nat}{L:LT}(hm:P.follows .mixedOrders=true)(d:aq P τ){fn:Func}{sp:bz}(h:aA P m L (aU fn))(hr:gW P τ L m (cutAt fn sp.key) sp) (k:k_ sp.key (bI (aU fn))=true:=by kernel_rfl):aA P m (L.fX m sp) (aU fn):=aA.fX hm d k h hr
theorem aT{P:Program}{τ:ak}{L:LT}(hm:P.follows .mixedOrders=true)(h:aq P τ){sp:aG}{fn:Func}(k:P.funcs[sp.f]? = some fn)(q:aA P sp.cI.length L (aU fn))(u:aX P τ L fn sp)(hb:fn.body.isSome=true:=by kernel_rfl)(d:pR sp.cI=true:=by kernel_rfl):aV P sp:=rX hm h k hb q u d
end
end Go.AL
set_option linter.all false
namespace Go.Proofs
open Go.Shelf Go.RowKit
set_option maxHeartbeats 4000000
def Tryz.Xy:Go.Shelf.Ren:=⟨fun|106=>55|213=>91|265=>126|n=>n,fun|9=>9|3=>3|n=>n,fun|n=>n⟩
theorem Tryz.Xz:Go.Proofs.Lays.n106 Tryz.prog Tryz.Xy:={ mixed:=by kernel_rfl,f106:=Tryz.func55.trans (congrArg some (by kernel_rfl)),f213:=Tryz.func91.trans (congrArg some (by kernel_rfl)),f265:=Tryz.func126.trans (congrArg some (by kernel_rfl)),t3:=Tryz.underlying3,a3:=Tryz.isAgg3,z3:=Tryz.sizeOf3,v3:=Tryz.zeroValue3,t9:=Tryz.underlying9,a9:=Tryz.isAgg9,z9:=Tryz.sizeOf9,v9:=Tryz.zeroValue9 }
def Tryz.XA:Go.Shelf.Ren:=⟨fun|137=>77|217=>108|266=>136|n=>n,fun|9=>9|5=>5|3=>3|n=>n,fun|n=>n⟩
theorem Tryz.XB:Go.Proofs.Lays.n137 Tryz.prog Tryz.XA:={ mixed:=by kernel_rfl,f137:=Tryz.func77.trans (congrArg some (by kernel_rfl)),f217:=Tryz.func108.trans (congrArg some (by kernel_rfl)),f266:=Tryz.func136.trans (congrArg some (by kernel_rfl)),t3:=Tryz.underlying3,a3:=Tryz.isAgg3,z3:=Tryz.sizeOf3,v3:=Tryz.zeroValue3,t5:=Tryz.underlying5,a5:=Tryz.isAgg5,z5:=Tryz.sizeOf5,v5:=Tryz.zeroValue5,t9:=Tryz.underlying9,a9:=Tryz.isAgg9,z9:=Tryz.sizeOf9,v9:=Tryz.zeroValue9 }
def Tryz.L0:Go.Shelf.Ren:=⟨fun|160=>78|232=>110|231=>109|227=>111|234=>113|233=>112|236=>115|235=>114|228=>137|271=>140|151=>139|197=>138|120=>166|152=>165|260=>164|137=>77|119=>191|224=>189|225=>188|217=>108|266=>136|n=>n,fun|9=>9|4=>4|3=>3|5=>5|117=>156|116=>155|0=>0|124=>159|21=>21|105=>180|46=>81|119=>220|139=>223|138=>222|n=>n,fun|3=>1|4=>2|n=>n⟩
theorem Tryz.XC:Go.Proofs.Lays.n160 Tryz.prog Tryz.L0:={ mixed:=by kernel_rfl,f119:=Tryz.func191.trans (congrArg some (by kernel_rfl)),f120:=Tryz.func166.trans (congrArg some (by kernel_rfl)),f137:=Tryz.func77.trans (congrArg some (by kernel_rfl)),f151:=Tryz.func139.trans (congrArg some (by kernel_rfl)),f152:=Tryz.func165.trans (congrArg some (by kernel_rfl)),f160:=Tryz.func78.trans (congrArg some (by kernel_rfl)),f197:=Tryz.func138.trans (congrArg some (by kernel_rfl)),f217:=Tryz.func108.trans (congrArg some (by kernel_rfl)),f224:=Tryz.func189.trans (congrArg some (by kernel_rfl)),f225:=Tryz.func188.trans (congrArg some (by kernel_rfl)),f227:=Tryz.func111.trans (congrArg some (by kernel_rfl)),f228:=Tryz.func137.trans (congrArg some (by kernel_rfl)),f231:=Tryz.func109.trans (congrArg some (by kernel_rfl)),f232:=Tryz.func110.trans (congrArg some (by kernel_rfl)),f233:=Tryz.func112.trans (congrArg some (by kernel_rfl)),f234:=Tryz.func113.trans (congrArg some (by kernel_rfl)),f235:=Tryz.func114.trans (congrArg some (by kernel_rfl)),f236:=Tryz.func115.trans (congrArg some (by kernel_rfl)),f260:=Tryz.func164.trans (congrArg some (by kernel_rfl)),f266:=Tryz.func136.trans (congrArg some (by kernel_rfl)),f271:=Tryz.func140.trans (congrArg some (by kernel_rfl)),t0:=Tryz.underlying0,a0:=Tryz.isAgg0,z0:=Tryz.sizeOf0,v0:=Tryz.zeroValue0,t3:=Tryz.underlying3,a3:=Tryz.isAgg3,z3:=Tryz.sizeOf3,v3:=Tryz.zeroValue3,t4:=Tryz.underlying4,a4:=Tryz.isAgg4,z4:=Tryz.sizeOf4,v4:=Tryz.zeroValue4,t5:=Tryz.underlying5,a5:=Tryz.isAgg5,z5:=Tryz.sizeOf5,v5:=Tryz.zeroValue5,t9:=Tryz.underlying9,a9:=Tryz.isAgg9,z9:=Tryz.sizeOf9,v9:=Tryz.zeroValue9,t21:=Tryz.underlying21,a21:=Tryz.isAgg21,z21:=Tryz.sizeOf21,v21:=Tryz.zeroValue21,t46:=Tryz.underlying81,a46:=Tryz.isAgg81,z46:=Tryz.sizeOf81,v46:=Tryz.zeroValue81,t105:=Tryz.underlying180,a105:=Tryz.isAgg180,z105:=Tryz.sizeOf180,v105:=Tryz.zeroValue180,t116:=Tryz.underlying155,a116:=Tryz.isAgg155,z116:=Tryz.sizeOf155,t117:=Tryz.underlying156,a117:=Tryz.isAgg156,z117:=Tryz.sizeOf156,v117:=Tryz.zeroValue156,t119:=Tryz.underlying220,a119:=Tryz.isAgg220,z119:=Tryz.sizeOf220,t124:=Tryz.underlying159,a124:=Tryz.isAgg159,z124:=Tryz.sizeOf159,v124:=Tryz.zeroValue159,t138:=Tryz.underlying222,a138:=Tryz.isAgg222,z138:=Tryz.sizeOf222,v138:=Tryz.zeroValue222,t139:=Tryz.underlying223,a139:=Tryz.isAgg223,z139:=Tryz.sizeOf223,v139:=Tryz.zeroValue223,g3:=by kernel_rfl,g4:=by kernel_rfl }
def Tryz.XD:Go.Shelf.Ren:=⟨fun|217=>108|266=>136|n=>n,fun|9=>9|5=>5|3=>3|n=>n,fun|n=>n⟩
theorem Tryz.XE:Go.Proofs.Lays.n217 Tryz.prog Tryz.XD:={ mixed:=by kernel_rfl,f217:=Tryz.func108.trans (congrArg some (by kernel_rfl)),f266:=Tryz.func136.trans (congrArg some (by kernel_rfl)),t3:=Tryz.underlying3,a3:=Tryz.isAgg3,z3:=Tryz.sizeOf3,v3:=Tryz.zeroValue3,t5:=Tryz.underlying5,a5:=Tryz.isAgg5,z5:=Tryz.sizeOf5,v5:=Tryz.zeroValue5,t9:=Tryz.underlying9,a9:=Tryz.isAgg9,z9:=Tryz.sizeOf9,v9:=Tryz.zeroValue9 }
def Tryz.XF:Go.Shelf.Ren:=⟨fun|6=>182|15=>35|14=>199|28=>69|29=>70|20=>203|21=>204|22=>205|23=>206|24=>207|25=>208|26=>209|27=>210|46=>211|47=>95|48=>96|49=>212|50=>213|57=>214|n=>n,fun|22=>195|24=>198|25=>218|3=>3|39=>81|0=>0|53=>111|55=>113|4=>4|46=>104|45=>103|50=>93|5=>5|9=>9|66=>143|70=>147|76=>176|77=>172|n=>n,fun|n=>n⟩
theorem Tryz.XG:Go.Proofs.SlLaysF0.n6 Tryz.prog Tryz.XF:={ mixed:=by kernel_rfl,f6:=⟨Tryz.f182.name,by kernel_rfl,Tryz.func182.trans (congrArg some (by kernel_rfl))⟩,f14:=⟨Tryz.f199.name,by kernel_rfl,Tryz.func199.trans (congrArg some (by kernel_rfl))⟩,f15:=Tryz.func35.trans (congrArg some (by kernel_rfl)),f20:=⟨Tryz.f203.name,by kernel_rfl,Tryz.func203.trans (congrArg some (by kernel_rfl))⟩,f21:=⟨Tryz.f204.name,by kernel_rfl,Tryz.func204.trans (congrArg some (by kernel_rfl))⟩,f22:=⟨Tryz.f205.name,by kernel_rfl,Tryz.func205.trans (congrArg some (by kernel_rfl))⟩,f23:=⟨Tryz.f206.name,by kernel_rfl,Tryz.func206.trans (congrArg some (by kernel_rfl))⟩,f24:=⟨Tryz.f207.name,by kernel_rfl,Tryz.func207.trans (congrArg some (by kernel_rfl))⟩,f25:=⟨Tryz.f208.name,by kernel_rfl,Tryz.func208.trans (congrArg some (by kernel_rfl))⟩,f26:=⟨Tryz.f209.name,by kernel_rfl,Tryz.func209.trans (congrArg some (by kernel_rfl))⟩,f27:=⟨Tryz.f210.name,by kernel_rfl,Tryz.func210.trans (congrArg some (by kernel_rfl))⟩,f28:=Tryz.func69.trans (congrArg some (by kernel_rfl)),f29:=Tryz.func70.trans (congrArg some (by kernel_rfl)),f46:=⟨Tryz.f211.name,by kernel_rfl,Tryz.func211.trans (congrArg some (by kernel_rfl))⟩,f47:=Tryz.func95.trans (congrArg some (by kernel_rfl)),f48:=Tryz.func96.trans (congrArg some (by kernel_rfl)),f49:=⟨Tryz.f212.name,by kernel_rfl,Tryz.func212.trans (congrArg some (by kernel_rfl))⟩,f50:=⟨Tryz.f213.name,by kernel_rfl,Tryz.func213.trans (congrArg some (by kernel_rfl))⟩,f57:=⟨Tryz.f214.name,by kernel_rfl,Tryz.func214.trans (congrArg some (by kernel_rfl))⟩,t0:=Tryz.underlying0,a0:=Tryz.isAgg0,z0:=Tryz.sizeOf0,v0:=Tryz.zeroValue0,t3:=Tryz.underlying3,a3:=Tryz.isAgg3,z3:=Tryz.sizeOf3,v3:=Tryz.zeroValue3,t4:=Tryz.underlying4,a4:=Tryz.isAgg4,z4:=Tryz.sizeOf4,v4:=Tryz.zeroValue4,t5:=Tryz.underlying5,a5:=Tryz.isAgg5,z5:=Tryz.sizeOf5,v5:=Tryz.zeroValue5,t9:=Tryz.underlying9,a9:=Tryz.isAgg9,z9:=Tryz.sizeOf9,v9:=Tryz.zeroValue9,t22:=Tryz.underlying195,a22:=Tryz.isAgg195,z22:=Tryz.sizeOf195,v22:=Tryz.zeroValue195,t25:=Tryz.underlying218,a25:=Tryz.isAgg218,z25:=Tryz.sizeOf218,v25:=Tryz.zeroValue218,t39:=Tryz.underlying81,a39:=Tryz.isAgg81,z39:=Tryz.sizeOf81,v39:=Tryz.zeroValue81,t45:=Tryz.underlying103,a45:=Tryz.isAgg103,z45:=Tryz.sizeOf103,v45:=Tryz.zeroValue103,t46:=Tryz.underlying104,a46:=Tryz.isAgg104,z46:=Tryz.sizeOf104,v46:=Tryz.zeroValue104,t50:=Tryz.underlying93,a50:=Tryz.isAgg93,z50:=Tryz.sizeOf93,v50:=Tryz.zeroValue93,t53:=Tryz.underlying111,a53:=Tryz.isAgg111,z53:=Tryz.sizeOf111,v53:=Tryz.zeroValue111,t55:=Tryz.underlying113,a55:=Tryz.isAgg113,z55:=Tryz.sizeOf113,v55:=Tryz.zeroValue113,t66:=Tryz.underlying143,a66:=Tryz.isAgg143,z66:=Tryz.sizeOf143,v66:=Tryz.zeroValue143,t70:=Tryz.underlying147,a70:=Tryz.isAgg147,z70:=Tryz.sizeOf147,v70:=Tryz.zeroValue147,t76:=Tryz.underlying176,a76:=Tryz.isAgg176,z76:=Tryz.sizeOf176,v76:=Tryz.zeroValue176,t77:=Tryz.underlying172,a77:=Tryz.isAgg172,z77:=Tryz.sizeOf172,v77:=Tryz.zeroValue172 }
def Tryz.XH:Go.Shelf.Ren:=⟨fun|6=>16|8=>35|9=>34|19=>69|20=>70|21=>60|22=>61|23=>62|24=>63|25=>64|26=>65|27=>66|28=>67|29=>68|36=>94|31=>95|32=>96|37=>97|38=>98|39=>99|41=>131|n=>n,fun|27=>49|29=>9|3=>3|32=>81|26=>49|0=>0|44=>111|46=>113|4=>4|36=>104|35=>103|41=>93|5=>5|9=>9|53=>143|57=>147|63=>176|64=>172|n=>n,fun|n=>n⟩
theorem Tryz.XI:Go.Proofs.SlLaysM.n6 Tryz.prog Tryz.XH:={ mixed:=by kernel_rfl,f6:=⟨Tryz.f16.name,by kernel_rfl,Tryz.func16.trans (congrArg some (by kernel_rfl))⟩,f8:=Tryz.func35.trans (congrArg some (by kernel_rfl)),f9:=⟨Tryz.f34.name,by kernel_rfl,Tryz.func34.trans (congrArg some (by kernel_rfl))⟩,f19:=Tryz.func69.trans (congrArg some (by kernel_rfl)),f20:=Tryz.func70.trans (congrArg some (by kernel_rfl)),f21:=⟨Tryz.f60.name,by kernel_rfl,Tryz.func60.trans (congrArg some (by kernel_rfl))⟩,f22:=⟨Tryz.f61.name,by kernel_rfl,Tryz.func61.trans (congrArg some (by kernel_rfl))⟩,f23:=⟨Tryz.f62.name,by kernel_rfl,Tryz.func62.trans (congrArg some (by kernel_rfl))⟩,f24:=⟨Tryz.f63.name,by kernel_rfl,Tryz.func63.trans (congrArg some (by kernel_rfl))⟩,f25:=⟨Tryz.f64.name,by kernel_rfl,Tryz.func64.trans (congrArg some (by kernel_rfl))⟩,f26:=⟨Tryz.f65.name,by kernel_rfl,Tryz.func65.trans (congrArg some (by kernel_rfl))⟩,f27:=⟨Tryz.f66.name,by kernel_rfl,Tryz.func66.trans (congrArg some (by kernel_rfl))⟩,f28:=⟨Tryz.f67.name,by kernel_rfl,Tryz.func67.trans (congrArg some (by kernel_rfl))⟩,f29:=⟨Tryz.f68.name,by kernel_rfl,Tryz.func68.trans (congrArg some (by kernel_rfl))⟩,f31:=Tryz.func95.trans (congrArg some (by kernel_rfl)),f32:=Tryz.func96.trans (congrArg some (by kernel_rfl)),f36:=⟨Tryz.f94.name,by kernel_rfl,Tryz.func94.trans (congrArg some (by kernel_rfl))⟩,f37:=⟨Tryz.f97.name,by kernel_rfl,Tryz.func97.trans (congrArg some (by kernel_rfl))⟩,f38:=⟨Tryz.f98.name,by kernel_rfl,Tryz.func98.trans (congrArg some (by kernel_rfl))⟩,f39:=⟨Tryz.f99.name,by kernel_rfl,Tryz.func99.trans (congrArg some (by kernel_rfl))⟩,f41:=⟨Tryz.f131.name,by kernel_rfl,Tryz.func131.trans (congrArg some (by kernel_rfl))⟩,t0:=Tryz.underlying0,a0:=Tryz.isAgg0,z0:=Tryz.sizeOf0,v0:=Tryz.zeroValue0,t3:=Tryz.underlying3,a3:=Tryz.isAgg3,z3:=Tryz.sizeOf3,v3:=Tryz.zeroValue3,t4:=Tryz.underlying4,a4:=Tryz.isAgg4,z4:=Tryz.sizeOf4,v4:=Tryz.zeroValue4,t5:=Tryz.underlying5,a5:=Tryz.isAgg5,z5:=Tryz.sizeOf5,v5:=Tryz.zeroValue5,t9:=Tryz.underlying9,a9:=Tryz.isAgg9,z9:=Tryz.sizeOf9,v9:=Tryz.zeroValue9,t26:=Tryz.underlying49,a26:=Tryz.isAgg49,z26:=Tryz.sizeOf49,v26:=Tryz.zeroValue49,t27:=Tryz.underlying49,a27:=Tryz.isAgg49,z27:=Tryz.sizeOf49,v27:=Tryz.zeroValue49,t29:=Tryz.underlying9,a29:=Tryz.isAgg9,z29:=Tryz.sizeOf9,v29:=Tryz.zeroValue9,t32:=Tryz.underlying81,a32:=Tryz.isAgg81,z32:=Tryz.sizeOf81,v32:=Tryz.zeroValue81,t35:=Tryz.underlying103,a35:=Tryz.isAgg103,z35:=Tryz.sizeOf103,v35:=Tryz.zeroValue103,t36:=Tryz.underlying104,a36:=Tryz.isAgg104,z36:=Tryz.sizeOf104,v36:=Tryz.zeroValue104,t41:=Tryz.underlying93,a41:=Tryz.isAgg93,z41:=Tryz.sizeOf93,v41:=Tryz.zeroValue93,t44:=Tryz.underlying111,a44:=Tryz.isAgg111,z44:=Tryz.sizeOf111,v44:=Tryz.zeroValue111,t46:=Tryz.underlying113,a46:=Tryz.isAgg113,z46:=Tryz.sizeOf113,v46:=Tryz.zeroValue113,t53:=Tryz.underlying143,a53:=Tryz.isAgg143,z53:=Tryz.sizeOf143,v53:=Tryz.zeroValue143,t57:=Tryz.underlying147,a57:=Tryz.isAgg147,z57:=Tryz.sizeOf147,v57:=Tryz.zeroValue147,t63:=Tryz.underlying176,a63:=Tryz.isAgg176,z63:=Tryz.sizeOf176,v63:=Tryz.zeroValue176,t64:=Tryz.underlying172,a64:=Tryz.isAgg172,z64:=Tryz.sizeOf172,v64:=Tryz.zeroValue172 }
end Go.Proofs
namespace Go.Proofs.gY
open Go Go.AL Go.Proofs
noncomputable section
abbrev P:Program:=Tryz.prog
attribute [instance] tF
theorem hm:P.follows .mixedOrders=true:=Tryz.checked.mixed
def cX(a b:ByteArray):Int:=Lib.compareBytes a.data.toList b.data.toList
def L1(s:ByteArray)(c:Int):Int:=Lib.indexByte s.data.toList c.toNat.toUInt8
def trimB(s cut:ByteArray):ByteArray:=⟨(Lib.trimS s.data.toList cut.data.toList).toArray⟩
def L2(cut:ByteArray):Bool:=cut.data.toList.all fun b=>er b.toNat 128
def ow(a b:ByteArray):Bool:=a.data.toList==b.data.toList
theorem L3{a b:ByteArray}(h:ow a b=true):a=b:=by
 unfold ow at h;rw[beq_iff_eq]at h;cases a with
 | mk a =>
  cases b with
  | mk b =>
   congr 1;exact Array.ext' h
def vo{α:Type}:List (ByteArray × α)→ByteArray→Option α
 | [],_=>none
 |(k,v)::l,s=>bif ow k s then some v else vo l s
theorem DH{α:Type}{s:ByteArray}{v:α}:∀{l:List (ByteArray × α)},vo l s=some v→(s,v)∈l
 | [],h=>by cases h
 | (k,u)::l,h=>by
  simp only[vo]at h;cases hk:ow k s with
  | true =>
   rw[hk]at h;cases h;rw[L3 hk];exact List.mem_cons_self
  | false =>
   rw[hk]at h;exact List.mem_cons_of_mem _ (DH h)
abbrev iG:List Kd:=[.int .i64,.int .i64,.str,.int .i64]
abbrev ai:List Kd:=[.int .i64,.int .i64,.str,.str,.int .i64,.int .i64,.str,.str]
abbrev vp:List Kd:=[.str,.str,.int .i64,.str]
abbrev qa:List Kd:=[.str,.int .i64,.int .i64,.int .i64,.int .i64,.int .i64,.str,.str,.int .i64,.int .i64,.str,.str,.str,.str,.int .i64]
abbrev cq:List Kd:=[.int .i64,.int .i64,.str]
abbrev L4:List Kd:=[.str,.str,.str,.int .i64,.str]
def t0:ak:=J7 []
theorem XJ:aq P t0:=VA P _
def iH(d:List G):Option (List G):=some [.i (cX (gi d 0).str (gi d 1).str)]
def vq:aG:=⟨55,[.s (.str),.s (.str)],[],[],[.s (.int .i64)],[],[],[],iH⟩
theorem XK:∀ d r,iH d=some r→dB P 55 (vq.args0 d) (aj (vq.H0 d)) (vq.out r) (aj (vq.H1 r)):=fun d r h=>by
 cases h;exact(x_ (vs:=[.string (gi d 0).str,.string (gi d 1).str]) fun w=>(Proofs.Any.strings_Compare Tryz.Xz (gi d 0).str (gi d 1).str w).mono fun e w' h=>⟨h.1,h.2▸Ext.refl w⟩) []
def t1:ak:=t0.bC vq
theorem XL:aq P t1:=XJ.aP XK
def zh(d:List G):Option (List G):=some [.i (L1 (gi d 0).str (gi d 1).int)]
def vr:aG:=⟨77,[.s (.str),.s (.int .u8)],[],[],[.s (.int .i64)],[],[],[],zh⟩
theorem XM:∀ d r,zh d=some r→dB P 77 (vr.args0 d) (aj (vr.H0 d)) (vr.out r) (aj (vr.H1 r)):=fun d r h=>by
 cases h;exact(x_ (vs:=[.string (gi d 0).str,.int .u8 (gi d 1).int]) fun w=>(Proofs.Any.strings_IndexByte Tryz.XB (gi d 0).str (gi d 1).int w).mono fun e w' h=>⟨h.1,h.2▸Ext.refl w⟩) []
def t2:ak:=t1.bC vr
theorem XN:aq P t2:=XL.aP XM
def zi(d:List G):Option (List G):=bif (L2 (gi d 1).str&&(ep 2 (gi d 1).str.size&&(er (gi d 1).str.size 4294967281&&(ep 1 (gi d 0).str.size&&ep (gi d 0).str.size 9223372036854775807)))) then some [.s (trimB (gi d 0).str (gi d 1).str)] else none
def vt:aG:=⟨78,[.s (.str),.s (.str)],[],[],[.s (.str)],[],[],[],zi⟩
theorem XO:∀ d r,zi d=some r→dB P 78 (vt.args0 d) (aj (vt.H0 d)) (vt.out r) (aj (vt.H1 r)):=fun d r h=>by
 unfold zi at h;cases hb:(L2 (gi d 1).str&&(ep 2 (gi d 1).str.size&&(er (gi d 1).str.size 4294967281&&(ep 1 (gi d 0).str.size&&ep (gi d 0).str.size 9223372036854775807))))with
 |false=>rw[hb]at h; cases h
 | true =>
  rw[hb]at h;cases h;simp only[Bool.and_eq_true,jb,Nat.ble_eq]at hb;have k:(Tryz.prog.info? (Tryz.L0.t 116)).map (fun i=>(i.zero,i.size))=some (some (.agg (Array.replicate 256 (.bool false))),256):=by kernel_rfl
  exact(x_ (vs:=[.string (gi d 0).str,.string (gi d 1).str]) fun w=>(Proofs.Any.strings_Trim_set Tryz.XC (zero_of_info k).1 (zero_of_info k).2 (gi d 0).str (gi d 1).str w hb.2.1 hb.2.2.2.1 hb.2.2.2.2 hb.2.2.1 fun j b u=>by
   have:=List.all_eq_true.1 hb.1 b (List.mem_of_getElem? u);simpa[jb]using this).mono fun _ _ h=>⟨h.1,by
    obtain⟨_,q,rfl⟩:=h;exact((Ext.push w _).trans (Ext.push _ _)).trans (Ext.drawn _ _ (Nat.le_add_right _ _))⟩) []
def t3:ak:=t2.bC vt
theorem XP:aq P t3:=XN.aP XO
def L5(d:List G):Option (List G):=some [.i (L1 (gi d 0).str (gi d 1).int)]
def vu:aG:=⟨108,[.s (.str),.s (.int .u8)],[],[],[.s (.int .i64)],[],[],[],L5⟩
theorem XQ:∀ d r,L5 d=some r→dB P 108 (vu.args0 d) (aj (vu.H0 d)) (vu.out r) (aj (vu.H1 r)):=fun d r h=>by
 cases h;exact(x_ (vs:=[.string (gi d 0).str,.int .u8 (gi d 1).int]) fun w=>(Proofs.Any.stringslite_IndexByte Tryz.XE (gi d 0).str (gi d 1).int w).mono fun e w' h=>⟨h.1,h.2▸Ext.refl w⟩) []
def t4:ak:=t3.bC vu
theorem L6:aq P t4:=XP.aP XQ
end
end Go.Proofs.gY
