/-
 What is proved here: functions of the program as functions on data. No condition.
-/
import Derived.Test.YtnijefkndkgebaaGreatDoorMH
import Derived.Test.YtnijefkndkgebaaGreatDoorChecked
import Derived.Shelf.Small.Strs
import Derived.Shelf.Strconv.Itoa3
import Derived.Shelf.Strings.Search1
import Derived.Shelf.Strings.SlTrimAscii
open Bool renaming and_eq_true→aB
open Nat renaming ble→dH,blt→fj,blt_eq→j8
namespace Go.AL
section
variable [Dr]
theorem ak.aP{P:Program}{τ:aj}(h:ak P τ){sp:aD}(d:aU P sp)(hb:eS P sp.f=true:=by kernel_rfl)(g:Cl sp=true:=by kernel_rfl):ak P (τ.bf sp):=h.bf hb g d
theorem ak.aW{P:Program}{τ:aj}(h:ak P τ){sp:aD}(d:aU P sp)(hb:eS P sp.f=true:=by kernel_rfl)(g:xL sp=true:=by kernel_rfl):ak P (τ.c8 sp):=h.c8 hb g d
theorem ax.a{P:Program}{τ:aj}{m:Nat}{L:LT}(hm:P.follows .mixedOrders=true)(d:ak P τ){fn:Func}{sp:bp}(g:ax P m L (aR fn))(h:cr P τ L m (cw fn sp.key) sp) (k:nodupB ((bK (aR fn)).map (·.1))=true:=by kernel_rfl):ax P m (L.add m sp) (aR fn):=ax.add hm d k g h
theorem ax.aC{P:Program}{τ:aj}{m:Nat}{L:LT}(hm:P.follows .mixedOrders=true)(d:ak P τ){fn:Func}{sp:bp}(g:ax P m L (aR fn))(h:fm P τ L m (cutAt fn sp.key) sp) (k:kC sp.key (bG (aR fn))=true:=by kernel_rfl):ax P m (L.dY m sp) (aR fn):=ax.dY hm d k g h
theorem aY{P:Program}{τ:aj}{L:LT}(hm:P.follows .mixedOrders=true)(g:ak P τ){sp:aD}{fn:Func}(h:P.funcs[sp.f]? = some fn)(k:ax P sp.cG.length L (aR fn))(q:aX P τ L fn sp)(hb:fn.body.isSome=true:=by kernel_rfl)(d:oX sp.cG=true:=by kernel_rfl):aU P sp:=nA hm g h hb k q d
end
end Go.AL
set_option linter.all false
namespace Go.Proofs
open Go.Shelf Go.RowKit
set_option maxHeartbeats 4000000
def Tryz.W1:Go.Shelf.Ren:=⟨fun|106=>56|213=>97|265=>135|n=>n,fun|9=>9|3=>3|n=>n,fun|n=>n⟩
theorem Tryz.W2:Go.Proofs.Lays.n106 Tryz.prog Tryz.W1:={ mixed:=by kernel_rfl,f106:=Tryz.func56.trans (congrArg some (by kernel_rfl)),f213:=Tryz.func97.trans (congrArg some (by kernel_rfl)),f265:=Tryz.func135.trans (congrArg some (by kernel_rfl)),t3:=Tryz.underlying3,a3:=Tryz.isAgg3,z3:=Tryz.sizeOf3,v3:=Tryz.zeroValue3,t9:=Tryz.underlying9,a9:=Tryz.isAgg9,z9:=Tryz.sizeOf9,v9:=Tryz.zeroValue9 }
def Tryz.W3:Go.Shelf.Ren:=⟨fun|137=>109|217=>144|266=>187|n=>n,fun|9=>9|5=>5|3=>3|n=>n,fun|n=>n⟩
theorem Tryz.W4:Go.Proofs.Lays.n137 Tryz.prog Tryz.W3:={ mixed:=by kernel_rfl,f137:=Tryz.func109.trans (congrArg some (by kernel_rfl)),f217:=Tryz.func144.trans (congrArg some (by kernel_rfl)),f266:=Tryz.func187.trans (congrArg some (by kernel_rfl)),t3:=Tryz.underlying3,a3:=Tryz.isAgg3,z3:=Tryz.sizeOf3,v3:=Tryz.zeroValue3,t5:=Tryz.underlying5,a5:=Tryz.isAgg5,z5:=Tryz.sizeOf5,v5:=Tryz.zeroValue5,t9:=Tryz.underlying9,a9:=Tryz.isAgg9,z9:=Tryz.sizeOf9,v9:=Tryz.zeroValue9 }
def Tryz.Li:Go.Shelf.Ren:=⟨fun|160=>110|232=>146|231=>145|227=>147|234=>149|233=>148|236=>151|235=>150|228=>181|271=>182|151=>189|197=>188|120=>217|152=>179|260=>221|137=>109|119=>216|224=>214|225=>213|217=>144|266=>187|n=>n,fun|9=>9|4=>4|3=>3|5=>5|117=>196|116=>195|0=>0|124=>199|21=>21|105=>233|46=>186|119=>274|139=>277|138=>276|n=>n,fun|3=>2|4=>3|n=>n⟩
theorem Tryz.W5:Go.Proofs.Lays.n160 Tryz.prog Tryz.Li:={ mixed:=by kernel_rfl,f119:=Tryz.func216.trans (congrArg some (by kernel_rfl)),f120:=Tryz.func217.trans (congrArg some (by kernel_rfl)),f137:=Tryz.func109.trans (congrArg some (by kernel_rfl)),f151:=Tryz.func189.trans (congrArg some (by kernel_rfl)),f152:=Tryz.func179.trans (congrArg some (by kernel_rfl)),f160:=Tryz.func110.trans (congrArg some (by kernel_rfl)),f197:=Tryz.func188.trans (congrArg some (by kernel_rfl)),f217:=Tryz.func144.trans (congrArg some (by kernel_rfl)),f224:=Tryz.func214.trans (congrArg some (by kernel_rfl)),f225:=Tryz.func213.trans (congrArg some (by kernel_rfl)),f227:=Tryz.func147.trans (congrArg some (by kernel_rfl)),f228:=Tryz.func181.trans (congrArg some (by kernel_rfl)),f231:=Tryz.func145.trans (congrArg some (by kernel_rfl)),f232:=Tryz.func146.trans (congrArg some (by kernel_rfl)),f233:=Tryz.func148.trans (congrArg some (by kernel_rfl)),f234:=Tryz.func149.trans (congrArg some (by kernel_rfl)),f235:=Tryz.func150.trans (congrArg some (by kernel_rfl)),f236:=Tryz.func151.trans (congrArg some (by kernel_rfl)),f260:=Tryz.func221.trans (congrArg some (by kernel_rfl)),f266:=Tryz.func187.trans (congrArg some (by kernel_rfl)),f271:=Tryz.func182.trans (congrArg some (by kernel_rfl)),t0:=Tryz.underlying0,a0:=Tryz.isAgg0,z0:=Tryz.sizeOf0,v0:=Tryz.zeroValue0,t3:=Tryz.underlying3,a3:=Tryz.isAgg3,z3:=Tryz.sizeOf3,v3:=Tryz.zeroValue3,t4:=Tryz.underlying4,a4:=Tryz.isAgg4,z4:=Tryz.sizeOf4,v4:=Tryz.zeroValue4,t5:=Tryz.underlying5,a5:=Tryz.isAgg5,z5:=Tryz.sizeOf5,v5:=Tryz.zeroValue5,t9:=Tryz.underlying9,a9:=Tryz.isAgg9,z9:=Tryz.sizeOf9,v9:=Tryz.zeroValue9,t21:=Tryz.underlying21,a21:=Tryz.isAgg21,z21:=Tryz.sizeOf21,v21:=Tryz.zeroValue21,t46:=Tryz.underlying186,a46:=Tryz.isAgg186,z46:=Tryz.sizeOf186,v46:=Tryz.zeroValue186,t105:=Tryz.underlying233,a105:=Tryz.isAgg233,z105:=Tryz.sizeOf233,v105:=Tryz.zeroValue233,t116:=Tryz.underlying195,a116:=Tryz.isAgg195,z116:=Tryz.sizeOf195,t117:=Tryz.underlying196,a117:=Tryz.isAgg196,z117:=Tryz.sizeOf196,v117:=Tryz.zeroValue196,t119:=Tryz.underlying274,a119:=Tryz.isAgg274,z119:=Tryz.sizeOf274,t124:=Tryz.underlying199,a124:=Tryz.isAgg199,z124:=Tryz.sizeOf199,v124:=Tryz.zeroValue199,t138:=Tryz.underlying276,a138:=Tryz.isAgg276,z138:=Tryz.sizeOf276,v138:=Tryz.zeroValue276,t139:=Tryz.underlying277,a139:=Tryz.isAgg277,z139:=Tryz.sizeOf277,v139:=Tryz.zeroValue277,g3:=by kernel_rfl,g4:=by kernel_rfl }
def Tryz.W6:Go.Shelf.Ren:=⟨fun|217=>144|266=>187|n=>n,fun|9=>9|5=>5|3=>3|n=>n,fun|n=>n⟩
theorem Tryz.W7:Go.Proofs.Lays.n217 Tryz.prog Tryz.W6:={ mixed:=by kernel_rfl,f217:=Tryz.func144.trans (congrArg some (by kernel_rfl)),f266:=Tryz.func187.trans (congrArg some (by kernel_rfl)),t3:=Tryz.underlying3,a3:=Tryz.isAgg3,z3:=Tryz.sizeOf3,v3:=Tryz.zeroValue3,t5:=Tryz.underlying5,a5:=Tryz.isAgg5,z5:=Tryz.sizeOf5,v5:=Tryz.zeroValue5,t9:=Tryz.underlying9,a9:=Tryz.isAgg9,z9:=Tryz.sizeOf9,v9:=Tryz.zeroValue9 }
def Tryz.W8:Go.Shelf.Ren:=⟨fun|171=>51|243=>94|246=>133|283=>173|284=>174|285=>175|286=>176|129=>172|317=>209|318=>210|319=>211|320=>212|337=>236|338=>237|n=>n,fun|3=>3|9=>9|2=>2|4=>4|171=>226|0=>0|53=>225|37=>228|5=>5|173=>229|212=>258|51=>223|20=>20|213=>259|46=>186|232=>281|233=>282|n=>n,fun|17=>1|18=>4|19=>5|n=>n⟩
theorem Tryz.W9:Go.Proofs.Lays.n171 Tryz.prog Tryz.W8:={ mixed:=by kernel_rfl,f129:=Tryz.func172.trans (congrArg some (by kernel_rfl)),f171:=Tryz.func51.trans (congrArg some (by kernel_rfl)),f243:=Tryz.func94.trans (congrArg some (by kernel_rfl)),f246:=Tryz.func133.trans (congrArg some (by kernel_rfl)),f283:=Tryz.func173.trans (congrArg some (by kernel_rfl)),f284:=Tryz.func174.trans (congrArg some (by kernel_rfl)),f285:=Tryz.func175.trans (congrArg some (by kernel_rfl)),f286:=Tryz.func176.trans (congrArg some (by kernel_rfl)),f317:=Tryz.func209.trans (congrArg some (by kernel_rfl)),f318:=Tryz.func210.trans (congrArg some (by kernel_rfl)),f319:=Tryz.func211.trans (congrArg some (by kernel_rfl)),f320:=Tryz.func212.trans (congrArg some (by kernel_rfl)),f337:=Tryz.func236.trans (congrArg some (by kernel_rfl)),f338:=Tryz.func237.trans (congrArg some (by kernel_rfl)),t0:=Tryz.underlying0,a0:=Tryz.isAgg0,z0:=Tryz.sizeOf0,v0:=Tryz.zeroValue0,t2:=Tryz.underlying2,a2:=Tryz.isAgg2,z2:=Tryz.sizeOf2,v2:=Tryz.zeroValue2,t3:=Tryz.underlying3,a3:=Tryz.isAgg3,z3:=Tryz.sizeOf3,v3:=Tryz.zeroValue3,t4:=Tryz.underlying4,a4:=Tryz.isAgg4,z4:=Tryz.sizeOf4,v4:=Tryz.zeroValue4,t5:=Tryz.underlying5,a5:=Tryz.isAgg5,z5:=Tryz.sizeOf5,v5:=Tryz.zeroValue5,t9:=Tryz.underlying9,a9:=Tryz.isAgg9,z9:=Tryz.sizeOf9,v9:=Tryz.zeroValue9,t20:=Tryz.underlying20,a20:=Tryz.isAgg20,z20:=Tryz.sizeOf20,v20:=Tryz.zeroValue20,t37:=Tryz.underlying228,a37:=Tryz.isAgg228,z37:=Tryz.sizeOf228,v37:=Tryz.zeroValue228,t46:=Tryz.underlying186,a46:=Tryz.isAgg186,z46:=Tryz.sizeOf186,v46:=Tryz.zeroValue186,t51:=Tryz.underlying223,a51:=Tryz.isAgg223,z51:=Tryz.sizeOf223,v51:=Tryz.zeroValue223,t53:=Tryz.underlying225,a53:=Tryz.isAgg225,z53:=Tryz.sizeOf225,v53:=Tryz.zeroValue225,t171:=Tryz.underlying226,a171:=Tryz.isAgg226,z171:=Tryz.sizeOf226,v171:=Tryz.zeroValue226,t173:=Tryz.underlying229,a173:=Tryz.isAgg229,z173:=Tryz.sizeOf229,v173:=Tryz.zeroValue229,t212:=Tryz.underlying258,a212:=Tryz.isAgg258,z212:=Tryz.sizeOf258,v212:=Tryz.zeroValue258,t213:=Tryz.underlying259,a213:=Tryz.isAgg259,z213:=Tryz.sizeOf259,t232:=Tryz.underlying281,a232:=Tryz.isAgg281,z232:=Tryz.sizeOf281,v232:=Tryz.zeroValue281,t233:=Tryz.underlying282,a233:=Tryz.isAgg282,z233:=Tryz.sizeOf282,v233:=Tryz.zeroValue282,g17:=by kernel_rfl,g18:=by kernel_rfl,g19:=by kernel_rfl }
def Tryz.W_:Go.Shelf.Ren:=⟨fun|6=>89|15=>131|14=>130|28=>171|29=>172|20=>163|21=>164|22=>165|23=>166|24=>167|25=>168|26=>169|27=>170|46=>204|47=>205|48=>206|49=>207|50=>208|57=>235|n=>n,fun|22=>52|24=>57|25=>150|3=>3|39=>186|0=>0|53=>223|55=>225|4=>4|46=>217|45=>216|50=>100|5=>5|9=>9|66=>251|70=>255|76=>270|77=>213|n=>n,fun|n=>n⟩
theorem Tryz.Xa:Go.Proofs.SlLaysF0.n6 Tryz.prog Tryz.W_:={ mixed:=by kernel_rfl,f6:=⟨Tryz.f89.name,by kernel_rfl,Tryz.func89.trans (congrArg some (by kernel_rfl))⟩,f14:=⟨Tryz.f130.name,by kernel_rfl,Tryz.func130.trans (congrArg some (by kernel_rfl))⟩,f15:=Tryz.func131.trans (congrArg some (by kernel_rfl)),f20:=⟨Tryz.f163.name,by kernel_rfl,Tryz.func163.trans (congrArg some (by kernel_rfl))⟩,f21:=⟨Tryz.f164.name,by kernel_rfl,Tryz.func164.trans (congrArg some (by kernel_rfl))⟩,f22:=⟨Tryz.f165.name,by kernel_rfl,Tryz.func165.trans (congrArg some (by kernel_rfl))⟩,f23:=⟨Tryz.f166.name,by kernel_rfl,Tryz.func166.trans (congrArg some (by kernel_rfl))⟩,f24:=⟨Tryz.f167.name,by kernel_rfl,Tryz.func167.trans (congrArg some (by kernel_rfl))⟩,f25:=⟨Tryz.f168.name,by kernel_rfl,Tryz.func168.trans (congrArg some (by kernel_rfl))⟩,f26:=⟨Tryz.f169.name,by kernel_rfl,Tryz.func169.trans (congrArg some (by kernel_rfl))⟩,f27:=⟨Tryz.f170.name,by kernel_rfl,Tryz.func170.trans (congrArg some (by kernel_rfl))⟩,f28:=Tryz.func171.trans (congrArg some (by kernel_rfl)),f29:=Tryz.func172.trans (congrArg some (by kernel_rfl)),f46:=⟨Tryz.f204.name,by kernel_rfl,Tryz.func204.trans (congrArg some (by kernel_rfl))⟩,f47:=Tryz.func205.trans (congrArg some (by kernel_rfl)),f48:=Tryz.func206.trans (congrArg some (by kernel_rfl)),f49:=⟨Tryz.f207.name,by kernel_rfl,Tryz.func207.trans (congrArg some (by kernel_rfl))⟩,f50:=⟨Tryz.f208.name,by kernel_rfl,Tryz.func208.trans (congrArg some (by kernel_rfl))⟩,f57:=⟨Tryz.f235.name,by kernel_rfl,Tryz.func235.trans (congrArg some (by kernel_rfl))⟩,t0:=Tryz.underlying0,a0:=Tryz.isAgg0,z0:=Tryz.sizeOf0,v0:=Tryz.zeroValue0,t3:=Tryz.underlying3,a3:=Tryz.isAgg3,z3:=Tryz.sizeOf3,v3:=Tryz.zeroValue3,t4:=Tryz.underlying4,a4:=Tryz.isAgg4,z4:=Tryz.sizeOf4,v4:=Tryz.zeroValue4,t5:=Tryz.underlying5,a5:=Tryz.isAgg5,z5:=Tryz.sizeOf5,v5:=Tryz.zeroValue5,t9:=Tryz.underlying9,a9:=Tryz.isAgg9,z9:=Tryz.sizeOf9,v9:=Tryz.zeroValue9,t22:=Tryz.underlying52,a22:=Tryz.isAgg52,z22:=Tryz.sizeOf52,v22:=Tryz.zeroValue52,t25:=Tryz.underlying150,a25:=Tryz.isAgg150,z25:=Tryz.sizeOf150,v25:=Tryz.zeroValue150,t39:=Tryz.underlying186,a39:=Tryz.isAgg186,z39:=Tryz.sizeOf186,v39:=Tryz.zeroValue186,t45:=Tryz.underlying216,a45:=Tryz.isAgg216,z45:=Tryz.sizeOf216,v45:=Tryz.zeroValue216,t46:=Tryz.underlying217,a46:=Tryz.isAgg217,z46:=Tryz.sizeOf217,v46:=Tryz.zeroValue217,t50:=Tryz.underlying100,a50:=Tryz.isAgg100,z50:=Tryz.sizeOf100,v50:=Tryz.zeroValue100,t53:=Tryz.underlying223,a53:=Tryz.isAgg223,z53:=Tryz.sizeOf223,v53:=Tryz.zeroValue223,t55:=Tryz.underlying225,a55:=Tryz.isAgg225,z55:=Tryz.sizeOf225,v55:=Tryz.zeroValue225,t66:=Tryz.underlying251,a66:=Tryz.isAgg251,z66:=Tryz.sizeOf251,v66:=Tryz.zeroValue251,t70:=Tryz.underlying255,a70:=Tryz.isAgg255,z70:=Tryz.sizeOf255,v70:=Tryz.zeroValue255,t76:=Tryz.underlying270,a76:=Tryz.isAgg270,z76:=Tryz.sizeOf270,v76:=Tryz.zeroValue270,t77:=Tryz.underlying213,a77:=Tryz.isAgg213,z77:=Tryz.sizeOf213,v77:=Tryz.zeroValue213 }
end Go.Proofs
namespace Go.Proofs.iz
open Go Go.AL Go.Proofs
noncomputable section
abbrev P:Program:=Tryz.prog
attribute [instance] sM
theorem hm:P.follows .mixedOrders=true:=Tryz.checked.mixed
def dQ(a b:ByteArray):Int:=Lib.compareBytes a.data.toList b.data.toList
def Lj(s:ByteArray)(c:Int):Int:=Lib.indexByte s.data.toList c.toNat.toUInt8
def trimB(s cut:ByteArray):ByteArray:=⟨(Lib.trimS s.data.toList cut.data.toList).toArray⟩
def Lk(n:Int):ByteArray:=⟨(Lib.decDigits n.toNat).toArray⟩
def Ll(cut:ByteArray):Bool:=cut.data.toList.all fun b=>fj b.toNat 128
def nI(a b:ByteArray):Bool:=a.data.toList==b.data.toList
theorem Lm{a b:ByteArray}(h:nI a b=true):a=b:=by
 unfold nI at h;rw[beq_iff_eq]at h;cases a with
 | mk a =>
  cases b with
  | mk b =>
   congr 1;exact Array.ext' h
def uG{α:Type}:List (ByteArray × α)→ByteArray→Option α
 | [],_=>none
 |(k,v)::l,s=>bif nI k s then some v else uG l s
theorem CP{α:Type}{s:ByteArray}{v:α}:∀{l:List (ByteArray × α)},uG l s=some v→(s,v)∈l
 | [],h=>by cases h
 | (k,u)::l,h=>by
  simp only[uG]at h;cases hk:nI k s with
  | true =>
   rw[hk]at h;cases h;rw[Lm hk];exact List.mem_cons_self
  | false =>
   rw[hk]at h;exact List.mem_cons_of_mem _ (CP h)
abbrev fP:List Kd:=[.int .i64,.int .i64,.str,.int .i64]
abbrev ah:List Kd:=[.int .i64,.int .i64,.str,.str,.int .i64,.int .i64,.str,.str]
abbrev ahc:List Kd:=[.str,.int .i64,.int .i64,.list [.int .i64],.int .i64,.int .i64]
abbrev uH:List Kd:=[.str,.str,.int .i64,.str]
abbrev pk:List Kd:=[.str,.int .i64,.int .i64,.int .i64,.int .i64,.int .i64,.str,.str,.int .i64,.int .i64,.str,.str,.str,.str,.int .i64]
abbrev Ln:List Kd:=[.str,.str,.str,.int .i64,.str]
abbrev ct:List Kd:=[.int .i64,.int .i64,.str]
def t0:aj:=Jx []
theorem Xb:ak P t0:=U2 P _
def hG(d:List G):Option (List G):=some [.i (dQ (gi d 0).str (gi d 1).str)]
def uI:aD:=⟨56,[.s (.str),.s (.str)],[],[],[.s (.int .i64)],[],[],[],hG⟩
theorem Xc:∀ d r,hG d=some r→dv P 56 (uI.args0 d) (ao (uI.H0 d)) (uI.out r) (ao (uI.H1 r)):=fun d r h=>by
 cases h;exact(tX (vs:=[.string (gi d 0).str,.string (gi d 1).str]) fun w=>(Proofs.Any.strings_Compare Tryz.W2 (gi d 0).str (gi d 1).str w).mono fun e w' h=>⟨h.1,h.2▸Ext.refl w⟩) []
def t1:aj:=t0.bf uI
theorem Xd:ak P t1:=Xb.aP Xc
def yA(d:List G):Option (List G):=some [.i (Lj (gi d 0).str (gi d 1).int)]
def uJ:aD:=⟨109,[.s (.str),.s (.int .u8)],[],[],[.s (.int .i64)],[],[],[],yA⟩
theorem Xe:∀ d r,yA d=some r→dv P 109 (uJ.args0 d) (ao (uJ.H0 d)) (uJ.out r) (ao (uJ.H1 r)):=fun d r h=>by
 cases h;exact(tX (vs:=[.string (gi d 0).str,.int .u8 (gi d 1).int]) fun w=>(Proofs.Any.strings_IndexByte Tryz.W4 (gi d 0).str (gi d 1).int w).mono fun e w' h=>⟨h.1,h.2▸Ext.refl w⟩) []
def t2:aj:=t1.bf uJ
theorem Xf:ak P t2:=Xd.aP Xe
def nJ(d:List G):Option (List G):=bif (az (gi d 0).int&&al (gi d 0).int 100) then some [.s (Lk (gi d 0).int)] else none
def uK:aD:=⟨51,[.s (.int .i64)],[],[],[.s (.str)],[],[],[],nJ⟩
theorem Xg:∀ d r,nJ d=some r→dv P 51 (uK.args0 d) (ao (uK.H0 d)) (uK.out r) (ao (uK.H1 r)):=fun d r h=>by
 unfold nJ at h;cases hb:(az (gi d 0).int&&al (gi d 0).int 100)with
 |false=>rw[hb]at h; cases h
 | true =>
  rw[hb]at h;cases h;simp only[aB,jH,dV,decide_eq_true_eq]at hb;have e:(gi d 0).int=((gi d 0).int.toNat:Int):=by omega
  have key:cH P 51 [.lit (.int .i64 (gi d 0).int)] (.lit (.string (Lk (gi d 0).int))):=by
   rw[e];exact tX (vs:=[.int .i64 ((gi d 0).int.toNat:Int)]) fun w=>(Proofs.Any.strconv_Itoa_small Tryz.W9 (gi d 0).int.toNat (by omega) w).mono fun e w' h=>⟨h.1,h.2▸Ext.refl w⟩
  exact key []
def t3:aj:=t2.bf uK
theorem Xh:ak P t3:=Xf.aP Xg
def yB(d:List G):Option (List G):=bif (Ll (gi d 1).str&&(dH 2 (gi d 1).str.size&&(fj (gi d 1).str.size 4294967281&&(dH 1 (gi d 0).str.size&&dH (gi d 0).str.size 9223372036854775807)))) then some [.s (trimB (gi d 0).str (gi d 1).str)] else none
def uL:aD:=⟨110,[.s (.str),.s (.str)],[],[],[.s (.str)],[],[],[],yB⟩
theorem Xi:∀ d r,yB d=some r→dv P 110 (uL.args0 d) (ao (uL.H0 d)) (uL.out r) (ao (uL.H1 r)):=fun d r h=>by
 unfold yB at h;cases hb:(Ll (gi d 1).str&&(dH 2 (gi d 1).str.size&&(fj (gi d 1).str.size 4294967281&&(dH 1 (gi d 0).str.size&&dH (gi d 0).str.size 9223372036854775807))))with
 |false=>rw[hb]at h; cases h
 | true =>
  rw[hb]at h;cases h;simp only[aB,j8,Nat.ble_eq]at hb;have g:(Tryz.prog.info? (Tryz.Li.t 116)).map (fun i=>(i.zero,i.size))=some (some (.agg (Array.replicate 256 (.bool false))),256):=by kernel_rfl
  exact(tX (vs:=[.string (gi d 0).str,.string (gi d 1).str]) fun w=>(Proofs.Any.strings_Trim_set Tryz.W5 (zero_of_info g).1 (zero_of_info g).2 (gi d 0).str (gi d 1).str w hb.2.1 hb.2.2.2.1 hb.2.2.2.2 hb.2.2.1 fun j b k=>by
   have:=List.all_eq_true.1 hb.1 b (List.mem_of_getElem? k);simpa[j8]using this).mono fun _ _ h=>⟨h.1,by
    obtain⟨_,q,rfl⟩:=h;exact((Ext.push w _).trans (Ext.push _ _)).trans (Ext.drawn _ _ (Nat.le_add_right _ _))⟩) []
def t4:aj:=t3.bf uL
theorem Xj:ak P t4:=Xh.aP Xi
def Lo(d:List G):Option (List G):=some [.i (Lj (gi d 0).str (gi d 1).int)]
def uM:aD:=⟨144,[.s (.str),.s (.int .u8)],[],[],[.s (.int .i64)],[],[],[],Lo⟩
theorem Xk:∀ d r,Lo d=some r→dv P 144 (uM.args0 d) (ao (uM.H0 d)) (uM.out r) (ao (uM.H1 r)):=fun d r h=>by
 cases h;exact(tX (vs:=[.string (gi d 0).str,.int .u8 (gi d 1).int]) fun w=>(Proofs.Any.stringslite_IndexByte Tryz.W7 (gi d 0).str (gi d 1).int w).mono fun e w' h=>⟨h.1,h.2▸Ext.refl w⟩) []
def t5:aj:=t4.bf uM
theorem Lp:ak P t5:=Xj.aP Xk
end
end Go.Proofs.iz
