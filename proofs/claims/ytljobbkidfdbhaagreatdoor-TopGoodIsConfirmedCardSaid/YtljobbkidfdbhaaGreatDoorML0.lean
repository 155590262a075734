/-
 What is proved here: functions of the program as functions on data. No condition.
-/
import Derived.Test.YtljobbkidfdbhaaGreatDoorMH
import Derived.Test.YtljobbkidfdbhaaGreatDoorChecked
import Derived.Shelf.Small.Strs
import Derived.Shelf.Strconv.Itoa3
import Derived.Shelf.Strings.Search1
import Derived.Shelf.Strings.SlTrimAscii
open Bool renaming and_eq_true→ax
open Nat renaming ble→c_,blt→fe,blt_eq→kC
namespace Go.AL
section
variable [Dr]
theorem au.aP{P:Program}{τ:ar}(h:au P τ){sp:aJ}(d:aY P sp)(hb:eX P sp.f=true:=by kernel_rfl)(g:C2 sp=true:=by kernel_rfl):au P (τ.bD sp):=h.bD hb g d
theorem au.aW{P:Program}{τ:ar}(h:au P τ){sp:aJ}(d:aY P sp)(hb:eX P sp.f=true:=by kernel_rfl)(g:yy sp=true:=by kernel_rfl):au P (τ.c8 sp):=h.c8 hb g d
theorem ay.a{P:Program}{τ:ar}{m:Nat}{L:LT}(hm:P.follows .mixedOrders=true)(d:au P τ){fn:Func}{sp:bx}(g:ay P m L (aU fn))(h:cu P τ L m (cA fn sp.key) sp) (k:nodupB ((bK (aU fn)).map (·.1))=true:=by kernel_rfl):ay P m (L.add m sp) (aU fn):=ay.add hm d k g h
theorem ay.aC{P:Program}{τ:ar}{m:Nat}{L:LT}(hm:P.follows .mixedOrders=true)(d:au P τ){fn:Func}{sp:bx}(g:ay P m L (aU fn))(h:ft P τ L m (cutAt fn sp.key) sp) (k:kV sp.key (bG (aU fn))=true:=by kernel_rfl):ay P m (L.d_ m sp) (aU fn):=ay.d_ hm d k g h
theorem a8{P:Program}{τ:ar}{L:LT}(hm:P.follows .mixedOrders=true)(g:au P τ){sp:aJ}{fn:Func}(h:P.funcs[sp.f]? = some fn)(k:ay P sp.cF.length L (aU fn))(q:aZ P τ L fn sp)(hb:fn.body.isSome=true:=by kernel_rfl)(d:pE sp.cF=true:=by kernel_rfl):aY P sp:=rG hm g h hb k q d
end
end Go.AL
set_option linter.all false
namespace Go.Proofs
open Go.Shelf Go.RowKit
set_option maxHeartbeats 4000000
def Tryz.Wf:Go.Shelf.Ren:=⟨fun|106=>35|213=>59|265=>82|n=>n,fun|9=>9|3=>3|n=>n,fun|n=>n⟩
theorem Tryz.Wg:Go.Proofs.Lays.n106 Tryz.prog Tryz.Wf:={ mixed:=by kernel_rfl,f106:=Tryz.func35.trans (congrArg some (by kernel_rfl)),f213:=Tryz.func59.trans (congrArg some (by kernel_rfl)),f265:=Tryz.func82.trans (congrArg some (by kernel_rfl)),t3:=Tryz.underlying3,a3:=Tryz.isAgg3,z3:=Tryz.sizeOf3,v3:=Tryz.zeroValue3,t9:=Tryz.underlying9,a9:=Tryz.isAgg9,z9:=Tryz.sizeOf9,v9:=Tryz.zeroValue9 }
def Tryz.Wh:Go.Shelf.Ren:=⟨fun|137=>63|217=>84|266=>111|n=>n,fun|9=>9|5=>5|3=>3|n=>n,fun|n=>n⟩
theorem Tryz.Wi:Go.Proofs.Lays.n137 Tryz.prog Tryz.Wh:={ mixed:=by kernel_rfl,f137:=Tryz.func63.trans (congrArg some (by kernel_rfl)),f217:=Tryz.func84.trans (congrArg some (by kernel_rfl)),f266:=Tryz.func111.trans (congrArg some (by kernel_rfl)),t3:=Tryz.underlying3,a3:=Tryz.isAgg3,z3:=Tryz.sizeOf3,v3:=Tryz.zeroValue3,t5:=Tryz.underlying5,a5:=Tryz.isAgg5,z5:=Tryz.sizeOf5,v5:=Tryz.zeroValue5,t9:=Tryz.underlying9,a9:=Tryz.isAgg9,z9:=Tryz.sizeOf9,v9:=Tryz.zeroValue9 }
def Tryz.LB:Go.Shelf.Ren:=⟨fun|160=>64|232=>86|231=>85|227=>87|234=>89|233=>88|236=>91|235=>90|228=>112|271=>115|151=>114|197=>113|120=>143|152=>142|260=>141|137=>63|119=>170|224=>171|225=>172|217=>84|266=>111|n=>n,fun|9=>9|4=>4|3=>3|5=>5|117=>156|116=>155|0=>0|124=>159|21=>21|105=>186|46=>152|119=>237|139=>240|138=>239|n=>n,fun|3=>2|4=>3|n=>n⟩
theorem Tryz.Wj:Go.Proofs.Lays.n160 Tryz.prog Tryz.LB:={ mixed:=by kernel_rfl,f119:=Tryz.func170.trans (congrArg some (by kernel_rfl)),f120:=Tryz.func143.trans (congrArg some (by kernel_rfl)),f137:=Tryz.func63.trans (congrArg some (by kernel_rfl)),f151:=Tryz.func114.trans (congrArg some (by kernel_rfl)),f152:=Tryz.func142.trans (congrArg some (by kernel_rfl)),f160:=Tryz.func64.trans (congrArg some (by kernel_rfl)),f197:=Tryz.func113.trans (congrArg some (by kernel_rfl)),f217:=Tryz.func84.trans (congrArg some (by kernel_rfl)),f224:=Tryz.func171.trans (congrArg some (by kernel_rfl)),f225:=Tryz.func172.trans (congrArg some (by kernel_rfl)),f227:=Tryz.func87.trans (congrArg some (by kernel_rfl)),f228:=Tryz.func112.trans (congrArg some (by kernel_rfl)),f231:=Tryz.func85.trans (congrArg some (by kernel_rfl)),f232:=Tryz.func86.trans (congrArg some (by kernel_rfl)),f233:=Tryz.func88.trans (congrArg some (by kernel_rfl)),f234:=Tryz.func89.trans (congrArg some (by kernel_rfl)),f235:=Tryz.func90.trans (congrArg some (by kernel_rfl)),f236:=Tryz.func91.trans (congrArg some (by kernel_rfl)),f260:=Tryz.func141.trans (congrArg some (by kernel_rfl)),f266:=Tryz.func111.trans (congrArg some (by kernel_rfl)),f271:=Tryz.func115.trans (congrArg some (by kernel_rfl)),t0:=Tryz.underlying0,a0:=Tryz.isAgg0,z0:=Tryz.sizeOf0,v0:=Tryz.zeroValue0,t3:=Tryz.underlying3,a3:=Tryz.isAgg3,z3:=Tryz.sizeOf3,v3:=Tryz.zeroValue3,t4:=Tryz.underlying4,a4:=Tryz.isAgg4,z4:=Tryz.sizeOf4,v4:=Tryz.zeroValue4,t5:=Tryz.underlying5,a5:=Tryz.isAgg5,z5:=Tryz.sizeOf5,v5:=Tryz.zeroValue5,t9:=Tryz.underlying9,a9:=Tryz.isAgg9,z9:=Tryz.sizeOf9,v9:=Tryz.zeroValue9,t21:=Tryz.underlying21,a21:=Tryz.isAgg21,z21:=Tryz.sizeOf21,v21:=Tryz.zeroValue21,t46:=Tryz.underlying152,a46:=Tryz.isAgg152,z46:=Tryz.sizeOf152,v46:=Tryz.zeroValue152,t105:=Tryz.underlying186,a105:=Tryz.isAgg186,z105:=Tryz.sizeOf186,v105:=Tryz.zeroValue186,t116:=Tryz.underlying155,a116:=Tryz.isAgg155,z116:=Tryz.sizeOf155,t117:=Tryz.underlying156,a117:=Tryz.isAgg156,z117:=Tryz.sizeOf156,v117:=Tryz.zeroValue156,t119:=Tryz.underlying237,a119:=Tryz.isAgg237,z119:=Tryz.sizeOf237,t124:=Tryz.underlying159,a124:=Tryz.isAgg159,z124:=Tryz.sizeOf159,v124:=Tryz.zeroValue159,t138:=Tryz.underlying239,a138:=Tryz.isAgg239,z138:=Tryz.sizeOf239,v138:=Tryz.zeroValue239,t139:=Tryz.underlying240,a139:=Tryz.isAgg240,z139:=Tryz.sizeOf240,v139:=Tryz.zeroValue240,g3:=by kernel_rfl,g4:=by kernel_rfl }
def Tryz.Wk:Go.Shelf.Ren:=⟨fun|217=>84|266=>111|n=>n,fun|9=>9|5=>5|3=>3|n=>n,fun|n=>n⟩
theorem Tryz.Wl:Go.Proofs.Lays.n217 Tryz.prog Tryz.Wk:={ mixed:=by kernel_rfl,f217:=Tryz.func84.trans (congrArg some (by kernel_rfl)),f266:=Tryz.func111.trans (congrArg some (by kernel_rfl)),t3:=Tryz.underlying3,a3:=Tryz.isAgg3,z3:=Tryz.sizeOf3,v3:=Tryz.zeroValue3,t5:=Tryz.underlying5,a5:=Tryz.isAgg5,z5:=Tryz.sizeOf5,v5:=Tryz.zeroValue5,t9:=Tryz.underlying9,a9:=Tryz.isAgg9,z9:=Tryz.sizeOf9,v9:=Tryz.zeroValue9 }
def Tryz.Wm:Go.Shelf.Ren:=⟨fun|171=>31|243=>56|246=>80|283=>106|284=>107|285=>108|286=>109|129=>125|317=>137|318=>138|319=>139|320=>140|337=>168|338=>169|n=>n,fun|3=>3|9=>9|2=>2|4=>4|171=>178|0=>0|53=>179|37=>182|5=>5|173=>183|212=>212|51=>197|20=>20|213=>213|46=>152|232=>249|233=>250|n=>n,fun|17=>1|18=>4|19=>5|n=>n⟩
theorem Tryz.Wn:Go.Proofs.Lays.n171 Tryz.prog Tryz.Wm:={ mixed:=by kernel_rfl,f129:=Tryz.func125.trans (congrArg some (by kernel_rfl)),f171:=Tryz.func31.trans (congrArg some (by kernel_rfl)),f243:=Tryz.func56.trans (congrArg some (by kernel_rfl)),f246:=Tryz.func80.trans (congrArg some (by kernel_rfl)),f283:=Tryz.func106.trans (congrArg some (by kernel_rfl)),f284:=Tryz.func107.trans (congrArg some (by kernel_rfl)),f285:=Tryz.func108.trans (congrArg some (by kernel_rfl)),f286:=Tryz.func109.trans (congrArg some (by kernel_rfl)),f317:=Tryz.func137.trans (congrArg some (by kernel_rfl)),f318:=Tryz.func138.trans (congrArg some (by kernel_rfl)),f319:=Tryz.func139.trans (congrArg some (by kernel_rfl)),f320:=Tryz.func140.trans (congrArg some (by kernel_rfl)),f337:=Tryz.func168.trans (congrArg some (by kernel_rfl)),f338:=Tryz.func169.trans (congrArg some (by kernel_rfl)),t0:=Tryz.underlying0,a0:=Tryz.isAgg0,z0:=Tryz.sizeOf0,v0:=Tryz.zeroValue0,t2:=Tryz.underlying2,a2:=Tryz.isAgg2,z2:=Tryz.sizeOf2,v2:=Tryz.zeroValue2,t3:=Tryz.underlying3,a3:=Tryz.isAgg3,z3:=Tryz.sizeOf3,v3:=Tryz.zeroValue3,t4:=Tryz.underlying4,a4:=Tryz.isAgg4,z4:=Tryz.sizeOf4,v4:=Tryz.zeroValue4,t5:=Tryz.underlying5,a5:=Tryz.isAgg5,z5:=Tryz.sizeOf5,v5:=Tryz.zeroValue5,t9:=Tryz.underlying9,a9:=Tryz.isAgg9,z9:=Tryz.sizeOf9,v9:=Tryz.zeroValue9,t20:=Tryz.underlying20,a20:=Tryz.isAgg20,z20:=Tryz.sizeOf20,v20:=Tryz.zeroValue20,t37:=Tryz.underlying182,a37:=Tryz.isAgg182,z37:=Tryz.sizeOf182,v37:=Tryz.zeroValue182,t46:=Tryz.underlying152,a46:=Tryz.isAgg152,z46:=Tryz.sizeOf152,v46:=Tryz.zeroValue152,t51:=Tryz.underlying197,a51:=Tryz.isAgg197,z51:=Tryz.sizeOf197,v51:=Tryz.zeroValue197,t53:=Tryz.underlying179,a53:=Tryz.isAgg179,z53:=Tryz.sizeOf179,v53:=Tryz.zeroValue179,t171:=Tryz.underlying178,a171:=Tryz.isAgg178,z171:=Tryz.sizeOf178,v171:=Tryz.zeroValue178,t173:=Tryz.underlying183,a173:=Tryz.isAgg183,z173:=Tryz.sizeOf183,v173:=Tryz.zeroValue183,t212:=Tryz.underlying212,a212:=Tryz.isAgg212,z212:=Tryz.sizeOf212,v212:=Tryz.zeroValue212,t213:=Tryz.underlying213,a213:=Tryz.isAgg213,z213:=Tryz.sizeOf213,t232:=Tryz.underlying249,a232:=Tryz.isAgg249,z232:=Tryz.sizeOf249,v232:=Tryz.zeroValue249,t233:=Tryz.underlying250,a233:=Tryz.isAgg250,z233:=Tryz.sizeOf250,v233:=Tryz.zeroValue250,g17:=by kernel_rfl,g18:=by kernel_rfl,g19:=by kernel_rfl }
def Tryz.Wo:Go.Shelf.Ren:=⟨fun|6=>161|15=>93|14=>180|28=>124|29=>125|20=>185|21=>186|22=>187|23=>188|24=>189|25=>190|26=>191|27=>192|46=>194|47=>145|48=>146|49=>195|50=>196|57=>197|n=>n,fun|22=>205|24=>208|25=>235|3=>3|39=>152|0=>0|53=>197|55=>179|4=>4|46=>191|45=>190|50=>104|5=>5|9=>9|66=>215|70=>219|76=>242|77=>87|n=>n,fun|n=>n⟩
theorem Tryz.Wp:Go.Proofs.SlLaysF0.n6 Tryz.prog Tryz.Wo:={ mixed:=by kernel_rfl,f6:=⟨Tryz.f161.name,by kernel_rfl,Tryz.func161.trans (congrArg some (by kernel_rfl))⟩,f14:=⟨Tryz.f180.name,by kernel_rfl,Tryz.func180.trans (congrArg some (by kernel_rfl))⟩,f15:=Tryz.func93.trans (congrArg some (by kernel_rfl)),f20:=⟨Tryz.f185.name,by kernel_rfl,Tryz.func185.trans (congrArg some (by kernel_rfl))⟩,f21:=⟨Tryz.f186.name,by kernel_rfl,Tryz.func186.trans (congrArg some (by kernel_rfl))⟩,f22:=⟨Tryz.f187.name,by kernel_rfl,Tryz.func187.trans (congrArg some (by kernel_rfl))⟩,f23:=⟨Tryz.f188.name,by kernel_rfl,Tryz.func188.trans (congrArg some (by kernel_rfl))⟩,f24:=⟨Tryz.f189.name,by kernel_rfl,Tryz.func189.trans (congrArg some (by kernel_rfl))⟩,f25:=⟨Tryz.f190.name,by kernel_rfl,Tryz.func190.trans (congrArg some (by kernel_rfl))⟩,f26:=⟨Tryz.f191.name,by kernel_rfl,Tryz.func191.trans (congrArg some (by kernel_rfl))⟩,f27:=⟨Tryz.f192.name,by kernel_rfl,Tryz.func192.trans (congrArg some (by kernel_rfl))⟩,f28:=Tryz.func124.trans (congrArg some (by kernel_rfl)),f29:=Tryz.func125.trans (congrArg some (by kernel_rfl)),f46:=⟨Tryz.f194.name,by kernel_rfl,Tryz.func194.trans (congrArg some (by kernel_rfl))⟩,f47:=Tryz.func145.trans (congrArg some (by kernel_rfl)),f48:=Tryz.func146.trans (congrArg some (by kernel_rfl)),f49:=⟨Tryz.f195.name,by kernel_rfl,Tryz.func195.trans (congrArg some (by kernel_rfl))⟩,f50:=⟨Tryz.f196.name,by kernel_rfl,Tryz.func196.trans (congrArg some (by kernel_rfl))⟩,f57:=⟨Tryz.f197.name,by kernel_rfl,Tryz.func197.trans (congrArg some (by kernel_rfl))⟩,t0:=Tryz.underlying0,a0:=Tryz.isAgg0,z0:=Tryz.sizeOf0,v0:=Tryz.zeroValue0,t3:=Tryz.underlying3,a3:=Tryz.isAgg3,z3:=Tryz.sizeOf3,v3:=Tryz.zeroValue3,t4:=Tryz.underlying4,a4:=Tryz.isAgg4,z4:=Tryz.sizeOf4,v4:=Tryz.zeroValue4,t5:=Tryz.underlying5,a5:=Tryz.isAgg5,z5:=Tryz.sizeOf5,v5:=Tryz.zeroValue5,t9:=Tryz.underlying9,a9:=Tryz.isAgg9,z9:=Tryz.sizeOf9,v9:=Tryz.zeroValue9,t22:=Tryz.underlying205,a22:=Tryz.isAgg205,z22:=Tryz.sizeOf205,v22:=Tryz.zeroValue205,t25:=Tryz.underlying235,a25:=Tryz.isAgg235,z25:=Tryz.sizeOf235,v25:=Tryz.zeroValue235,t39:=Tryz.underlying152,a39:=Tryz.isAgg152,z39:=Tryz.sizeOf152,v39:=Tryz.zeroValue152,t45:=Tryz.underlying190,a45:=Tryz.isAgg190,z45:=Tryz.sizeOf190,v45:=Tryz.zeroValue190,t46:=Tryz.underlying191,a46:=Tryz.isAgg191,z46:=Tryz.sizeOf191,v46:=Tryz.zeroValue191,t50:=Tryz.underlying104,a50:=Tryz.isAgg104,z50:=Tryz.sizeOf104,v50:=Tryz.zeroValue104,t53:=Tryz.underlying197,a53:=Tryz.isAgg197,z53:=Tryz.sizeOf197,v53:=Tryz.zeroValue197,t55:=Tryz.underlying179,a55:=Tryz.isAgg179,z55:=Tryz.sizeOf179,v55:=Tryz.zeroValue179,t66:=Tryz.underlying215,a66:=Tryz.isAgg215,z66:=Tryz.sizeOf215,v66:=Tryz.zeroValue215,t70:=Tryz.underlying219,a70:=Tryz.isAgg219,z70:=Tryz.sizeOf219,v70:=Tryz.zeroValue219,t76:=Tryz.underlying242,a76:=Tryz.isAgg242,z76:=Tryz.sizeOf242,v76:=Tryz.zeroValue242,t77:=Tryz.underlying87,a77:=Tryz.isAgg87,z77:=Tryz.sizeOf87,v77:=Tryz.zeroValue87 }
end Go.Proofs
namespace Go.Proofs.fW
open Go Go.AL Go.Proofs
noncomputable section
abbrev P:Program:=Tryz.prog
attribute [instance] tw
theorem hm:P.follows .mixedOrders=true:=Tryz.checked.mixed
def df(a b:ByteArray):Int:=Lib.compareBytes a.data.toList b.data.toList
def LC(s:ByteArray)(c:Int):Int:=Lib.indexByte s.data.toList c.toNat.toUInt8
def trimB(s cut:ByteArray):ByteArray:=⟨(Lib.trimS s.data.toList cut.data.toList).toArray⟩
def iq(n:Int):ByteArray:=⟨(Lib.decDigits n.toNat).toArray⟩
def LD(cut:ByteArray):Bool:=cut.data.toList.all fun b=>fe b.toNat 128
def pR(a b:ByteArray):Bool:=a.data.toList==b.data.toList
theorem LF{a b:ByteArray}(h:pR a b=true):a=b:=by
 unfold pR at h;rw[beq_iff_eq]at h;cases a with
 | mk a =>
  cases b with
  | mk b =>
   congr 1;exact Array.ext' h
def zm{α:Type}:List (ByteArray × α)→ByteArray→Option α
 | [],_=>none
 |(k,v)::l,s=>bif pR k s then some v else zm l s
theorem LG{α:Type}{s:ByteArray}{v:α}:∀{l:List (ByteArray × α)},zm l s=some v→(s,v)∈l
 | [],h=>by cases h
 | (k,u)::l,h=>by
  simp only[zm]at h;cases hk:pR k s with
  | true =>
   rw[hk]at h;cases h;rw[LF hk];exact List.mem_cons_self
  | false =>
   rw[hk]at h;exact List.mem_cons_of_mem _ (LG h)
abbrev ai:List Kd:=[.int .i64,.int .i64,.str,.str,.int .i64,.int .i64,.str,.str]
abbrev dH:List Kd:=[.int .i64,.int .i64,.int .i64,.str,.str]
abbrev mM:List Kd:=[.str,.str,.int .i64,.int .i64]
abbrev vm:List Kd:=[.str,.str,.int .i64,.str]
abbrev pS:List Kd:=[.str,.int .i64,.int .i64,.int .i64,.int .i64,.int .i64,.str,.str,.int .i64,.int .i64,.str,.str,.str,.str,.int .i64]
abbrev jf:List Kd:=[.int .i64,.int .i64,.str,.int .i64]
abbrev cq:List Kd:=[.int .i64,.int .i64,.str]
abbrev Wq:List Kd:=[.str,.str,.str,.int .i64,.str]
def t0:ar:=JT [117]
theorem Wr:au P t0:=Ul P _
def fM(d:List G):Option (List G):=some [.i (df (gi d 0).str (gi d 1).str)]
def vn:aJ:=⟨35,[.s (.str),.s (.str)],[],[],[.s (.int .i64)],[],[],[],fM⟩
theorem Ws:∀ d r,fM d=some r→dG P 35 (vn.args0 d) (ak (vn.H0 d)) (vn.out r) (ak (vn.H1 r)):=fun d r h=>by
 cases h;exact(uG (vs:=[.string (gi d 0).str,.string (gi d 1).str]) fun w=>(Proofs.Any.strings_Compare Tryz.Wg (gi d 0).str (gi d 1).str w).mono fun e w' h=>⟨h.1,h.2▸Ext.refl w⟩) []
def t1:ar:=t0.bD vn
theorem Wt:au P t1:=Wr.aP Ws
def Dz(d:List G):Option (List G):=some [.i (LC (gi d 0).str (gi d 1).int)]
def vo:aJ:=⟨63,[.s (.str),.s (.int .u8)],[],[],[.s (.int .i64)],[],[],[],Dz⟩
theorem Wu:∀ d r,Dz d=some r→dG P 63 (vo.args0 d) (ak (vo.H0 d)) (vo.out r) (ak (vo.H1 r)):=fun d r h=>by
 cases h;exact(uG (vs:=[.string (gi d 0).str,.int .u8 (gi d 1).int]) fun w=>(Proofs.Any.strings_IndexByte Tryz.Wi (gi d 0).str (gi d 1).int w).mono fun e w' h=>⟨h.1,h.2▸Ext.refl w⟩) []
def t2:ar:=t1.bD vo
theorem Wv:au P t2:=Wt.aP Wu
def pT(d:List G):Option (List G):=bif (az (gi d 0).int&&aj (gi d 0).int 100) then some [.s (iq (gi d 0).int)] else none
def vp:aJ:=⟨31,[.s (.int .i64)],[],[],[.s (.str)],[],[],[],pT⟩
theorem Ww:∀ d r,pT d=some r→dG P 31 (vp.args0 d) (ak (vp.H0 d)) (vp.out r) (ak (vp.H1 r)):=fun d r h=>by
 unfold pT at h;cases hb:(az (gi d 0).int&&aj (gi d 0).int 100)with
 |false=>rw[hb]at h; cases h
 | true =>
  rw[hb]at h;cases h;simp only[ax,jz,dm,decide_eq_true_eq]at hb;have e:(gi d 0).int=((gi d 0).int.toNat:Int):=by omega
  have key:eg P 31 [.lit (.int .i64 (gi d 0).int)] (.lit (.string (iq (gi d 0).int))):=by
   rw[e];exact uG (vs:=[.int .i64 ((gi d 0).int.toNat:Int)]) fun w=>(Proofs.Any.strconv_Itoa_small Tryz.Wn (gi d 0).int.toNat (by omega) w).mono fun e w' h=>⟨h.1,h.2▸Ext.refl w⟩
  exact key []
def t3:ar:=t2.bD vp
theorem Wx:au P t3:=Wv.aP Ww
def zn(d:List G):Option (List G):=bif (LD (gi d 1).str&&(c_ 2 (gi d 1).str.size&&(fe (gi d 1).str.size 4294967281&&(c_ 1 (gi d 0).str.size&&c_ (gi d 0).str.size 9223372036854775807)))) then some [.s (trimB (gi d 0).str (gi d 1).str)] else none
def vq:aJ:=⟨64,[.s (.str),.s (.str)],[],[],[.s (.str)],[],[],[],zn⟩
theorem Wy:∀ d r,zn d=some r→dG P 64 (vq.args0 d) (ak (vq.H0 d)) (vq.out r) (ak (vq.H1 r)):=fun d r h=>by
 unfold zn at h;cases hb:(LD (gi d 1).str&&(c_ 2 (gi d 1).str.size&&(fe (gi d 1).str.size 4294967281&&(c_ 1 (gi d 0).str.size&&c_ (gi d 0).str.size 9223372036854775807))))with
 |false=>rw[hb]at h; cases h
 | true =>
  rw[hb]at h;cases h;simp only[ax,kC,Nat.ble_eq]at hb;have g:(Tryz.prog.info? (Tryz.LB.t 116)).map (fun i=>(i.zero,i.size))=some (some (.agg (Array.replicate 256 (.bool false))),256):=by kernel_rfl
  exact(uG (vs:=[.string (gi d 0).str,.string (gi d 1).str]) fun w=>(Proofs.Any.strings_Trim_set Tryz.Wj (zero_of_info g).1 (zero_of_info g).2 (gi d 0).str (gi d 1).str w hb.2.1 hb.2.2.2.1 hb.2.2.2.2 hb.2.2.1 fun j b k=>by
   have:=List.all_eq_true.1 hb.1 b (List.mem_of_getElem? k);simpa[kC]using this).mono fun _ _ h=>⟨h.1,by
    obtain⟨_,q,rfl⟩:=h;exact((Ext.push w _).trans (Ext.push _ _)).trans (Ext.drawn _ _ (Nat.le_add_right _ _))⟩) []
def t4:ar:=t3.bD vq
theorem Wz:au P t4:=Wx.aP Wy
def LH(d:List G):Option (List G):=some [.i (LC (gi d 0).str (gi d 1).int)]
def vr:aJ:=⟨84,[.s (.str),.s (.int .u8)],[],[],[.s (.int .i64)],[],[],[],LH⟩
theorem WA:∀ d r,LH d=some r→dG P 84 (vr.args0 d) (ak (vr.H0 d)) (vr.out r) (ak (vr.H1 r)):=fun d r h=>by
 cases h;exact(uG (vs:=[.string (gi d 0).str,.int .u8 (gi d 1).int]) fun w=>(Proofs.Any.stringslite_IndexByte Tryz.Wl (gi d 0).str (gi d 1).int w).mono fun e w' h=>⟨h.1,h.2▸Ext.refl w⟩) []
def t5:ar:=t4.bD vr
theorem LI:au P t5:=Wz.aP WA
end
end Go.Proofs.fW
