/-
 What is proved here: functions of the program as functions on data. No condition.
-/
import Derived.Test.YtdabjgppkghiaaaGreatDoorMH
import Derived.Test.YtdabjgppkghiaaaGreatDoorMX
import Derived.Test.YtdabjgppkghiaaaGreatDoorChecked
import Derived.Shelf.Small.Strs
import Derived.Shelf.Strings.Search1
import Derived.Shelf.Strings.SlTrimAscii
open Nat renaming ble→eM,blt→eg,blt_eq→fJ
namespace Go.AL
section
variable [Dr]
theorem ao.aP{P:Program}{τ:al}(h:ao P τ){sp:aG}(a:bf P sp)(b:dY P sp.f=true:=by kernel_rfl)(d:zF sp=true:=by kernel_rfl):ao P (τ.bF sp):=h.bF b d a
theorem ao.aW{P:Program}{τ:al}(h:ao P τ){sp:aG}(a:bf P sp)(b:dY P sp.f=true:=by kernel_rfl)(d:vq sp=true:=by kernel_rfl):ao P (τ.dt sp):=h.dt b d a
theorem ay.a{P:Program}{τ:al}{m:Nat}{L:LT}(hm:P.follows .mixedOrders=true)(b:ao P τ){fn:Func}{sp:bI}(d:ay P m L (aY fn))(hr:cP P τ L m (cU fn sp.key) sp) (g:nodupB ((bk (aY fn)).map (·.1))=true:=by kernel_rfl):ay P m (L.add m sp) (aY fn):=ay.add hm b g d hr
theorem ay.aC{P:Program}{τ:al}{m:Nat}{L:LT}(hm:P.follows .mixedOrders=true)(a:ao P τ){fn:Func}{sp:bI}(b:ay P m L (aY fn))(hr:jE P τ L m (cutAt fn sp.key) sp) (d:jD sp.key (bl (aY fn))=true:=by kernel_rfl):ay P m (L.gk m sp) (aY fn):=ay.gk hm a d b hr
theorem bB{P:Program}{τ:al}{L:LT}(hm:P.follows .mixedOrders=true)(b:ao P τ){sp:aG}{fn:Func}(hf:P.funcs[sp.f]? = some fn)(d:ay P sp.b6.length L (aY fn))(g:bp P τ L fn sp)(h:fn.body.isSome=true:=by kernel_rfl)(a:ny sp.b6=true:=by kernel_rfl):bf P sp:=zD hm b hf h d g a
end
end Go.AL
set_option linter.all false
namespace Go.Proofs
open Go.Shelf Go.RowKit
set_option maxHeartbeats 4000000
def Tryz.QD:Go.Shelf.Ren:=⟨fun|106=>26|213=>47|265=>70|n=>n,fun|9=>9|3=>3|n=>n,fun|n=>n⟩
theorem Tryz.QE:Go.Proofs.Lays.n106 Tryz.prog Tryz.QD:={ mixed:=by kernel_rfl,f106:=Tryz.func26.trans (congrArg some (by kernel_rfl)),f213:=Tryz.func47.trans (congrArg some (by kernel_rfl)),f265:=Tryz.func70.trans (congrArg some (by kernel_rfl)),t3:=Tryz.underlying3,a3:=Tryz.isAgg3,z3:=Tryz.sizeOf3,v3:=Tryz.zeroValue3,t9:=Tryz.underlying9,a9:=Tryz.isAgg9,z9:=Tryz.sizeOf9,v9:=Tryz.zeroValue9 }
def Tryz.QF:Go.Shelf.Ren:=⟨fun|137=>41|217=>59|266=>83|n=>n,fun|9=>9|5=>5|3=>3|n=>n,fun|n=>n⟩
theorem Tryz.QG:Go.Proofs.Lays.n137 Tryz.prog Tryz.QF:={ mixed:=by kernel_rfl,f137:=Tryz.func41.trans (congrArg some (by kernel_rfl)),f217:=Tryz.func59.trans (congrArg some (by kernel_rfl)),f266:=Tryz.func83.trans (congrArg some (by kernel_rfl)),t3:=Tryz.underlying3,a3:=Tryz.isAgg3,z3:=Tryz.sizeOf3,v3:=Tryz.zeroValue3,t5:=Tryz.underlying5,a5:=Tryz.isAgg5,z5:=Tryz.sizeOf5,v5:=Tryz.zeroValue5,t9:=Tryz.underlying9,a9:=Tryz.isAgg9,z9:=Tryz.sizeOf9,v9:=Tryz.zeroValue9 }
def Tryz.G5:Go.Shelf.Ren:=⟨fun|160=>42|232=>61|231=>60|227=>62|234=>64|233=>63|236=>66|235=>65|228=>84|271=>87|151=>86|197=>85|120=>101|152=>100|260=>99|137=>41|119=>129|224=>130|225=>131|217=>59|266=>83|n=>n,fun|9=>9|4=>4|3=>3|5=>5|117=>103|116=>102|0=>0|124=>106|21=>21|105=>123|46=>121|119=>173|139=>176|138=>175|n=>n,fun|3=>1|4=>2|n=>n⟩
theorem Tryz.QH:Go.Proofs.Lays.n160 Tryz.prog Tryz.G5:={ mixed:=by kernel_rfl,f119:=Tryz.func129.trans (congrArg some (by kernel_rfl)),f120:=Tryz.func101.trans (congrArg some (by kernel_rfl)),f137:=Tryz.func41.trans (congrArg some (by kernel_rfl)),f151:=Tryz.func86.trans (congrArg some (by kernel_rfl)),f152:=Tryz.func100.trans (congrArg some (by kernel_rfl)),f160:=Tryz.func42.trans (congrArg some (by kernel_rfl)),f197:=Tryz.func85.trans (congrArg some (by kernel_rfl)),f217:=Tryz.func59.trans (congrArg some (by kernel_rfl)),f224:=Tryz.func130.trans (congrArg some (by kernel_rfl)),f225:=Tryz.func131.trans (congrArg some (by kernel_rfl)),f227:=Tryz.func62.trans (congrArg some (by kernel_rfl)),f228:=Tryz.func84.trans (congrArg some (by kernel_rfl)),f231:=Tryz.func60.trans (congrArg some (by kernel_rfl)),f232:=Tryz.func61.trans (congrArg some (by kernel_rfl)),f233:=Tryz.func63.trans (congrArg some (by kernel_rfl)),f234:=Tryz.func64.trans (congrArg some (by kernel_rfl)),f235:=Tryz.func65.trans (congrArg some (by kernel_rfl)),f236:=Tryz.func66.trans (congrArg some (by kernel_rfl)),f260:=Tryz.func99.trans (congrArg some (by kernel_rfl)),f266:=Tryz.func83.trans (congrArg some (by kernel_rfl)),f271:=Tryz.func87.trans (congrArg some (by kernel_rfl)),t0:=Tryz.underlying0,a0:=Tryz.isAgg0,z0:=Tryz.sizeOf0,v0:=Tryz.zeroValue0,t3:=Tryz.underlying3,a3:=Tryz.isAgg3,z3:=Tryz.sizeOf3,v3:=Tryz.zeroValue3,t4:=Tryz.underlying4,a4:=Tryz.isAgg4,z4:=Tryz.sizeOf4,v4:=Tryz.zeroValue4,t5:=Tryz.underlying5,a5:=Tryz.isAgg5,z5:=Tryz.sizeOf5,v5:=Tryz.zeroValue5,t9:=Tryz.underlying9,a9:=Tryz.isAgg9,z9:=Tryz.sizeOf9,v9:=Tryz.zeroValue9,t21:=Tryz.underlying21,a21:=Tryz.isAgg21,z21:=Tryz.sizeOf21,v21:=Tryz.zeroValue21,t46:=Tryz.underlying121,a46:=Tryz.isAgg121,z46:=Tryz.sizeOf121,v46:=Tryz.zeroValue121,t105:=Tryz.underlying123,a105:=Tryz.isAgg123,z105:=Tryz.sizeOf123,v105:=Tryz.zeroValue123,t116:=Tryz.underlying102,a116:=Tryz.isAgg102,z116:=Tryz.sizeOf102,t117:=Tryz.underlying103,a117:=Tryz.isAgg103,z117:=Tryz.sizeOf103,v117:=Tryz.zeroValue103,t119:=Tryz.underlying173,a119:=Tryz.isAgg173,z119:=Tryz.sizeOf173,t124:=Tryz.underlying106,a124:=Tryz.isAgg106,z124:=Tryz.sizeOf106,v124:=Tryz.zeroValue106,t138:=Tryz.underlying175,a138:=Tryz.isAgg175,z138:=Tryz.sizeOf175,v138:=Tryz.zeroValue175,t139:=Tryz.underlying176,a139:=Tryz.isAgg176,z139:=Tryz.sizeOf176,v139:=Tryz.zeroValue176,g3:=by kernel_rfl,g4:=by kernel_rfl }
def Tryz.QI:Go.Shelf.Ren:=⟨fun|217=>59|266=>83|n=>n,fun|9=>9|5=>5|3=>3|n=>n,fun|n=>n⟩
theorem Tryz.QJ:Go.Proofs.Lays.n217 Tryz.prog Tryz.QI:={ mixed:=by kernel_rfl,f217:=Tryz.func59.trans (congrArg some (by kernel_rfl)),f266:=Tryz.func83.trans (congrArg some (by kernel_rfl)),t3:=Tryz.underlying3,a3:=Tryz.isAgg3,z3:=Tryz.sizeOf3,v3:=Tryz.zeroValue3,t5:=Tryz.underlying5,a5:=Tryz.isAgg5,z5:=Tryz.sizeOf5,v5:=Tryz.zeroValue5,t9:=Tryz.underlying9,a9:=Tryz.isAgg9,z9:=Tryz.sizeOf9,v9:=Tryz.zeroValue9 }
def Tryz.QK:Go.Shelf.Ren:=⟨fun|6=>68|15=>89|14=>88|28=>110|29=>111|20=>102|21=>103|22=>104|23=>105|24=>106|25=>107|26=>108|27=>109|46=>132|47=>133|48=>134|49=>135|50=>136|57=>155|n=>n,fun|22=>29|24=>36|25=>109|3=>3|39=>121|0=>0|53=>154|55=>156|4=>4|46=>147|45=>146|50=>151|5=>5|9=>9|66=>178|70=>182|76=>194|77=>195|n=>n,fun|n=>n⟩
theorem Tryz.QL:Go.Proofs.SlLaysF0.n6 Tryz.prog Tryz.QK:={ mixed:=by kernel_rfl,f6:=⟨Tryz.f68.name,by kernel_rfl,Tryz.func68.trans (congrArg some (by kernel_rfl))⟩,f14:=⟨Tryz.f88.name,by kernel_rfl,Tryz.func88.trans (congrArg some (by kernel_rfl))⟩,f15:=Tryz.func89.trans (congrArg some (by kernel_rfl)),f20:=⟨Tryz.f102.name,by kernel_rfl,Tryz.func102.trans (congrArg some (by kernel_rfl))⟩,f21:=⟨Tryz.f103.name,by kernel_rfl,Tryz.func103.trans (congrArg some (by kernel_rfl))⟩,f22:=⟨Tryz.f104.name,by kernel_rfl,Tryz.func104.trans (congrArg some (by kernel_rfl))⟩,f23:=⟨Tryz.f105.name,by kernel_rfl,Tryz.func105.trans (congrArg some (by kernel_rfl))⟩,f24:=⟨Tryz.f106.name,by kernel_rfl,Tryz.func106.trans (congrArg some (by kernel_rfl))⟩,f25:=⟨Tryz.f107.name,by kernel_rfl,Tryz.func107.trans (congrArg some (by kernel_rfl))⟩,f26:=⟨Tryz.f108.name,by kernel_rfl,Tryz.func108.trans (congrArg some (by kernel_rfl))⟩,f27:=⟨Tryz.f109.name,by kernel_rfl,Tryz.func109.trans (congrArg some (by kernel_rfl))⟩,f28:=Tryz.func110.trans (congrArg some (by kernel_rfl)),f29:=Tryz.func111.trans (congrArg some (by kernel_rfl)),f46:=⟨Tryz.f132.name,by kernel_rfl,Tryz.func132.trans (congrArg some (by kernel_rfl))⟩,f47:=Tryz.func133.trans (congrArg some (by kernel_rfl)),f48:=Tryz.func134.trans (congrArg some (by kernel_rfl)),f49:=⟨Tryz.f135.name,by kernel_rfl,Tryz.func135.trans (congrArg some (by kernel_rfl))⟩,f50:=⟨Tryz.f136.name,by kernel_rfl,Tryz.func136.trans (congrArg some (by kernel_rfl))⟩,f57:=⟨Tryz.f155.name,by kernel_rfl,Tryz.func155.trans (congrArg some (by kernel_rfl))⟩,t0:=Tryz.underlying0,a0:=Tryz.isAgg0,z0:=Tryz.sizeOf0,v0:=Tryz.zeroValue0,t3:=Tryz.underlying3,a3:=Tryz.isAgg3,z3:=Tryz.sizeOf3,v3:=Tryz.zeroValue3,t4:=Tryz.underlying4,a4:=Tryz.isAgg4,z4:=Tryz.sizeOf4,v4:=Tryz.zeroValue4,t5:=Tryz.underlying5,a5:=Tryz.isAgg5,z5:=Tryz.sizeOf5,v5:=Tryz.zeroValue5,t9:=Tryz.underlying9,a9:=Tryz.isAgg9,z9:=Tryz.sizeOf9,v9:=Tryz.zeroValue9,t22:=Tryz.underlying29,a22:=Tryz.isAgg29,z22:=Tryz.sizeOf29,v22:=Tryz.zeroValue29,t25:=Tryz.underlying109,a25:=Tryz.isAgg109,z25:=Tryz.sizeOf109,v25:=Tryz.zeroValue109,t39:=Tryz.underlying121,a39:=Tryz.isAgg121,z39:=Tryz.sizeOf121,v39:=Tryz.zeroValue121,t45:=Tryz.underlying146,a45:=Tryz.isAgg146,z45:=Tryz.sizeOf146,v45:=Tryz.zeroValue146,t46:=Tryz.underlying147,a46:=Tryz.isAgg147,z46:=Tryz.sizeOf147,v46:=Tryz.zeroValue147,t50:=Tryz.underlying151,a50:=Tryz.isAgg151,z50:=Tryz.sizeOf151,v50:=Tryz.zeroValue151,t53:=Tryz.underlying154,a53:=Tryz.isAgg154,z53:=Tryz.sizeOf154,v53:=Tryz.zeroValue154,t55:=Tryz.underlying156,a55:=Tryz.isAgg156,z55:=Tryz.sizeOf156,v55:=Tryz.zeroValue156,t66:=Tryz.underlying178,a66:=Tryz.isAgg178,z66:=Tryz.sizeOf178,v66:=Tryz.zeroValue178,t70:=Tryz.underlying182,a70:=Tryz.isAgg182,z70:=Tryz.sizeOf182,v70:=Tryz.zeroValue182,t76:=Tryz.underlying194,a76:=Tryz.isAgg194,z76:=Tryz.sizeOf194,v76:=Tryz.zeroValue194,t77:=Tryz.underlying195,a77:=Tryz.isAgg195,z77:=Tryz.sizeOf195,v77:=Tryz.zeroValue195 }
end Go.Proofs
namespace Go.Proofs.jJ
open Go Go.AL Go.Proofs
noncomputable section
abbrev P:Program:=Tryz.prog
attribute [instance] p8
theorem hm:P.follows .mixedOrders=true:=Tryz.checked.mixed
def kg(a b:ByteArray):Int:=Lib.compareBytes a.data.toList b.data.toList
def G6(s:ByteArray)(c:Int):Int:=Lib.indexByte s.data.toList c.toNat.toUInt8
def trimB(s cut:ByteArray):ByteArray:=⟨(Lib.trimS s.data.toList cut.data.toList).toArray⟩
def G7(cut:ByteArray):Bool:=cut.data.toList.all fun b=>eg b.toNat 128
def r9(a b:ByteArray):Bool:=a.data.toList==b.data.toList
theorem G8{a b:ByteArray}(h:r9 a b=true):a=b:=by
 unfold r9 at h;rw[beq_iff_eq]at h;cases a with
 | mk a =>
  cases b with
  | mk b =>
   congr 1;exact Array.ext' h
def v_{α:Type}:List (ByteArray × α)→ByteArray→Option α
 | [],_=>none
 |(k,v)::l,s=>bif r9 k s then some v else v_ l s
theorem G9{α:Type}{s:ByteArray}{v:α}:∀{l:List (ByteArray × α)},v_ l s=some v→(s,v)∈l
 | [],h=>by cases h
 | (k,u)::l,h=>by
  simp only[v_]at h;cases hk:r9 k s with
  | true =>
   rw[hk]at h;cases h;rw[G8 hk];exact List.mem_cons_self
  | false =>
   rw[hk]at h;exact List.mem_cons_of_mem _ (G9 h)
abbrev bg:List Kd:=[.str,.int .i64,.int .i64,.list [.int .i64],.int .i64,.int .i64]
abbrev fk:List Kd:=[.int .i64,.int .i64,.str,.str,.int .i64,.int .i64,.str,.str]
abbrev r_:List Kd:=[.str,.str,.int .i64,.str]
abbrev nH:List Kd:=[.str,.int .i64,.int .i64,.int .i64,.int .i64,.int .i64,.str,.str,.int .i64,.int .i64,.str,.str,.str,.str,.int .i64]
abbrev bP:List Kd:=[.int .i64,.int .i64,.str]
abbrev QM:List Kd:=[.str,.str,.str,.int .i64,.str]
def t0:al:=Fi []
theorem QN:ao P t0:=Ou P _
def iH(d:List G):Option (List G):=some [.i (kg (gi d 0).str (gi d 1).str)]
def sa:aG:=⟨26,[.s (.str),.s (.str)],[],[],[.s (.int .i64)],[],[],[],iH⟩
theorem QO:∀ d r,iH d=some r→c9 P 26 (sa.args0 d) (ai (sa.H0 d)) (sa.out r) (ai (sa.H1 r)):=fun d r h=>by
 cases h;exact(uY (vs:=[.string (gi d 0).str,.string (gi d 1).str]) fun w=>(Proofs.Any.strings_Compare Tryz.QE (gi d 0).str (gi d 1).str w).mono fun e w' h=>⟨h.1,h.2▸Ext.refl w⟩) []
def t1:al:=t0.bF sa
theorem QP:ao P t1:=QN.aP QO
def wa(d:List G):Option (List G):=some [.i (G6 (gi d 0).str (gi d 1).int)]
def sb:aG:=⟨41,[.s (.str),.s (.int .u8)],[],[],[.s (.int .i64)],[],[],[],wa⟩
theorem QQ:∀ d r,wa d=some r→c9 P 41 (sb.args0 d) (ai (sb.H0 d)) (sb.out r) (ai (sb.H1 r)):=fun d r h=>by
 cases h;exact(uY (vs:=[.string (gi d 0).str,.int .u8 (gi d 1).int]) fun w=>(Proofs.Any.strings_IndexByte Tryz.QG (gi d 0).str (gi d 1).int w).mono fun e w' h=>⟨h.1,h.2▸Ext.refl w⟩) []
def t2:al:=t1.bF sb
theorem QR:ao P t2:=QP.aP QQ
def wb(d:List G):Option (List G):=bif (G7 (gi d 1).str&&(eM 2 (gi d 1).str.size&&(eg (gi d 1).str.size 4294967281&&(eM 1 (gi d 0).str.size&&eM (gi d 0).str.size 9223372036854775807)))) then some [.s (trimB (gi d 0).str (gi d 1).str)] else none
def sc:aG:=⟨42,[.s (.str),.s (.str)],[],[],[.s (.str)],[],[],[],wb⟩
theorem QS:∀ d r,wb d=some r→c9 P 42 (sc.args0 d) (ai (sc.H0 d)) (sc.out r) (ai (sc.H1 r)):=fun d r h=>by
 unfold wb at h;cases a:(G7 (gi d 1).str&&(eM 2 (gi d 1).str.size&&(eg (gi d 1).str.size 4294967281&&(eM 1 (gi d 0).str.size&&eM (gi d 0).str.size 9223372036854775807))))with
 |false=>rw[a]at h; cases h
 | true =>
  rw[a]at h;cases h;simp only[Bool.and_eq_true,fJ,Nat.ble_eq]at a;have g:(Tryz.prog.info? (Tryz.G5.t 116)).map (fun i=>(i.zero,i.size))=some (some (.agg (Array.replicate 256 (.bool false))),256):=by kernel_rfl
  exact(uY (vs:=[.string (gi d 0).str,.string (gi d 1).str]) fun w=>(Proofs.Any.strings_Trim_set Tryz.QH (zero_of_info g).1 (zero_of_info g).2 (gi d 0).str (gi d 1).str w a.2.1 a.2.2.2.1 a.2.2.2.2 a.2.2.1 fun j b k=>by
   have:=List.all_eq_true.1 a.1 b (List.mem_of_getElem? k);simpa[fJ]using this).mono fun _ _ h=>⟨h.1,by
    obtain⟨_,q,rfl⟩:=h;exact((Ext.push w _).trans (Ext.push _ _)).trans (Ext.drawn _ _ (Nat.le_add_right _ _))⟩) []
def t3:al:=t2.bF sc
theorem QT:ao P t3:=QR.aP QS
def G_(d:List G):Option (List G):=some [.i (G6 (gi d 0).str (gi d 1).int)]
def se:aG:=⟨59,[.s (.str),.s (.int .u8)],[],[],[.s (.int .i64)],[],[],[],G_⟩
theorem QU:∀ d r,G_ d=some r→c9 P 59 (se.args0 d) (ai (se.H0 d)) (se.out r) (ai (se.H1 r)):=fun d r h=>by
 cases h;exact(uY (vs:=[.string (gi d 0).str,.int .u8 (gi d 1).int]) fun w=>(Proofs.Any.stringslite_IndexByte Tryz.QJ (gi d 0).str (gi d 1).int w).mono fun e w' h=>⟨h.1,h.2▸Ext.refl w⟩) []
def t4:al:=t3.bF se
theorem G':ao P t4:=QT.aP QU
end
end Go.Proofs.jJ
