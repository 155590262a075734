/-
 What is proved here: functions of the program as functions on data. No condition.
-/
import Derived.Test.YtelglbbhbgjagaaGreatDoorMH
import Derived.Test.YtelglbbhbgjagaaGreatDoorChecked
import Derived.Test.YtelglbbhbgjagaaGreatDoorMV
import Derived.Test.YtelglbbhbgjagaaGreatDoorMQ
import Derived.Shelf.SortM.Plain
import Derived.Shelf.SortM.SortNone
import Derived.Shelf.Small.Strs
import Derived.Shelf.Strings.Search1
import Derived.Shelf.Strings.SlTrimAscii
namespace Go.AL
section
variable [Dr]
theorem TabOK.aP {P:Program} {τ:Tab} (h:TabOK P τ) {sp:FSpec} (hc:COK P sp) (hb:hasBody P sp.f=true:=by kernel_rfl) (hp:PureSp sp=true:=by kernel_rfl):TabOK P (τ.addP sp):=h.addP hb hp hc
theorem TabOK.aW {P:Program} {τ:Tab} (h:TabOK P τ) {sp:FSpec} (hc:COK P sp) (hb:hasBody P sp.f=true:=by kernel_rfl) (hp:EffSp sp=true:=by kernel_rfl):TabOK P (τ.addW sp):=h.addW hb hp hc
theorem LpK.a {P:Program} {τ:Tab} {m:Nat} {L:LT} (hm:P.follows .mixedOrders=true) (ht:TabOK P τ) {fn:Func} {sp:LSpec} (hL:LpK P m L (bodyOf fn)) (hr:RoundOK P τ L m (loopAt fn sp.key) sp) (hn:nodupB ((loopsIn (bodyOf fn)).map (·.1))=true:=by kernel_rfl):LpK P m (L.add m sp) (bodyOf fn):=LpK.add hm ht hn hL hr
theorem LpK.aC {P:Program} {τ:Tab} {m:Nat} {L:LT} (hm:P.follows .mixedOrders=true) (ht:TabOK P τ) {fn:Func} {sp:LSpec} (hL:LpK P m L (bodyOf fn)) (hr:CutOK P τ L m (cutAt fn sp.key) sp) (hn:oneKey sp.key (cutsIn (bodyOf fn))=true:=by kernel_rfl):LpK P m (L.addCut m sp) (bodyOf fn):=LpK.addCut hm ht hn hL hr
theorem bdC {P:Program} {τ:Tab} {L:LT} (hm:P.follows .mixedOrders=true) (ht:TabOK P τ) {sp:FSpec} {fn:Func} (hf:P.funcs[sp.f]? = some fn) (hL:LpK P sp.objs.length L (bodyOf fn)) (hB:BodyOK P τ L fn sp) (hb:fn.body.isSome=true:=by kernel_rfl) (hfr:fresh0 sp.objs=true:=by kernel_rfl):COK P sp:=bodyC hm ht hf hb hL hB hfr
end
end Go.AL
set_option linter.all false
namespace Go.Proofs
open Go.Shelf Go.RowKit
set_option maxHeartbeats 4000000
def Tryz.laysCompare_ren:Go.Shelf.Ren:=⟨fun | 106=>69 | 213=>105 | 265=>161 | n=>n,fun | 9=>9 | 3=>3 | n=>n,fun | n=>n⟩
theorem Tryz.laysCompare:Go.Proofs.Lays.n106 Tryz.prog Tryz.laysCompare_ren:={ mixed:=by kernel_rfl,f106:=Tryz.func69.trans (congrArg some (by kernel_rfl)),f213:=Tryz.func105.trans (congrArg some (by kernel_rfl)),f265:=Tryz.func161.trans (congrArg some (by kernel_rfl)),t3:=Tryz.underlying3,a3:=Tryz.isAgg3,z3:=Tryz.sizeOf3,v3:=Tryz.zeroValue3,t9:=Tryz.underlying9,a9:=Tryz.isAgg9,z9:=Tryz.sizeOf9,v9:=Tryz.zeroValue9 }
def Tryz.laysIndexByte_ren:Go.Shelf.Ren:=⟨fun | 137=>84 | 217=>124 | 266=>183 | n=>n,fun | 9=>9 | 5=>5 | 3=>3 | n=>n,fun | n=>n⟩
theorem Tryz.laysIndexByte:Go.Proofs.Lays.n137 Tryz.prog Tryz.laysIndexByte_ren:={ mixed:=by kernel_rfl,f137:=Tryz.func84.trans (congrArg some (by kernel_rfl)),f217:=Tryz.func124.trans (congrArg some (by kernel_rfl)),f266:=Tryz.func183.trans (congrArg some (by kernel_rfl)),t3:=Tryz.underlying3,a3:=Tryz.isAgg3,z3:=Tryz.sizeOf3,v3:=Tryz.zeroValue3,t5:=Tryz.underlying5,a5:=Tryz.isAgg5,z5:=Tryz.sizeOf5,v5:=Tryz.zeroValue5,t9:=Tryz.underlying9,a9:=Tryz.isAgg9,z9:=Tryz.sizeOf9,v9:=Tryz.zeroValue9 }
def Tryz.laysTrim_ren:Go.Shelf.Ren:=⟨fun | 160=>85 | 232=>126 | 231=>125 | 227=>127 | 234=>129 | 233=>128 | 236=>131 | 235=>130 | 228=>184 | 271=>187 | 151=>186 | 197=>185 | 120=>228 | 152=>227 | 260=>226 | 137=>84 | 119=>244 | 224=>245 | 225=>246 | 217=>124 | 266=>183 | n=>n,fun | 9=>9 | 4=>4 | 3=>3 | 5=>5 | 117=>164 | 116=>163 | 0=>0 | 124=>167 | 21=>21 | 105=>213 | 46=>138 | 119=>262 | 139=>265 | 138=>264 | n=>n,fun | 3=>1 | 4=>2 | n=>n⟩
theorem Tryz.laysTrim:Go.Proofs.Lays.n160 Tryz.prog Tryz.laysTrim_ren:={ mixed:=by kernel_rfl,f119:=Tryz.func244.trans (congrArg some (by kernel_rfl)),f120:=Tryz.func228.trans (congrArg some (by kernel_rfl)),f137:=Tryz.func84.trans (congrArg some (by kernel_rfl)),f151:=Tryz.func186.trans (congrArg some (by kernel_rfl)),f152:=Tryz.func227.trans (congrArg some (by kernel_rfl)),f160:=Tryz.func85.trans (congrArg some (by kernel_rfl)),f197:=Tryz.func185.trans (congrArg some (by kernel_rfl)),f217:=Tryz.func124.trans (congrArg some (by kernel_rfl)),f224:=Tryz.func245.trans (congrArg some (by kernel_rfl)),f225:=Tryz.func246.trans (congrArg some (by kernel_rfl)),f227:=Tryz.func127.trans (congrArg some (by kernel_rfl)),f228:=Tryz.func184.trans (congrArg some (by kernel_rfl)),f231:=Tryz.func125.trans (congrArg some (by kernel_rfl)),f232:=Tryz.func126.trans (congrArg some (by kernel_rfl)),f233:=Tryz.func128.trans (congrArg some (by kernel_rfl)),f234:=Tryz.func129.trans (congrArg some (by kernel_rfl)),f235:=Tryz.func130.trans (congrArg some (by kernel_rfl)),f236:=Tryz.func131.trans (congrArg some (by kernel_rfl)),f260:=Tryz.func226.trans (congrArg some (by kernel_rfl)),f266:=Tryz.func183.trans (congrArg some (by kernel_rfl)),f271:=Tryz.func187.trans (congrArg some (by kernel_rfl)),t0:=Tryz.underlying0,a0:=Tryz.isAgg0,z0:=Tryz.sizeOf0,v0:=Tryz.zeroValue0,t3:=Tryz.underlying3,a3:=Tryz.isAgg3,z3:=Tryz.sizeOf3,v3:=Tryz.zeroValue3,t4:=Tryz.underlying4,a4:=Tryz.isAgg4,z4:=Tryz.sizeOf4,v4:=Tryz.zeroValue4,t5:=Tryz.underlying5,a5:=Tryz.isAgg5,z5:=Tryz.sizeOf5,v5:=Tryz.zeroValue5,t9:=Tryz.underlying9,a9:=Tryz.isAgg9,z9:=Tryz.sizeOf9,v9:=Tryz.zeroValue9,t21:=Tryz.underlying21,a21:=Tryz.isAgg21,z21:=Tryz.sizeOf21,v21:=Tryz.zeroValue21,t46:=Tryz.underlying138,a46:=Tryz.isAgg138,z46:=Tryz.sizeOf138,v46:=Tryz.zeroValue138,t105:=Tryz.underlying213,a105:=Tryz.isAgg213,z105:=Tryz.sizeOf213,v105:=Tryz.zeroValue213,t116:=Tryz.underlying163,a116:=Tryz.isAgg163,z116:=Tryz.sizeOf163,t117:=Tryz.underlying164,a117:=Tryz.isAgg164,z117:=Tryz.sizeOf164,v117:=Tryz.zeroValue164,t119:=Tryz.underlying262,a119:=Tryz.isAgg262,z119:=Tryz.sizeOf262,t124:=Tryz.underlying167,a124:=Tryz.isAgg167,z124:=Tryz.sizeOf167,v124:=Tryz.zeroValue167,t138:=Tryz.underlying264,a138:=Tryz.isAgg264,z138:=Tryz.sizeOf264,v138:=Tryz.zeroValue264,t139:=Tryz.underlying265,a139:=Tryz.isAgg265,z139:=Tryz.sizeOf265,v139:=Tryz.zeroValue265,g3:=by kernel_rfl,g4:=by kernel_rfl }
def Tryz.laysSlIndexByte_ren:Go.Shelf.Ren:=⟨fun | 217=>124 | 266=>183 | n=>n,fun | 9=>9 | 5=>5 | 3=>3 | n=>n,fun | n=>n⟩
theorem Tryz.laysSlIndexByte:Go.Proofs.Lays.n217 Tryz.prog Tryz.laysSlIndexByte_ren:={ mixed:=by kernel_rfl,f217:=Tryz.func124.trans (congrArg some (by kernel_rfl)),f266:=Tryz.func183.trans (congrArg some (by kernel_rfl)),t3:=Tryz.underlying3,a3:=Tryz.isAgg3,z3:=Tryz.sizeOf3,v3:=Tryz.zeroValue3,t5:=Tryz.underlying5,a5:=Tryz.isAgg5,z5:=Tryz.sizeOf5,v5:=Tryz.zeroValue5,t9:=Tryz.underlying9,a9:=Tryz.isAgg9,z9:=Tryz.sizeOf9,v9:=Tryz.zeroValue9 }
def Tryz.laysSort74_ren:Go.Shelf.Ren:=⟨fun | 6=>74 | 15=>94 | 14=>113 | 28=>152 | 29=>153 | 20=>163 | 21=>164 | 22=>165 | 23=>166 | 24=>167 | 25=>168 | 26=>169 | 27=>170 | 46=>216 | 47=>205 | 48=>206 | 49=>217 | 50=>218 | 57=>238 | n=>n,fun | 22=>54 | 24=>60 | 25=>105 | 3=>3 | 39=>138 | 0=>0 | 53=>186 | 55=>188 | 4=>4 | 46=>179 | 45=>178 | 50=>170 | 5=>5 | 9=>9 | 66=>225 | 70=>229 | 76=>251 | 77=>252 | n=>n,fun | n=>n⟩
theorem Tryz.laysSort74:Go.Proofs.SlLaysF0.n6 Tryz.prog Tryz.laysSort74_ren:={ mixed:=by kernel_rfl,f6:=⟨Tryz.f74.name,by kernel_rfl,Tryz.func74.trans (congrArg some (by kernel_rfl))⟩,f14:=⟨Tryz.f113.name,by kernel_rfl,Tryz.func113.trans (congrArg some (by kernel_rfl))⟩,f15:=Tryz.func94.trans (congrArg some (by kernel_rfl)),f20:=⟨Tryz.f163.name,by kernel_rfl,Tryz.func163.trans (congrArg some (by kernel_rfl))⟩,f21:=⟨Tryz.f164.name,by kernel_rfl,Tryz.func164.trans (congrArg some (by kernel_rfl))⟩,f22:=⟨Tryz.f165.name,by kernel_rfl,Tryz.func165.trans (congrArg some (by kernel_rfl))⟩,f23:=⟨Tryz.f166.name,by kernel_rfl,Tryz.func166.trans (congrArg some (by kernel_rfl))⟩,f24:=⟨Tryz.f167.name,by kernel_rfl,Tryz.func167.trans (congrArg some (by kernel_rfl))⟩,f25:=⟨Tryz.f168.name,by kernel_rfl,Tryz.func168.trans (congrArg some (by kernel_rfl))⟩,f26:=⟨Tryz.f169.name,by kernel_rfl,Tryz.func169.trans (congrArg some (by kernel_rfl))⟩,f27:=⟨Tryz.f170.name,by kernel_rfl,Tryz.func170.trans (congrArg some (by kernel_rfl))⟩,f28:=Tryz.func152.trans (congrArg some (by kernel_rfl)),f29:=Tryz.func153.trans (congrArg some (by kernel_rfl)),f46:=⟨Tryz.f216.name,by kernel_rfl,Tryz.func216.trans (congrArg some (by kernel_rfl))⟩,f47:=Tryz.func205.trans (congrArg some (by kernel_rfl)),f48:=Tryz.func206.trans (congrArg some (by kernel_rfl)),f49:=⟨Tryz.f217.name,by kernel_rfl,Tryz.func217.trans (congrArg some (by kernel_rfl))⟩,f50:=⟨Tryz.f218.name,by kernel_rfl,Tryz.func218.trans (congrArg some (by kernel_rfl))⟩,f57:=⟨Tryz.f238.name,by kernel_rfl,Tryz.func238.trans (congrArg some (by kernel_rfl))⟩,t0:=Tryz.underlying0,a0:=Tryz.isAgg0,z0:=Tryz.sizeOf0,v0:=Tryz.zeroValue0,t3:=Tryz.underlying3,a3:=Tryz.isAgg3,z3:=Tryz.sizeOf3,v3:=Tryz.zeroValue3,t4:=Tryz.underlying4,a4:=Tryz.isAgg4,z4:=Tryz.sizeOf4,v4:=Tryz.zeroValue4,t5:=Tryz.underlying5,a5:=Tryz.isAgg5,z5:=Tryz.sizeOf5,v5:=Tryz.zeroValue5,t9:=Tryz.underlying9,a9:=Tryz.isAgg9,z9:=Tryz.sizeOf9,v9:=Tryz.zeroValue9,t22:=Tryz.underlying54,a22:=Tryz.isAgg54,z22:=Tryz.sizeOf54,v22:=Tryz.zeroValue54,t25:=Tryz.underlying105,a25:=Tryz.isAgg105,z25:=Tryz.sizeOf105,v25:=Tryz.zeroValue105,t39:=Tryz.underlying138,a39:=Tryz.isAgg138,z39:=Tryz.sizeOf138,v39:=Tryz.zeroValue138,t45:=Tryz.underlying178,a45:=Tryz.isAgg178,z45:=Tryz.sizeOf178,v45:=Tryz.zeroValue178,t46:=Tryz.underlying179,a46:=Tryz.isAgg179,z46:=Tryz.sizeOf179,v46:=Tryz.zeroValue179,t50:=Tryz.underlying170,a50:=Tryz.isAgg170,z50:=Tryz.sizeOf170,v50:=Tryz.zeroValue170,t53:=Tryz.underlying186,a53:=Tryz.isAgg186,z53:=Tryz.sizeOf186,v53:=Tryz.zeroValue186,t55:=Tryz.underlying188,a55:=Tryz.isAgg188,z55:=Tryz.sizeOf188,v55:=Tryz.zeroValue188,t66:=Tryz.underlying225,a66:=Tryz.isAgg225,z66:=Tryz.sizeOf225,v66:=Tryz.zeroValue225,t70:=Tryz.underlying229,a70:=Tryz.isAgg229,z70:=Tryz.sizeOf229,v70:=Tryz.zeroValue229,t76:=Tryz.underlying251,a76:=Tryz.isAgg251,z76:=Tryz.sizeOf251,v76:=Tryz.zeroValue251,t77:=Tryz.underlying252,a77:=Tryz.isAgg252,z77:=Tryz.sizeOf252,v77:=Tryz.zeroValue252 }
def Tryz.laysSortI51_ren:Go.Shelf.Ren:=⟨fun | 5=>51 | 8=>94 | 7=>93 | 19=>152 | 20=>153 | 10=>143 | 11=>144 | 12=>145 | 13=>146 | 14=>147 | 15=>148 | 16=>149 | 17=>150 | 18=>151 | 30=>204 | 31=>205 | 32=>206 | 33=>207 | 34=>208 | 35=>133 | 40=>234 | n=>n,fun | 23=>22 | 25=>3 | 3=>3 | 32=>138 | 22=>22 | 0=>0 | 44=>186 | 46=>188 | 4=>4 | 36=>179 | 35=>178 | 41=>170 | 5=>5 | 9=>9 | 53=>225 | 57=>229 | 63=>251 | 64=>252 | n=>n,fun | n=>n⟩
theorem Tryz.laysSortI51:Go.Proofs.SlLaysM.n5 Tryz.prog Tryz.laysSortI51_ren:={ mixed:=by kernel_rfl,f5:=⟨Tryz.f51.name,by kernel_rfl,Tryz.func51.trans (congrArg some (by kernel_rfl))⟩,f7:=⟨Tryz.f93.name,by kernel_rfl,Tryz.func93.trans (congrArg some (by kernel_rfl))⟩,f8:=Tryz.func94.trans (congrArg some (by kernel_rfl)),f10:=⟨Tryz.f143.name,by kernel_rfl,Tryz.func143.trans (congrArg some (by kernel_rfl))⟩,f11:=⟨Tryz.f144.name,by kernel_rfl,Tryz.func144.trans (congrArg some (by kernel_rfl))⟩,f12:=⟨Tryz.f145.name,by kernel_rfl,Tryz.func145.trans (congrArg some (by kernel_rfl))⟩,f13:=⟨Tryz.f146.name,by kernel_rfl,Tryz.func146.trans (congrArg some (by kernel_rfl))⟩,f14:=⟨Tryz.f147.name,by kernel_rfl,Tryz.func147.trans (congrArg some (by kernel_rfl))⟩,f15:=⟨Tryz.f148.name,by kernel_rfl,Tryz.func148.trans (congrArg some (by kernel_rfl))⟩,f16:=⟨Tryz.f149.name,by kernel_rfl,Tryz.func149.trans (congrArg some (by kernel_rfl))⟩,f17:=⟨Tryz.f150.name,by kernel_rfl,Tryz.func150.trans (congrArg some (by kernel_rfl))⟩,f18:=⟨Tryz.f151.name,by kernel_rfl,Tryz.func151.trans (congrArg some (by kernel_rfl))⟩,f19:=Tryz.func152.trans (congrArg some (by kernel_rfl)),f20:=Tryz.func153.trans (congrArg some (by kernel_rfl)),f30:=⟨Tryz.f204.name,by kernel_rfl,Tryz.func204.trans (congrArg some (by kernel_rfl))⟩,f31:=Tryz.func205.trans (congrArg some (by kernel_rfl)),f32:=Tryz.func206.trans (congrArg some (by kernel_rfl)),f33:=⟨Tryz.f207.name,by kernel_rfl,Tryz.func207.trans (congrArg some (by kernel_rfl))⟩,f34:=⟨Tryz.f208.name,by kernel_rfl,Tryz.func208.trans (congrArg some (by kernel_rfl))⟩,f35:=⟨Tryz.f133.name,by kernel_rfl,Tryz.func133.trans (congrArg some (by kernel_rfl))⟩,f40:=⟨Tryz.f234.name,by kernel_rfl,Tryz.func234.trans (congrArg some (by kernel_rfl))⟩,t0:=Tryz.underlying0,a0:=Tryz.isAgg0,z0:=Tryz.sizeOf0,v0:=Tryz.zeroValue0,t3:=Tryz.underlying3,a3:=Tryz.isAgg3,z3:=Tryz.sizeOf3,v3:=Tryz.zeroValue3,t4:=Tryz.underlying4,a4:=Tryz.isAgg4,z4:=Tryz.sizeOf4,v4:=Tryz.zeroValue4,t5:=Tryz.underlying5,a5:=Tryz.isAgg5,z5:=Tryz.sizeOf5,v5:=Tryz.zeroValue5,t9:=Tryz.underlying9,a9:=Tryz.isAgg9,z9:=Tryz.sizeOf9,v9:=Tryz.zeroValue9,t22:=Tryz.underlying22,a22:=Tryz.isAgg22,z22:=Tryz.sizeOf22,v22:=Tryz.zeroValue22,t23:=Tryz.underlying22,a23:=Tryz.isAgg22,z23:=Tryz.sizeOf22,v23:=Tryz.zeroValue22,t25:=Tryz.underlying3,a25:=Tryz.isAgg3,z25:=Tryz.sizeOf3,v25:=Tryz.zeroValue3,t32:=Tryz.underlying138,a32:=Tryz.isAgg138,z32:=Tryz.sizeOf138,v32:=Tryz.zeroValue138,t35:=Tryz.underlying178,a35:=Tryz.isAgg178,z35:=Tryz.sizeOf178,v35:=Tryz.zeroValue178,t36:=Tryz.underlying179,a36:=Tryz.isAgg179,z36:=Tryz.sizeOf179,v36:=Tryz.zeroValue179,t41:=Tryz.underlying170,a41:=Tryz.isAgg170,z41:=Tryz.sizeOf170,v41:=Tryz.zeroValue170,t44:=Tryz.underlying186,a44:=Tryz.isAgg186,z44:=Tryz.sizeOf186,v44:=Tryz.zeroValue186,t46:=Tryz.underlying188,a46:=Tryz.isAgg188,z46:=Tryz.sizeOf188,v46:=Tryz.zeroValue188,t53:=Tryz.underlying225,a53:=Tryz.isAgg225,z53:=Tryz.sizeOf225,v53:=Tryz.zeroValue225,t57:=Tryz.underlying229,a57:=Tryz.isAgg229,z57:=Tryz.sizeOf229,v57:=Tryz.zeroValue229,t63:=Tryz.underlying251,a63:=Tryz.isAgg251,z63:=Tryz.sizeOf251,v63:=Tryz.zeroValue251,t64:=Tryz.underlying252,a64:=Tryz.isAgg252,z64:=Tryz.sizeOf252,v64:=Tryz.zeroValue252 }
end Go.Proofs
namespace Go.Proofs.SYtelglbbhbgjagaaGreatDoor
open Go Go.AL Go.Proofs
noncomputable section
abbrev P:Program:=Tryz.prog
attribute [instance] drT
theorem hm:P.follows .mixedOrders=true:=Tryz.checked.mixed
def cmpS (a b:ByteArray):Int:=Lib.compareBytes a.data.toList b.data.toList
def idxB (s:ByteArray) (c:Int):Int:=Lib.indexByte s.data.toList c.toNat.toUInt8
def trimB (s cut:ByteArray):ByteArray:=⟨(Lib.trimS s.data.toList cut.data.toList).toArray⟩
def ascii (cut:ByteArray):Bool:=cut.data.toList.all fun b=>Nat.blt b.toNat 128
def eqS (a b:ByteArray):Bool:=a.data.toList==b.data.toList
theorem eqS_eq {a b:ByteArray} (h:eqS a b=true):a=b:=by
 unfold eqS at h
 rw [beq_iff_eq] at h
 cases a with
 | mk a =>
  cases b with
  | mk b =>
   congr 1
   exact Array.ext' h
def lookS {α:Type}:List (ByteArray × α)→ByteArray→Option α
 | [],_=>none
 | (k,v)::l,s=>bif eqS k s then some v else lookS l s
theorem lookS_mem {α:Type} {s:ByteArray} {v:α}:∀ {l:List (ByteArray × α)},lookS l s=some v→(s,v)∈l
 | [],h=>by cases h
 | (k,u)::l,h=>by
  simp only [lookS] at h
  cases hk:eqS k s with
  | true =>
   rw [hk] at h
   cases h
   rw [eqS_eq hk]
   exact List.mem_cons_self
  | false =>
   rw [hk] at h
   exact List.mem_cons_of_mem _ (lookS_mem h)
abbrev KPlace:List Kd:=[.int .i64,.int .i64,.str]
abbrev KCard:List Kd:=[.int .i64,.int .i64,.int .i64,.str,.str]
abbrev KMember:List Kd:=[.str,.str,.int .i64,.str]
abbrev KCt:List Kd:=[.int .i64,.int .i64,.str,.str,.int .i64,.int .i64,.str,.str]
abbrev KSegment:List Kd:=[.str,.int .i64,.int .i64,.list [.int .i64],.int .i64,.int .i64]
abbrev KDeed:List Kd:=[.str,.int .i64,.int .i64,.int .i64,.int .i64,.int .i64,.str,.str,.int .i64,.int .i64,.str,.str,.str,.str,.int .i64]
abbrev KParts:List Kd:=[.str,.str,.str,.int .i64,.str]
def t0:Tab:=tabM []
theorem t0_ok:TabOK P t0:=tabM_ok P _
def F_strings_Compare (d:List G):Option (List G):=some [.i (cmpS (gi d 0).str (gi d 1).str)]
def s_strings_Compare:FSpec:=⟨69,[.s (.str),.s (.str)],[],[],[.s (.int .i64)],[],[],[],F_strings_Compare⟩
theorem c_strings_Compare:∀ d r,F_strings_Compare d=some r→ACallX P 69 (s_strings_Compare.args0 d) (denH (s_strings_Compare.H0 d)) (s_strings_Compare.out r) (denH (s_strings_Compare.H1 r)):=fun d r h=>by
 cases h
 exact (pcall_lits (vs:=[.string (gi d 0).str,.string (gi d 1).str]) fun w=>(Proofs.Any.strings_Compare Tryz.laysCompare (gi d 0).str (gi d 1).str w).mono fun e w' h=>⟨h.1,h.2▸Ext.refl w⟩) []
def t1:Tab:=t0.addP s_strings_Compare
theorem t1_ok:TabOK P t1:=t0_ok.aP c_strings_Compare
def F_strings_IndexByte (d:List G):Option (List G):=some [.i (idxB (gi d 0).str (gi d 1).int)]
def s_strings_IndexByte:FSpec:=⟨84,[.s (.str),.s (.int .u8)],[],[],[.s (.int .i64)],[],[],[],F_strings_IndexByte⟩
theorem c_strings_IndexByte:∀ d r,F_strings_IndexByte d=some r→ACallX P 84 (s_strings_IndexByte.args0 d) (denH (s_strings_IndexByte.H0 d)) (s_strings_IndexByte.out r) (denH (s_strings_IndexByte.H1 r)):=fun d r h=>by
 cases h
 exact (pcall_lits (vs:=[.string (gi d 0).str,.int .u8 (gi d 1).int]) fun w=>(Proofs.Any.strings_IndexByte Tryz.laysIndexByte (gi d 0).str (gi d 1).int w).mono fun e w' h=>⟨h.1,h.2▸Ext.refl w⟩) []
def t2:Tab:=t1.addP s_strings_IndexByte
theorem t2_ok:TabOK P t2:=t1_ok.aP c_strings_IndexByte
def F_strings_Trim (d:List G):Option (List G):=bif (ascii (gi d 1).str&&(Nat.ble 2 (gi d 1).str.size&&(Nat.blt (gi d 1).str.size 4294967281&&(Nat.ble 1 (gi d 0).str.size&&Nat.ble (gi d 0).str.size 9223372036854775807)))) then some [.s (trimB (gi d 0).str (gi d 1).str)] else none
def s_strings_Trim:FSpec:=⟨85,[.s (.str),.s (.str)],[],[],[.s (.str)],[],[],[],F_strings_Trim⟩
theorem c_strings_Trim:∀ d r,F_strings_Trim d=some r→ACallX P 85 (s_strings_Trim.args0 d) (denH (s_strings_Trim.H0 d)) (s_strings_Trim.out r) (denH (s_strings_Trim.H1 r)):=fun d r h=>by
 unfold F_strings_Trim at h
 cases hb:(ascii (gi d 1).str&&(Nat.ble 2 (gi d 1).str.size&&(Nat.blt (gi d 1).str.size 4294967281&&(Nat.ble 1 (gi d 0).str.size&&Nat.ble (gi d 0).str.size 9223372036854775807)))) with
 | false=>rw [hb] at h; cases h
 | true =>
  rw [hb] at h
  cases h
  simp only [Bool.and_eq_true,Nat.blt_eq,Nat.ble_eq] at hb
  have hz:(Tryz.prog.info? (Tryz.laysTrim_ren.t 116)).map (fun i=>(i.zero,i.size))=some (some (.agg (Array.replicate 256 (.bool false))),256):=by kernel_rfl
  exact (pcall_lits (vs:=[.string (gi d 0).str,.string (gi d 1).str]) fun w=>(Proofs.Any.strings_Trim_set Tryz.laysTrim (zero_of_info hz).1 (zero_of_info hz).2 (gi d 0).str (gi d 1).str w hb.2.1 hb.2.2.2.1 hb.2.2.2.2 hb.2.2.1 fun j b hj=>by
   have:=List.all_eq_true.1 hb.1 b (List.mem_of_getElem? hj)
   simpa [Nat.blt_eq] using this).mono fun _ _ h=>⟨h.1,by
    obtain ⟨_,q,rfl⟩:=h
    exact ((Ext.push w _).trans (Ext.push _ _)).trans (Ext.drawn _ _ (Nat.le_add_right _ _))⟩) []
def t3:Tab:=t2.addP s_strings_Trim
theorem t3_ok:TabOK P t3:=t2_ok.aP c_strings_Trim
def F_stringslite_IndexByte (d:List G):Option (List G):=some [.i (idxB (gi d 0).str (gi d 1).int)]
def s_stringslite_IndexByte:FSpec:=⟨124,[.s (.str),.s (.int .u8)],[],[],[.s (.int .i64)],[],[],[],F_stringslite_IndexByte⟩
theorem c_stringslite_IndexByte:∀ d r,F_stringslite_IndexByte d=some r→ACallX P 124 (s_stringslite_IndexByte.args0 d) (denH (s_stringslite_IndexByte.H0 d)) (s_stringslite_IndexByte.out r) (denH (s_stringslite_IndexByte.H1 r)):=fun d r h=>by
 cases h
 exact (pcall_lits (vs:=[.string (gi d 0).str,.int .u8 (gi d 1).int]) fun w=>(Proofs.Any.stringslite_IndexByte Tryz.laysSlIndexByte (gi d 0).str (gi d 1).int w).mono fun e w' h=>⟨h.1,h.2▸Ext.refl w⟩) []
def t4:Tab:=t3.addP s_stringslite_IndexByte
theorem t4_ok:TabOK P t4:=t3_ok.aP c_stringslite_IndexByte
end
end Go.Proofs.SYtelglbbhbgjagaaGreatDoor
