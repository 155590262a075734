/-
 What is proved here: functions of the program as functions on data. No condition.
-/
import Derived.Test.YtioeckojljemcaaGreatDoorMH
import Derived.Test.YtioeckojljemcaaGreatDoorChecked
import Derived.Shelf.Small.Strs
import Derived.Shelf.Strings.Search1
import Derived.Shelf.Strings.SlTrimAscii
namespace Go.AL
section
variable [Dr]
theorem TabOK.aP {P:Program} {τ:Tab} (h:TabOK P τ) {sp:FSpec} (hc:COK P sp) (hb:hasBody P sp.f=true:=by kernel_rfl) (hp:PureSp sp=true:=by kernel_rfl):TabOK P (τ.addP sp):=h.addP hb hp hc
theorem TabOK.aW {P:Program} {τ:Tab} (h:TabOK P τ) {sp:FSpec} (hc:COK P sp) (hb:hasBody P sp.f=true:=by kernel_rfl) (hp:EffSp sp=true:=by kernel_rfl):TabOK P (τ.addW sp):=h.addW hb hp hc
theorem LpK.a {P:Program} {τ:Tab} {m:Nat} {L:LT} (hm:P.follows .mixedOrders=true) (ht:TabOK P τ) {fn:Func} {sp:LSpec} (hL:LpK P m L (bodyOf fn)) (hr:RoundOK P τ L m (loopAt fn sp.key) sp) (hn:nodupB ((loopsIn (bodyOf fn)).map (·.1))=true:=by kernel_rfl):LpK P m (L.add m sp) (bodyOf fn):=LpK.add hm ht hn hL hr
theorem LpK.aC {P:Program} {τ:Tab} {m:Nat} {L:LT} (hm:P.follows .mixedOrders=true) (ht:TabOK P τ) {fn:Func} {sp:LSpec} (hL:LpK P m L (bodyOf fn)) (hr:CutOK P τ L m (cutAt fn sp.key) sp) (hn:oneKey sp.key (cutsIn (bodyOf fn))=true:=by kernel_rfl):LpK P m (L.addCut m sp) (bodyOf fn):=LpK.addCut hm ht hn hL hr
theorem bdC {P:Program} {τ:Tab} {L:LT} (hm:P.follows .mixedOrders=true) (ht:TabOK P τ) {sp:FSpec} {fn:Func} (hf:P.funcs[sp.f]? = some fn) (hL:LpK P sp.objs.length L (bodyOf fn)) (hB:BodyOK P τ L fn sp) (hb:fn.body.isSome=true:=by kernel_rfl) (hfr:fresh0 sp.objs=true:=by kernel_rfl):COK P sp:=bodyC hm ht hf hb hL hB hfr
end
end Go.AL
set_option linter.all false
namespace Go.Proofs
open Go.Shelf Go.RowKit
set_option maxHeartbeats 4000000
def Tryz.laysCompare_ren:Go.Shelf.Ren:=⟨fun | 106=>34 | 213=>62 | 265=>97 | n=>n,fun | 9=>9 | 3=>3 | n=>n,fun | n=>n⟩
theorem Tryz.laysCompare:Go.Proofs.Lays.n106 Tryz.prog Tryz.laysCompare_ren:={ mixed:=by kernel_rfl,f106:=Tryz.func34.trans (congrArg some (by kernel_rfl)),f213:=Tryz.func62.trans (congrArg some (by kernel_rfl)),f265:=Tryz.func97.trans (congrArg some (by kernel_rfl)),t3:=Tryz.underlying3,a3:=Tryz.isAgg3,z3:=Tryz.sizeOf3,v3:=Tryz.zeroValue3,t9:=Tryz.underlying9,a9:=Tryz.isAgg9,z9:=Tryz.sizeOf9,v9:=Tryz.zeroValue9 }
def Tryz.laysIndexByte_ren:Go.Shelf.Ren:=⟨fun | 137=>76 | 217=>109 | 266=>149 | n=>n,fun | 9=>9 | 5=>5 | 3=>3 | n=>n,fun | n=>n⟩
theorem Tryz.laysIndexByte:Go.Proofs.Lays.n137 Tryz.prog Tryz.laysIndexByte_ren:={ mixed:=by kernel_rfl,f137:=Tryz.func76.trans (congrArg some (by kernel_rfl)),f217:=Tryz.func109.trans (congrArg some (by kernel_rfl)),f266:=Tryz.func149.trans (congrArg some (by kernel_rfl)),t3:=Tryz.underlying3,a3:=Tryz.isAgg3,z3:=Tryz.sizeOf3,v3:=Tryz.zeroValue3,t5:=Tryz.underlying5,a5:=Tryz.isAgg5,z5:=Tryz.sizeOf5,v5:=Tryz.zeroValue5,t9:=Tryz.underlying9,a9:=Tryz.isAgg9,z9:=Tryz.sizeOf9,v9:=Tryz.zeroValue9 }
def Tryz.laysTrim_ren:Go.Shelf.Ren:=⟨fun | 160=>77 | 232=>111 | 231=>110 | 227=>112 | 234=>114 | 233=>113 | 236=>116 | 235=>115 | 228=>142 | 271=>143 | 151=>151 | 197=>150 | 120=>174 | 152=>140 | 260=>178 | 137=>76 | 119=>173 | 224=>171 | 225=>170 | 217=>109 | 266=>149 | n=>n,fun | 9=>9 | 4=>4 | 3=>3 | 5=>5 | 117=>155 | 116=>154 | 0=>0 | 124=>158 | 21=>21 | 105=>185 | 46=>150 | 119=>222 | 139=>225 | 138=>224 | n=>n,fun | 3=>1 | 4=>2 | n=>n⟩
theorem Tryz.laysTrim:Go.Proofs.Lays.n160 Tryz.prog Tryz.laysTrim_ren:={ mixed:=by kernel_rfl,f119:=Tryz.func173.trans (congrArg some (by kernel_rfl)),f120:=Tryz.func174.trans (congrArg some (by kernel_rfl)),f137:=Tryz.func76.trans (congrArg some (by kernel_rfl)),f151:=Tryz.func151.trans (congrArg some (by kernel_rfl)),f152:=Tryz.func140.trans (congrArg some (by kernel_rfl)),f160:=Tryz.func77.trans (congrArg some (by kernel_rfl)),f197:=Tryz.func150.trans (congrArg some (by kernel_rfl)),f217:=Tryz.func109.trans (congrArg some (by kernel_rfl)),f224:=Tryz.func171.trans (congrArg some (by kernel_rfl)),f225:=Tryz.func170.trans (congrArg some (by kernel_rfl)),f227:=Tryz.func112.trans (congrArg some (by kernel_rfl)),f228:=Tryz.func142.trans (congrArg some (by kernel_rfl)),f231:=Tryz.func110.trans (congrArg some (by kernel_rfl)),f232:=Tryz.func111.trans (congrArg some (by kernel_rfl)),f233:=Tryz.func113.trans (congrArg some (by kernel_rfl)),f234:=Tryz.func114.trans (congrArg some (by kernel_rfl)),f235:=Tryz.func115.trans (congrArg some (by kernel_rfl)),f236:=Tryz.func116.trans (congrArg some (by kernel_rfl)),f260:=Tryz.func178.trans (congrArg some (by kernel_rfl)),f266:=Tryz.func149.trans (congrArg some (by kernel_rfl)),f271:=Tryz.func143.trans (congrArg some (by kernel_rfl)),t0:=Tryz.underlying0,a0:=Tryz.isAgg0,z0:=Tryz.sizeOf0,v0:=Tryz.zeroValue0,t3:=Tryz.underlying3,a3:=Tryz.isAgg3,z3:=Tryz.sizeOf3,v3:=Tryz.zeroValue3,t4:=Tryz.underlying4,a4:=Tryz.isAgg4,z4:=Tryz.sizeOf4,v4:=Tryz.zeroValue4,t5:=Tryz.underlying5,a5:=Tryz.isAgg5,z5:=Tryz.sizeOf5,v5:=Tryz.zeroValue5,t9:=Tryz.underlying9,a9:=Tryz.isAgg9,z9:=Tryz.sizeOf9,v9:=Tryz.zeroValue9,t21:=Tryz.underlying21,a21:=Tryz.isAgg21,z21:=Tryz.sizeOf21,v21:=Tryz.zeroValue21,t46:=Tryz.underlying150,a46:=Tryz.isAgg150,z46:=Tryz.sizeOf150,v46:=Tryz.zeroValue150,t105:=Tryz.underlying185,a105:=Tryz.isAgg185,z105:=Tryz.sizeOf185,v105:=Tryz.zeroValue185,t116:=Tryz.underlying154,a116:=Tryz.isAgg154,z116:=Tryz.sizeOf154,t117:=Tryz.underlying155,a117:=Tryz.isAgg155,z117:=Tryz.sizeOf155,v117:=Tryz.zeroValue155,t119:=Tryz.underlying222,a119:=Tryz.isAgg222,z119:=Tryz.sizeOf222,t124:=Tryz.underlying158,a124:=Tryz.isAgg158,z124:=Tryz.sizeOf158,v124:=Tryz.zeroValue158,t138:=Tryz.underlying224,a138:=Tryz.isAgg224,z138:=Tryz.sizeOf224,v138:=Tryz.zeroValue224,t139:=Tryz.underlying225,a139:=Tryz.isAgg225,z139:=Tryz.sizeOf225,v139:=Tryz.zeroValue225,g3:=by kernel_rfl,g4:=by kernel_rfl }
def Tryz.laysSlIndexByte_ren:Go.Shelf.Ren:=⟨fun | 217=>109 | 266=>149 | n=>n,fun | 9=>9 | 5=>5 | 3=>3 | n=>n,fun | n=>n⟩
theorem Tryz.laysSlIndexByte:Go.Proofs.Lays.n217 Tryz.prog Tryz.laysSlIndexByte_ren:={ mixed:=by kernel_rfl,f217:=Tryz.func109.trans (congrArg some (by kernel_rfl)),f266:=Tryz.func149.trans (congrArg some (by kernel_rfl)),t3:=Tryz.underlying3,a3:=Tryz.isAgg3,z3:=Tryz.sizeOf3,v3:=Tryz.zeroValue3,t5:=Tryz.underlying5,a5:=Tryz.isAgg5,z5:=Tryz.sizeOf5,v5:=Tryz.zeroValue5,t9:=Tryz.underlying9,a9:=Tryz.isAgg9,z9:=Tryz.sizeOf9,v9:=Tryz.zeroValue9 }
def Tryz.laysSort58_ren:Go.Shelf.Ren:=⟨fun | 6=>58 | 15=>95 | 14=>94 | 28=>136 | 29=>137 | 20=>128 | 21=>129 | 22=>130 | 23=>131 | 24=>132 | 25=>133 | 26=>134 | 27=>135 | 46=>165 | 47=>166 | 48=>167 | 49=>168 | 50=>169 | 57=>192 | n=>n,fun | 22=>35 | 24=>40 | 25=>119 | 3=>3 | 39=>150 | 0=>0 | 53=>180 | 55=>182 | 4=>4 | 46=>174 | 45=>173 | 50=>146 | 5=>5 | 9=>9 | 66=>201 | 70=>205 | 76=>217 | 77=>218 | n=>n,fun | n=>n⟩
theorem Tryz.laysSort58:Go.Proofs.SlLaysF0.n6 Tryz.prog Tryz.laysSort58_ren:={ mixed:=by kernel_rfl,f6:=⟨Tryz.f58.name,by kernel_rfl,Tryz.func58.trans (congrArg some (by kernel_rfl))⟩,f14:=⟨Tryz.f94.name,by kernel_rfl,Tryz.func94.trans (congrArg some (by kernel_rfl))⟩,f15:=Tryz.func95.trans (congrArg some (by kernel_rfl)),f20:=⟨Tryz.f128.name,by kernel_rfl,Tryz.func128.trans (congrArg some (by kernel_rfl))⟩,f21:=⟨Tryz.f129.name,by kernel_rfl,Tryz.func129.trans (congrArg some (by kernel_rfl))⟩,f22:=⟨Tryz.f130.name,by kernel_rfl,Tryz.func130.trans (congrArg some (by kernel_rfl))⟩,f23:=⟨Tryz.f131.name,by kernel_rfl,Tryz.func131.trans (congrArg some (by kernel_rfl))⟩,f24:=⟨Tryz.f132.name,by kernel_rfl,Tryz.func132.trans (congrArg some (by kernel_rfl))⟩,f25:=⟨Tryz.f133.name,by kernel_rfl,Tryz.func133.trans (congrArg some (by kernel_rfl))⟩,f26:=⟨Tryz.f134.name,by kernel_rfl,Tryz.func134.trans (congrArg some (by kernel_rfl))⟩,f27:=⟨Tryz.f135.name,by kernel_rfl,Tryz.func135.trans (congrArg some (by kernel_rfl))⟩,f28:=Tryz.func136.trans (congrArg some (by kernel_rfl)),f29:=Tryz.func137.trans (congrArg some (by kernel_rfl)),f46:=⟨Tryz.f165.name,by kernel_rfl,Tryz.func165.trans (congrArg some (by kernel_rfl))⟩,f47:=Tryz.func166.trans (congrArg some (by kernel_rfl)),f48:=Tryz.func167.trans (congrArg some (by kernel_rfl)),f49:=⟨Tryz.f168.name,by kernel_rfl,Tryz.func168.trans (congrArg some (by kernel_rfl))⟩,f50:=⟨Tryz.f169.name,by kernel_rfl,Tryz.func169.trans (congrArg some (by kernel_rfl))⟩,f57:=⟨Tryz.f192.name,by kernel_rfl,Tryz.func192.trans (congrArg some (by kernel_rfl))⟩,t0:=Tryz.underlying0,a0:=Tryz.isAgg0,z0:=Tryz.sizeOf0,v0:=Tryz.zeroValue0,t3:=Tryz.underlying3,a3:=Tryz.isAgg3,z3:=Tryz.sizeOf3,v3:=Tryz.zeroValue3,t4:=Tryz.underlying4,a4:=Tryz.isAgg4,z4:=Tryz.sizeOf4,v4:=Tryz.zeroValue4,t5:=Tryz.underlying5,a5:=Tryz.isAgg5,z5:=Tryz.sizeOf5,v5:=Tryz.zeroValue5,t9:=Tryz.underlying9,a9:=Tryz.isAgg9,z9:=Tryz.sizeOf9,v9:=Tryz.zeroValue9,t22:=Tryz.underlying35,a22:=Tryz.isAgg35,z22:=Tryz.sizeOf35,v22:=Tryz.zeroValue35,t25:=Tryz.underlying119,a25:=Tryz.isAgg119,z25:=Tryz.sizeOf119,v25:=Tryz.zeroValue119,t39:=Tryz.underlying150,a39:=Tryz.isAgg150,z39:=Tryz.sizeOf150,v39:=Tryz.zeroValue150,t45:=Tryz.underlying173,a45:=Tryz.isAgg173,z45:=Tryz.sizeOf173,v45:=Tryz.zeroValue173,t46:=Tryz.underlying174,a46:=Tryz.isAgg174,z46:=Tryz.sizeOf174,v46:=Tryz.zeroValue174,t50:=Tryz.underlying146,a50:=Tryz.isAgg146,z50:=Tryz.sizeOf146,v50:=Tryz.zeroValue146,t53:=Tryz.underlying180,a53:=Tryz.isAgg180,z53:=Tryz.sizeOf180,v53:=Tryz.zeroValue180,t55:=Tryz.underlying182,a55:=Tryz.isAgg182,z55:=Tryz.sizeOf182,v55:=Tryz.zeroValue182,t66:=Tryz.underlying201,a66:=Tryz.isAgg201,z66:=Tryz.sizeOf201,v66:=Tryz.zeroValue201,t70:=Tryz.underlying205,a70:=Tryz.isAgg205,z70:=Tryz.sizeOf205,v70:=Tryz.zeroValue205,t76:=Tryz.underlying217,a76:=Tryz.isAgg217,z76:=Tryz.sizeOf217,v76:=Tryz.zeroValue217,t77:=Tryz.underlying218,a77:=Tryz.isAgg218,z77:=Tryz.sizeOf218,v77:=Tryz.zeroValue218 }
end Go.Proofs
namespace Go.Proofs.SYtioeckojljemcaaGreatDoor
open Go Go.AL Go.Proofs
noncomputable section
abbrev P:Program:=Tryz.prog
attribute [instance] drT
theorem hm:P.follows .mixedOrders=true:=Tryz.checked.mixed
def cmpS (a b:ByteArray):Int:=Lib.compareBytes a.data.toList b.data.toList
def idxB (s:ByteArray) (c:Int):Int:=Lib.indexByte s.data.toList c.toNat.toUInt8
def trimB (s cut:ByteArray):ByteArray:=⟨(Lib.trimS s.data.toList cut.data.toList).toArray⟩
def ascii (cut:ByteArray):Bool:=cut.data.toList.all fun b=>Nat.blt b.toNat 128
def eqS (a b:ByteArray):Bool:=a.data.toList==b.data.toList
theorem eqS_eq {a b:ByteArray} (h:eqS a b=true):a=b:=by
 unfold eqS at h
 rw [beq_iff_eq] at h
 cases a with
 | mk a =>
  cases b with
  | mk b =>
   congr 1
   exact Array.ext' h
def lookS {α:Type}:List (ByteArray × α)→ByteArray→Option α
 | [],_=>none
 | (k,v)::l,s=>bif eqS k s then some v else lookS l s
theorem lookS_mem {α:Type} {s:ByteArray} {v:α}:∀ {l:List (ByteArray × α)},lookS l s=some v→(s,v)∈l
 | [],h=>by cases h
 | (k,u)::l,h=>by
  simp only [lookS] at h
  cases hk:eqS k s with
  | true =>
   rw [hk] at h
   cases h
   rw [eqS_eq hk]
   exact List.mem_cons_self
  | false =>
   rw [hk] at h
   exact List.mem_cons_of_mem _ (lookS_mem h)
abbrev KCt:List Kd:=[.int .i64,.int .i64,.str,.str,.int .i64,.int .i64,.str,.str]
abbrev KSegment:List Kd:=[.str,.int .i64,.int .i64,.list [.int .i64],.int .i64,.int .i64]
abbrev KEntrant:List Kd:=[.str,.str,.int .i64,.str]
abbrev KDeed:List Kd:=[.str,.int .i64,.int .i64,.int .i64,.int .i64,.int .i64,.str,.str,.int .i64,.int .i64,.str,.str,.str,.str,.int .i64]
abbrev KParts:List Kd:=[.str,.str,.str,.int .i64,.str]
abbrev KPlace:List Kd:=[.int .i64,.int .i64,.str]
def t0:Tab:=tabM []
theorem t0_ok:TabOK P t0:=tabM_ok P _
def F_strings_Compare (d:List G):Option (List G):=some [.i (cmpS (gi d 0).str (gi d 1).str)]
def s_strings_Compare:FSpec:=⟨34,[.s (.str),.s (.str)],[],[],[.s (.int .i64)],[],[],[],F_strings_Compare⟩
theorem c_strings_Compare:∀ d r,F_strings_Compare d=some r→ACallX P 34 (s_strings_Compare.args0 d) (denH (s_strings_Compare.H0 d)) (s_strings_Compare.out r) (denH (s_strings_Compare.H1 r)):=fun d r h=>by
 cases h
 exact (pcall_lits (vs:=[.string (gi d 0).str,.string (gi d 1).str]) fun w=>(Proofs.Any.strings_Compare Tryz.laysCompare (gi d 0).str (gi d 1).str w).mono fun e w' h=>⟨h.1,h.2▸Ext.refl w⟩) []
def t1:Tab:=t0.addP s_strings_Compare
theorem t1_ok:TabOK P t1:=t0_ok.aP c_strings_Compare
def F_strings_IndexByte (d:List G):Option (List G):=some [.i (idxB (gi d 0).str (gi d 1).int)]
def s_strings_IndexByte:FSpec:=⟨76,[.s (.str),.s (.int .u8)],[],[],[.s (.int .i64)],[],[],[],F_strings_IndexByte⟩
theorem c_strings_IndexByte:∀ d r,F_strings_IndexByte d=some r→ACallX P 76 (s_strings_IndexByte.args0 d) (denH (s_strings_IndexByte.H0 d)) (s_strings_IndexByte.out r) (denH (s_strings_IndexByte.H1 r)):=fun d r h=>by
 cases h
 exact (pcall_lits (vs:=[.string (gi d 0).str,.int .u8 (gi d 1).int]) fun w=>(Proofs.Any.strings_IndexByte Tryz.laysIndexByte (gi d 0).str (gi d 1).int w).mono fun e w' h=>⟨h.1,h.2▸Ext.refl w⟩) []
def t2:Tab:=t1.addP s_strings_IndexByte
theorem t2_ok:TabOK P t2:=t1_ok.aP c_strings_IndexByte
def F_strings_Trim (d:List G):Option (List G):=bif (ascii (gi d 1).str&&(Nat.ble 2 (gi d 1).str.size&&(Nat.blt (gi d 1).str.size 4294967281&&(Nat.ble 1 (gi d 0).str.size&&Nat.ble (gi d 0).str.size 9223372036854775807)))) then some [.s (trimB (gi d 0).str (gi d 1).str)] else none
def s_strings_Trim:FSpec:=⟨77,[.s (.str),.s (.str)],[],[],[.s (.str)],[],[],[],F_strings_Trim⟩
theorem c_strings_Trim:∀ d r,F_strings_Trim d=some r→ACallX P 77 (s_strings_Trim.args0 d) (denH (s_strings_Trim.H0 d)) (s_strings_Trim.out r) (denH (s_strings_Trim.H1 r)):=fun d r h=>by
 unfold F_strings_Trim at h
 cases hb:(ascii (gi d 1).str&&(Nat.ble 2 (gi d 1).str.size&&(Nat.blt (gi d 1).str.size 4294967281&&(Nat.ble 1 (gi d 0).str.size&&Nat.ble (gi d 0).str.size 9223372036854775807)))) with
 | false=>rw [hb] at h; cases h
 | true =>
  rw [hb] at h
  cases h
  simp only [Bool.and_eq_true,Nat.blt_eq,Nat.ble_eq] at hb
  have hz:(Tryz.prog.info? (Tryz.laysTrim_ren.t 116)).map (fun i=>(i.zero,i.size))=some (some (.agg (Array.replicate 256 (.bool false))),256):=by kernel_rfl
  exact (pcall_lits (vs:=[.string (gi d 0).str,.string (gi d 1).str]) fun w=>(Proofs.Any.strings_Trim_set Tryz.laysTrim (zero_of_info hz).1 (zero_of_info hz).2 (gi d 0).str (gi d 1).str w hb.2.1 hb.2.2.2.1 hb.2.2.2.2 hb.2.2.1 fun j b hj=>by
   have:=List.all_eq_true.1 hb.1 b (List.mem_of_getElem? hj)
   simpa [Nat.blt_eq] using this).mono fun _ _ h=>⟨h.1,by
    obtain ⟨_,q,rfl⟩:=h
    exact ((Ext.push w _).trans (Ext.push _ _)).trans (Ext.drawn _ _ (Nat.le_add_right _ _))⟩) []
def t3:Tab:=t2.addP s_strings_Trim
theorem t3_ok:TabOK P t3:=t2_ok.aP c_strings_Trim
def F_stringslite_IndexByte (d:List G):Option (List G):=some [.i (idxB (gi d 0).str (gi d 1).int)]
def s_stringslite_IndexByte:FSpec:=⟨109,[.s (.str),.s (.int .u8)],[],[],[.s (.int .i64)],[],[],[],F_stringslite_IndexByte⟩
theorem c_stringslite_IndexByte:∀ d r,F_stringslite_IndexByte d=some r→ACallX P 109 (s_stringslite_IndexByte.args0 d) (denH (s_stringslite_IndexByte.H0 d)) (s_stringslite_IndexByte.out r) (denH (s_stringslite_IndexByte.H1 r)):=fun d r h=>by
 cases h
 exact (pcall_lits (vs:=[.string (gi d 0).str,.int .u8 (gi d 1).int]) fun w=>(Proofs.Any.stringslite_IndexByte Tryz.laysSlIndexByte (gi d 0).str (gi d 1).int w).mono fun e w' h=>⟨h.1,h.2▸Ext.refl w⟩) []
def t4:Tab:=t3.addP s_stringslite_IndexByte
theorem t4_ok:TabOK P t4:=t3_ok.aP c_stringslite_IndexByte
end
end Go.Proofs.SYtioeckojljemcaaGreatDoor
