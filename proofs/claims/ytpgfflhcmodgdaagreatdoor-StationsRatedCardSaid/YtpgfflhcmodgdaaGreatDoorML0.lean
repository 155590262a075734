/-
 What is proved here: functions of the program as functions on data. No condition.
-/
import Derived.Test.YtpgfflhcmodgdaaGreatDoorMY
import Derived.Test.YtpgfflhcmodgdaaGreatDoorMH
import Derived.Test.YtpgfflhcmodgdaaGreatDoorChecked
import Derived.Test.YtpgfflhcmodgdaaGreatDoorMT
import Derived.Shelf.SortM.Plain
import Derived.Shelf.SortM.SortNone
import Derived.Shelf.Small.Strs
import Derived.Shelf.Strconv.Itoa3
import Derived.Shelf.Strings.Search1
import Derived.Shelf.Strings.SlTrimAscii
open Bool renaming and_eq_true->aO
open Go renaming Program->ak
open Nat renaming ble->dv,blt->dy,blt_eq->jC
namespace List
open Go.AL
abbrev iV(d:List G)(k:Nat):Int:=(gi d k).iV
abbrev rZ(d:List G)(k:Nat):List (List G):=(gi d k).rZ
abbrev sV(d:List G)(k:Nat):ByteArray:=(gi d k).sV
abbrev bV(d:List G)(k:Nat):Bool:=(gi d k).bV
abbrev rV(d:List G)(k:Nat):List G:=(gi d k).rV
abbrev nN(d:List G)(k:Nat):Int:=(((gi d k).iV.toNat:Nat):Int)
abbrev gR(l:List (List G))(i:Int):List G:=l.getD i.toNat []
attribute [go_sem] iV rZ sV bV rV nN gR
end List
set_option linter.all false
namespace Go.AL
noncomputable section
inductive Kq where
 |l|i|s|t
def kp(d:LG):Nat->List Kq->LG->LG
 |_,[],r=>r
 |k,.l::q,r=>.l (gi d k).rZ::kp d (k+1) q r
 |k,.i::q,r=>.i (gi d k).iV::kp d (k+1) q r
 |k,.s::q,r=>.s (gi d k).sV::kp d (k+1) q r
 |k,.t::q,r=>.t (gi d k).bV::kp d (k+1) q r
attribute [go_sem] kp
abbrev bE{α:Type}(q:List α):Bool:=Nat.beq q.length q.length&&true
abbrev nL(a b:Int):Bool:=cO a&&aN a b
abbrev lI{α:Type}(q:List α):Int:=((q.length:Nat):Int)
abbrev nQ(x:LG):bp:=some (none,x)
abbrev eQ(x:LG):bp:=some (some 0,x)
abbrev eR(x:LG):bp:=some (some 1,x)
attribute [go_sem] bE nL lI nQ eQ eR
abbrev gd{α:Type}(c:Bool)(x:Option α):Option α:=bif c then x else none
attribute [go_sem] gd
def fR{α:Type}{a:Option α}{x y:α}(h:a=some x)(e:x=y:=by kernel_rfl):a=some y:=h.trans (congrArg some e)
section
variable [Dr]
def aH.aP{P:ak}{τ:aF}(h:aH P τ){sp:aL}(d:iL P sp)(hb:gr P sp.f=true:=by kernel_rfl)(k:Co sp=true:=by kernel_rfl):aH P (τ.bu sp):=h.bu hb k d
def aH.aW{P:ak}{τ:aF}(h:aH P τ){sp:aL}(d:iL P sp)(hb:gr P sp.f=true:=by kernel_rfl)(k:sf sp=true:=by kernel_rfl):aH P (τ.du sp):=h.du hb k d
def aT.a{P:ak}{τ:aF}{m:Nat}{L:LT}(hm:P.follows .mixedOrders=true)(d:aH P τ){fn:Func}{sp:bA}(h:aT P m L (bf fn))(hr:yP P τ L m (Cb fn sp.key) sp) (hn:nodupB ((cI (bf fn)).map (·.1))=true:=by kernel_rfl):aT P m (L.add m sp) (bf fn):=aT.add hm d hn h hr
def aT.aC{P:ak}{τ:aF}{m:Nat}{L:LT}(hm:P.follows .mixedOrders=true)(d:aH P τ){fn:Func}{sp:bA}(h:aT P m L (bf fn))(hr:wI P τ L m (gP fn sp.key) sp) (hn:sd sp.key (cN (bf fn))=true:=by kernel_rfl):aT P m (L.gv m sp) (bf fn):=aT.gv hm d hn h hr
theorem l5{P:ak}{τ:aF}{L:LT}(hm:P.follows .mixedOrders=true)(h:aH P τ){sp:aL}{fn:Func}(k:P.funcs[sp.f]?=some fn)(v:aT P sp.bI.length L (bf fn))(hB:uf P τ L fn sp)(hb:fn.body.isSome=true:=by kernel_rfl)(d:lu sp.bI=true:=by kernel_rfl):iL P sp:=nC hm h k hb v hB d
end
end
end Go.AL
set_option linter.all false
namespace Go.Proofs
open Go.Shelf Go.RowKit Go.AL
set_option maxHeartbeats 4000000
def Tryz.afy:Go.Shelf.Ren:=⟨fun|106=>33|213=>63|265=>88|n=>n,fun|9=>9|3=>3|n=>n,fun|n=>n⟩
def Tryz.afz:Go.Proofs.Lays.n106 Tryz.prog Tryz.afy:={ mixed:=by kernel_rfl,f106:=fR func33,f213:=fR func63,f265:=fR func88,t3:=underlying3,a3:=isAgg3,z3:=sizeOf3,v3:=zeroValue3,t9:=underlying9,a9:=isAgg9,z9:=sizeOf9,v9:=zeroValue9 }
def Tryz.afA:Go.Shelf.Ren:=⟨fun|137=>198|217=>207|266=>232|n=>n,fun|9=>9|5=>5|3=>3|n=>n,fun|n=>n⟩
def Tryz.afB:Go.Proofs.Lays.n137 Tryz.prog Tryz.afA:={ mixed:=by kernel_rfl,f137:=fR func198,f217:=fR func207,f266:=fR func232,t3:=underlying3,a3:=isAgg3,z3:=sizeOf3,v3:=zeroValue3,t5:=underlying5,a5:=isAgg5,z5:=sizeOf5,v5:=zeroValue5,t9:=underlying9,a9:=isAgg9,z9:=sizeOf9,v9:=zeroValue9 }
def Tryz.Ta:Go.Shelf.Ren:=⟨fun|160=>186|232=>215|231=>214|227=>183|234=>217|233=>216|236=>219|235=>218|228=>184|271=>185|151=>235|197=>213|120=>212|152=>181|260=>234|137=>198|119=>211|224=>209|225=>208|217=>207|266=>232|n=>n,fun|9=>9|4=>4|3=>3|5=>5|117=>214|116=>213|0=>0|124=>235|21=>21|105=>217|46=>133|119=>252|139=>255|138=>254|n=>n,fun|3=>4|4=>5|n=>n⟩
def Tryz.afC:Go.Proofs.Lays.n160 Tryz.prog Tryz.Ta:={ mixed:=by kernel_rfl,f119:=fR func211,f120:=fR func212,f137:=fR func198,f151:=fR func235,f152:=fR func181,f160:=fR func186,f197:=fR func213,f217:=fR func207,f224:=fR func209,f225:=fR func208,f227:=fR func183,f228:=fR func184,f231:=fR func214,f232:=fR func215,f233:=fR func216,f234:=fR func217,f235:=fR func218,f236:=fR func219,f260:=fR func234,f266:=fR func232,f271:=fR func185,t0:=underlying0,a0:=isAgg0,z0:=sizeOf0,v0:=zeroValue0,t3:=underlying3,a3:=isAgg3,z3:=sizeOf3,v3:=zeroValue3,t4:=underlying4,a4:=isAgg4,z4:=sizeOf4,v4:=zeroValue4,t5:=underlying5,a5:=isAgg5,z5:=sizeOf5,v5:=zeroValue5,t9:=underlying9,a9:=isAgg9,z9:=sizeOf9,v9:=zeroValue9,t21:=underlying21,a21:=isAgg21,z21:=sizeOf21,v21:=zeroValue21,t46:=underlying133,a46:=isAgg133,z46:=sizeOf133,v46:=zeroValue133,t105:=underlying217,a105:=isAgg217,z105:=sizeOf217,v105:=zeroValue217,t116:=underlying213,a116:=isAgg213,z116:=sizeOf213,t117:=underlying214,a117:=isAgg214,z117:=sizeOf214,v117:=zeroValue214,t119:=underlying252,a119:=isAgg252,z119:=sizeOf252,t124:=underlying235,a124:=isAgg235,z124:=sizeOf235,v124:=zeroValue235,t138:=underlying254,a138:=isAgg254,z138:=sizeOf254,v138:=zeroValue254,t139:=underlying255,a139:=isAgg255,z139:=sizeOf255,v139:=zeroValue255,g3:=by kernel_rfl,g4:=by kernel_rfl }
def Tryz.afD:Go.Shelf.Ren:=⟨fun|217=>207|266=>232|n=>n,fun|9=>9|5=>5|3=>3|n=>n,fun|n=>n⟩
def Tryz.afE:Go.Proofs.Lays.n217 Tryz.prog Tryz.afD:={ mixed:=by kernel_rfl,f217:=fR func207,f266:=fR func232,t3:=underlying3,a3:=isAgg3,z3:=sizeOf3,v3:=zeroValue3,t5:=underlying5,a5:=isAgg5,z5:=sizeOf5,v5:=zeroValue5,t9:=underlying9,a9:=isAgg9,z9:=sizeOf9,v9:=zeroValue9 }
def Tryz.afF:Go.Shelf.Ren:=⟨fun|171=>34|243=>64|246=>89|283=>123|284=>124|285=>125|286=>126|129=>122|317=>167|318=>168|319=>169|320=>170|337=>201|338=>202|n=>n,fun|3=>3|9=>9|2=>2|4=>4|171=>166|0=>0|53=>165|37=>168|5=>5|173=>169|212=>200|51=>163|20=>20|213=>201|46=>133|232=>245|233=>246|n=>n,fun|17=>1|18=>2|19=>3|n=>n⟩
def Tryz.afG:Go.Proofs.Lays.n171 Tryz.prog Tryz.afF:={ mixed:=by kernel_rfl,f129:=fR func122,f171:=fR func34,f243:=fR func64,f246:=fR func89,f283:=fR func123,f284:=fR func124,f285:=fR func125,f286:=fR func126,f317:=fR func167,f318:=fR func168,f319:=fR func169,f320:=fR func170,f337:=fR func201,f338:=fR func202,t0:=underlying0,a0:=isAgg0,z0:=sizeOf0,v0:=zeroValue0,t2:=underlying2,a2:=isAgg2,z2:=sizeOf2,v2:=zeroValue2,t3:=underlying3,a3:=isAgg3,z3:=sizeOf3,v3:=zeroValue3,t4:=underlying4,a4:=isAgg4,z4:=sizeOf4,v4:=zeroValue4,t5:=underlying5,a5:=isAgg5,z5:=sizeOf5,v5:=zeroValue5,t9:=underlying9,a9:=isAgg9,z9:=sizeOf9,v9:=zeroValue9,t20:=underlying20,a20:=isAgg20,z20:=sizeOf20,v20:=zeroValue20,t37:=underlying168,a37:=isAgg168,z37:=sizeOf168,v37:=zeroValue168,t46:=underlying133,a46:=isAgg133,z46:=sizeOf133,v46:=zeroValue133,t51:=underlying163,a51:=isAgg163,z51:=sizeOf163,v51:=zeroValue163,t53:=underlying165,a53:=isAgg165,z53:=sizeOf165,v53:=zeroValue165,t171:=underlying166,a171:=isAgg166,z171:=sizeOf166,v171:=zeroValue166,t173:=underlying169,a173:=isAgg169,z173:=sizeOf169,v173:=zeroValue169,t212:=underlying200,a212:=isAgg200,z212:=sizeOf200,v212:=zeroValue200,t213:=underlying201,a213:=isAgg201,z213:=sizeOf201,t232:=underlying245,a232:=isAgg245,z232:=sizeOf245,v232:=zeroValue245,t233:=underlying246,a233:=isAgg246,z233:=sizeOf246,v233:=zeroValue246,g17:=by kernel_rfl,g18:=by kernel_rfl,g19:=by kernel_rfl }
def Tryz.afH:Go.Shelf.Ren:=⟨fun|6=>147|15=>87|14=>191|28=>121|29=>122|20=>223|21=>224|22=>225|23=>226|24=>227|25=>228|26=>229|27=>230|46=>236|47=>163|48=>164|49=>237|50=>238|57=>239|n=>n,fun|22=>150|24=>178|25=>187|3=>3|39=>133|0=>0|53=>163|55=>165|4=>4|46=>157|45=>156|50=>98|5=>5|9=>9|66=>193|70=>197|76=>229|77=>80|n=>n,fun|n=>n⟩
def Tryz.Tb:Go.Proofs.SlLaysF0.n6 Tryz.prog Tryz.afH:={ mixed:=by kernel_rfl,f6:=⟨f147.name,aB,fR func147⟩,f14:=⟨f191.name,aB,fR func191⟩,f15:=fR func87,f20:=⟨f223.name,aB,fR func223⟩,f21:=⟨Tryz.f224.name,aB,fR func224⟩,f22:=⟨Tryz.f225.name,aB,fR func225⟩,f23:=⟨f226.name,aB,fR func226⟩,f24:=⟨Tryz.f227.name,aB,fR func227⟩,f25:=⟨Tryz.f228.name,aB,fR func228⟩,f26:=⟨f229.name,aB,fR func229⟩,f27:=⟨f230.name,aB,fR func230⟩,f28:=fR func121,f29:=fR func122,f46:=⟨Tryz.f236.name,aB,fR func236⟩,f47:=fR func163,f48:=fR func164,f49:=⟨f237.name,aB,fR func237⟩,f50:=⟨f238.name,aB,fR func238⟩,f57:=⟨f239.name,aB,fR func239⟩,t0:=underlying0,a0:=isAgg0,z0:=sizeOf0,v0:=zeroValue0,t3:=underlying3,a3:=isAgg3,z3:=sizeOf3,v3:=zeroValue3,t4:=underlying4,a4:=isAgg4,z4:=sizeOf4,v4:=zeroValue4,t5:=underlying5,a5:=isAgg5,z5:=sizeOf5,v5:=zeroValue5,t9:=underlying9,a9:=isAgg9,z9:=sizeOf9,v9:=zeroValue9,t22:=underlying150,a22:=isAgg150,z22:=sizeOf150,v22:=zeroValue150,t25:=underlying187,a25:=isAgg187,z25:=sizeOf187,v25:=zeroValue187,t39:=underlying133,a39:=isAgg133,z39:=sizeOf133,v39:=zeroValue133,t45:=underlying156,a45:=isAgg156,z45:=sizeOf156,v45:=zeroValue156,t46:=underlying157,a46:=isAgg157,z46:=sizeOf157,v46:=zeroValue157,t50:=underlying98,a50:=isAgg98,z50:=sizeOf98,v50:=zeroValue98,t53:=underlying163,a53:=isAgg163,z53:=sizeOf163,v53:=zeroValue163,t55:=underlying165,a55:=isAgg165,z55:=sizeOf165,v55:=zeroValue165,t66:=underlying193,a66:=isAgg193,z66:=sizeOf193,v66:=zeroValue193,t70:=underlying197,a70:=isAgg197,z70:=sizeOf197,v70:=zeroValue197,t76:=underlying229,a76:=isAgg229,z76:=sizeOf229,v76:=zeroValue229,t77:=underlying80,a77:=isAgg80,z77:=sizeOf80,v77:=zeroValue80 }
def Tryz.afI:Go.Shelf.Ren:=⟨fun|6=>65|8=>87|9=>90|19=>121|20=>122|21=>127|22=>128|23=>129|24=>130|25=>131|26=>132|27=>133|28=>134|29=>135|36=>171|31=>163|32=>164|37=>172|38=>173|39=>174|41=>203|n=>n,fun|27=>34|29=>9|3=>3|32=>133|26=>34|0=>0|44=>163|46=>165|4=>4|36=>157|35=>156|41=>98|5=>5|9=>9|53=>193|57=>197|63=>229|64=>80|n=>n,fun|n=>n⟩
def Tryz.afJ:Go.Proofs.SlLaysM.n6 Tryz.prog Tryz.afI:={ mixed:=by kernel_rfl,f6:=⟨f65.name,aB,fR func65⟩,f8:=fR func87,f9:=⟨f90.name,aB,fR func90⟩,f19:=fR func121,f20:=fR func122,f21:=⟨f127.name,aB,fR func127⟩,f22:=⟨f128.name,aB,fR func128⟩,f23:=⟨Tryz.f129.name,aB,fR func129⟩,f24:=⟨f130.name,aB,fR func130⟩,f25:=⟨f131.name,aB,fR func131⟩,f26:=⟨f132.name,aB,fR func132⟩,f27:=⟨f133.name,aB,fR func133⟩,f28:=⟨f134.name,aB,fR func134⟩,f29:=⟨f135.name,aB,fR func135⟩,f31:=fR func163,f32:=fR func164,f36:=⟨Tryz.f171.name,aB,fR func171⟩,f37:=⟨f172.name,aB,fR func172⟩,f38:=⟨f173.name,aB,fR func173⟩,f39:=⟨f174.name,aB,fR func174⟩,f41:=⟨f203.name,aB,fR func203⟩,t0:=underlying0,a0:=isAgg0,z0:=sizeOf0,v0:=zeroValue0,t3:=underlying3,a3:=isAgg3,z3:=sizeOf3,v3:=zeroValue3,t4:=underlying4,a4:=isAgg4,z4:=sizeOf4,v4:=zeroValue4,t5:=underlying5,a5:=isAgg5,z5:=sizeOf5,v5:=zeroValue5,t9:=underlying9,a9:=isAgg9,z9:=sizeOf9,v9:=zeroValue9,t26:=underlying34,a26:=isAgg34,z26:=sizeOf34,v26:=zeroValue34,t27:=underlying34,a27:=isAgg34,z27:=sizeOf34,v27:=zeroValue34,t29:=underlying9,a29:=isAgg9,z29:=sizeOf9,v29:=zeroValue9,t32:=underlying133,a32:=isAgg133,z32:=sizeOf133,v32:=zeroValue133,t35:=underlying156,a35:=isAgg156,z35:=sizeOf156,v35:=zeroValue156,t36:=underlying157,a36:=isAgg157,z36:=sizeOf157,v36:=zeroValue157,t41:=underlying98,a41:=isAgg98,z41:=sizeOf98,v41:=zeroValue98,t44:=underlying163,a44:=isAgg163,z44:=sizeOf163,v44:=zeroValue163,t46:=underlying165,a46:=isAgg165,z46:=sizeOf165,v46:=zeroValue165,t53:=underlying193,a53:=isAgg193,z53:=sizeOf193,v53:=zeroValue193,t57:=underlying197,a57:=isAgg197,z57:=sizeOf197,v57:=zeroValue197,t63:=underlying229,a63:=isAgg229,z63:=sizeOf229,v63:=zeroValue229,t64:=underlying80,a64:=isAgg80,z64:=sizeOf80,v64:=zeroValue80 }
end Go.Proofs
namespace Go.Proofs.jI
open Go Go.AL Go.Proofs Tryz
noncomputable section
noncomputable abbrev P:ak:=Tryz.prog
attribute [instance] rJ
def hm:P.follows .mixedOrders=true:=Tryz.checked.mixed
def tP{τ:aF}{L:LT}(h:aH P τ){sp:aL}{fn:Func}(v:P.funcs[sp.f]?=some fn)(y:aT P sp.bI.length L (bf fn))(hB:uf P τ L fn sp:=by intro d;kernel_rfl)(hb:fn.body.isSome=true:=by kernel_rfl)(k:lu sp.bI=true:=by kernel_rfl)(I:gr P sp.f=true:=by kernel_rfl)(M:Co sp=true:=by kernel_rfl):aH P (τ.bu sp):=h.bu I M (nC hm h v hb y hB k)
def tW{τ:aF}{L:LT}(h:aH P τ){sp:aL}{fn:Func}(v:P.funcs[sp.f]?=some fn)(y:aT P sp.bI.length L (bf fn))(hB:uf P τ L fn sp:=by intro d;kernel_rfl)(hb:fn.body.isSome=true:=by kernel_rfl)(k:lu sp.bI=true:=by kernel_rfl)(I:gr P sp.f=true:=by kernel_rfl)(M:sf sp=true:=by kernel_rfl):aH P (τ.du sp):=h.du I M (nC hm h v hb y hB k)
def dQ{τ:aF}(k:aH P τ){sp:aL}{fn:Func}(v:P.funcs[sp.f]?=some fn)(hB:uf P τ bx fn sp:=by intro d;kernel_rfl)(hb:fn.body.isSome=true:=by kernel_rfl)(h:lu sp.bI=true:=by kernel_rfl)(y:gr P sp.f=true:=by kernel_rfl)(I:Co sp=true:=by kernel_rfl):aH P (τ.bu sp):=tP k v (bG _ _ _) hB hb h y I
def nE{τ:aF}(k:aH P τ){sp:aL}{fn:Func}(v:P.funcs[sp.f]?=some fn)(hB:uf P τ bx fn sp:=by intro d;kernel_rfl)(hb:fn.body.isSome=true:=by kernel_rfl)(h:lu sp.bI=true:=by kernel_rfl)(y:gr P sp.f=true:=by kernel_rfl)(I:sf sp=true:=by kernel_rfl):aH P (τ.du sp):=tW k v (bG _ _ _) hB hb h y I
def lA{τ:aF}{m:Nat}{L:LT}(h:aH P τ){fn:Func}{sp:bA}(k:aT P m L (bf fn))(hr:yP P τ L m (Cb fn sp.key) sp:=by intro d;kernel_rfl) (hn:nodupB ((cI (bf fn)).map (·.1))=true:=by kernel_rfl):aT P m (L.add m sp) (bf fn):=aT.a hm h k hr hn
def lC{τ:aF}{m:Nat}{L:LT}(h:aH P τ){fn:Func}{sp:bA}(k:aT P m L (bf fn))(hr:wI P τ L m (gP fn sp.key) sp:=by intro d;kernel_rfl) (hn:sd sp.key (cN (bf fn))=true:=by kernel_rfl):aT P m (L.gv m sp) (bf fn):=aT.aC hm h k hr hn
def dD(a b:BY):Int:=Lib.compareBytes a.data.toList b.data.toList
def Tc(s:BY)(c:Int):Int:=Lib.indexByte s.data.toList c.toNat.toUInt8
def trimB(s d:BY):BY:=⟨(Lib.trimS s.data.toList d.data.toList).toArray⟩
def gx(n:Int):BY:=⟨(Lib.decDigits n.toNat).toArray⟩
def Td(d:BY):Bool:=d.data.toList.all fun b=>dy b.toNat 128
def zb(a b:BY):Bool:=a.data.toList==b.data.toList
theorem Te{a b:BY}(h:zb a b=true):a=b:=by
 unfold zb at h;rw[beq_iff_eq]at h;cases a with
 |mk a=>
  cases b with
  |mk b=>
   congr 1;exact Array.ext' h
def CP{α:Type}:List (BY × α)->BY->Option α
 |[],_=>none
 |(k,v)::l,s=>bif zb k s then some v else CP l s
def MF{α:Type}{s:BY}{v:α}:∀{l:List (BY × α)},CP l s=some v->(s,v)∈l
 |[],h=>by cases h
 |(k,u)::l,h=>by
  simp only[CP]at h;cases d:zb k s with
  |true=>
   rw[d]at h;cases h;rw[Te d];exact List.mem_cons_self
  |false=>
   rw[d]at h;exact List.mem_cons_of_mem _ (MF h)
abbrev a_:List Kd:=[.I,.I,.str,.str,.I,.I,.str,.str]
abbrev ch(a b:Int):Int:=if a<b then a else b
attribute [go_sem] ch
abbrev c8:List Kd:=[.str,.list a_]
abbrev gy:List Kd:=[.I,.I,.str,.I]
abbrev Tf:List Kd:=[.str,.str,.str,.I,.str]
def t0:aF:=Rp []
def afK:aH P t0:=adp P _
def pn(d:LG):Option LG:=some [.i (dD (d.sV 0) (d.sV 1))]
abbrev al:Sh:=.s .I
abbrev dn:Sh:=.s (.str)
abbrev dG:Sh:=.s (.bool)
abbrev kA:Sh:=.s (.list a_)
abbrev ja:Sh:=.s (.list [.I])
abbrev po:Sh:=.s (.row [.str,.list a_])
abbrev Tg:Sh:=.s (.addr)
abbrev eI:List fN:=[.fix 0]
abbrev iu:List fN:=[.aM 0]
abbrev jJ:List bY:=[.box [.list [.I],.I]]
abbrev q9:List fN:=[.aM 5]
abbrev q_:List fN:=[.aM 5,.aM 7]
abbrev sw:List fN:=[.fix 0,.aM 3]
abbrev sx:List fN:=[.fix 0,.fix 1,.fix 2]
abbrev uw:List fN:=[.fix 0,.aM 4,.aM 6]
abbrev ux:List Sh:=[.s (.ptr 0 0)]
abbrev uy:List Sh:=[.s (.list c8)]
abbrev uz:List fN:=[.aM 3]
abbrev zd:List Sh:=[.s (.row a_),.s (.row a_)]
abbrev ze:List fN:=[.fix 0,.fix 1,.cell 1 0]
abbrev zf:List fN:=[.aM 0,.cell 0 3,.cell 0 4]
abbrev zg:List fN:=[.fix 0,.cell 0 3,.cell 0 4]
abbrev CQ:List Sh:=[.s (.ptr 0 0),al]
abbrev CR:List fN:=[.aM 2,.aM 3]
abbrev CS:List fN:=[.aM 5,.aM 6,.aM 10,.aM 11]
abbrev GZ:List bY:=[.box [.map 1],.map (.one (.str)) (.one .I)]
abbrev G0:List Sh:=[.s (.list c8),al]
abbrev G1:List fN:=[.fix 0,.cell 0 5,.aM 3]
abbrev G2:List bY:=[.box [.list a_,.list a_,.list [.I],.list [.I],.I,.list [.list [.I]]]]
abbrev G3:List Sh:=[.s (.list gy)]
abbrev G4:List fN:=[.aM 3,.aM 4,.aM 7]
abbrev MG:List Sh:=[.s (.ptr 0 0),al,al]
abbrev MH:List Sh:=[.s (.row a_)]
abbrev MI:List Sh:=[.s (.list c8),dn]
abbrev MJ:List fN:=[.fix 0,.fix 1]
abbrev MK:List Sh:=[.s (.vQ 0 1)]
abbrev ML:List Sh:=[.s (.list [.I,.I])]
abbrev MM:List Sh:=[.s (.row [.I,.I]),.s (.row [.I,.I])]
abbrev MN:List Sh:=[.s (.list c8),dn,al]
abbrev Th:List Sh:=[.s (.row a_),.s (.cptr [.str,.list a_])]
abbrev Ti:List Sh:=[kA,.clo 82 [.cptr [.str,.list a_]]]
abbrev Tj:List bY:=[.box [.map 1],.map (.one (.str)) (.one .I),.box [.map 1]]
abbrev Tk:List Sh:=[.s (.list [.str,.str]),al]
abbrev Tl:List bY:=[.box [.list c8,.I,.I,.map 1,.map 2],.map (.one .I) (.one .I),.map (.one .I) (.one .I)]
abbrev Tm:List Sh:=[.s (.row a_),.s (.row a_),al]
abbrev Tn:List fN:=[.fix 0,.cell 0 3,.cell 0 4,.aM 4]
abbrev To:List Sh:=[kA,.clo 70 [.cptr [.str,.list a_]]]
abbrev Tp:List Sh:=[.s (.list gy),.clo 75 [.cptr [.str,.list a_],.cptr a_]]
abbrev Tq:List Sh:=[.s (.list [.I,.I]),.clo 151 [.cptr [.I]]]
abbrev Tr:List fN:=[.aM 5,.aM 9,.aM 10]
def Ts:aL:=⟨33,[dn,dn],[],[],[al],[],[],[],pn⟩
def afL:iL P Ts:=fun d r (h:pn d=some r)=>by
 cases h;exact(Cc (vs:=[.string (gi d 0).sV,.string (gi d 1).sV]) fun w=>(Proofs.Any.strings_Compare Tryz.afz (gi d 0).sV (gi d 1).sV w).mono fun e w' h=>⟨h.1,h.2▸Ext.refl w⟩) []
def t1:aF:=t0.bu Ts
def afM:aH P t1:=afK.aP afL
def G5(d:LG):Option LG:=some [.i (Tc (d.sV 0) (d.iV 1))]
def Tt:aL:=⟨198,[dn,.s (.int .u8)],[],[],[al],[],[],[],G5⟩
def afN:iL P Tt:=fun d r (h:G5 d=some r)=>by
 cases h;exact(Cc (vs:=[.string (gi d 0).sV,.int .u8 (gi d 1).iV]) fun w=>(Proofs.Any.strings_IndexByte Tryz.afB (gi d 0).sV (gi d 1).iV w).mono fun e w' h=>⟨h.1,h.2▸Ext.refl w⟩) []
def t2:aF:=t1.bu Tt
def afO:aH P t2:=afM.aP afN
def mM(d:LG):Option LG:=bif (cO (d.iV 0)&&aN (d.iV 0) 100) then some [.s (gx (d.iV 0))] else none
def Tu:aL:=⟨34,[al],[],[],[dn],[],[],[],mM⟩
def afP:iL P Tu:=fun d r (h:mM d=some r)=>by
 unfold mM at h;cases hb:(cO (d.iV 0)&&aN (d.iV 0) 100)with
 |false=>rw[hb]at h; cases h
 |true=>
  rw[hb]at h;cases h;simp only[aO,lq,cS,dT]at hb;have e:(d.iV 0)=((d.iV 0).toNat:Int):=ab;have key:eM P 34 [.lit (.int .i64 (d.iV 0))] (.lit (.string (gx (d.iV 0)))):=by
   rw[e];exact Cc (vs:=[.int .i64 ((d.iV 0).toNat:Int)]) fun w=>(Proofs.Any.strconv_Itoa_small Tryz.afG (d.iV 0).toNat ab w).mono fun e w' h=>⟨h.1,h.2▸Ext.refl w⟩
  exact key []
def t3:aF:=t2.bu Tu
def afQ:aH P t3:=afO.aP afP
def G6(d:LG):Option LG:=bif (Td (d.sV 1)&&(dv 2 (d.sV 1).size&&(dy (d.sV 1).size 4294967281&&(dv 1 (d.sV 0).size&&dv (d.sV 0).size 9223372036854775807)))) then some [.s (trimB (d.sV 0) (d.sV 1))] else none
def Tv:aL:=⟨186,[dn,dn],[],[],[dn],[],[],[],G6⟩
def afR:iL P Tv:=fun d r (h:G6 d=some r)=>by
 unfold G6 at h;cases hb:(Td (d.sV 1)&&(dv 2 (d.sV 1).size&&(dy (d.sV 1).size 4294967281&&(dv 1 (d.sV 0).size&&dv (d.sV 0).size 9223372036854775807))))with
 |false=>rw[hb]at h; cases h
 |true=>
  rw[hb]at h;cases h;simp only[aO,jC,Nat.ble_eq]at hb;have k:(Tryz.prog.info? (Tryz.Ta.t 116)).map (fun i=>(i.zero,i.size))=some (some (.agg (Array.replicate 256 (.bool false))),256):=aB;exact(Cc (vs:=[.string (d.sV 0),.string (d.sV 1)]) fun w=>(Proofs.Any.strings_Trim_set Tryz.afC (zero_of_info k).1 (zero_of_info k).2 (d.sV 0) (d.sV 1) w hb.2.1 hb.2.2.2.1 hb.2.2.2.2 hb.2.2.1 fun j b v=>by
   have:=List.all_eq_true.1 hb.1 b (List.mem_of_getElem? v);simpa[jC]using this).mono fun _ _ h=>⟨h.1,by
    obtain⟨_,q,rfl⟩:=h;exact((Ext.push w _).trans (Ext.push _ _)).trans (Ext.drawn _ _ (Nat.le_add_right _ _))⟩) []
def t4:aF:=t3.bu Tv
def afS:aH P t4:=afQ.aP afR
def Tw(d:LG):Option LG:=some [.i (Tc (d.sV 0) (d.iV 1))]
def Tx:aL:=⟨207,[dn,.s (.int .u8)],[],[],[al],[],[],[],Tw⟩
def afT:iL P Tx:=fun d r (h:Tw d=some r)=>by
 cases h;exact(Cc (vs:=[.string (gi d 0).sV,.int .u8 (gi d 1).iV]) fun w=>(Proofs.Any.stringslite_IndexByte Tryz.afE (gi d 0).sV (gi d 1).iV w).mono fun e w' h=>⟨h.1,h.2▸Ext.refl w⟩) []
def t5:aF:=t4.bu Tx
def Ty:aH P t5:=afS.aP afT
end
end Go.Proofs.jI
