/-
 What is proved here: functions of the program as functions on data. No condition.
-/
import Derived.Test.YtpaljghdgljgiaaGreatDoorMH
import Derived.Test.YtpaljghdgljgiaaGreatDoorChecked
import Derived.Shelf.Small.Strs
import Derived.Shelf.Strconv.Itoa3
import Derived.Shelf.Strings.Search1
import Derived.Shelf.Strings.SlTrimAscii
open Bool renaming and_eq_true->aL
open Go renaming Program->aj
open Nat renaming ble->eh,blt->cS,blt_eq->iL
namespace Go.AL
abbrev gd{α:Type}(c:Bool)(x:Option α):Option α:=bif c then x else none
theorem fR{α:Type}{a:Option α}{x y:α}(h:a=some x)(e:x=y:=by kernel_rfl):a=some y:=h.trans (congrArg some e)
section
variable [Dr]
theorem aJ.aP{P:aj}{τ:aH}(h:aJ P τ){sp:aO}(d:iT P sp)(hb:iD P sp.f=true:=by kernel_rfl)(g:zy sp=true:=by kernel_rfl):aJ P (τ.bp sp):=h.bp hb g d
theorem aJ.aW{P:aj}{τ:aH}(h:aJ P τ){sp:aO}(d:iT P sp)(hb:iD P sp.f=true:=by kernel_rfl)(g:we sp=true:=by kernel_rfl):aJ P (τ.dO sp):=h.dO hb g d
theorem aZ.a{P:aj}{τ:aH}{m:Nat}{L:LT}(hm:P.follows .mixedOrders=true)(d:aJ P τ){fn:Func}{sp:bG}(g:aZ P m L (bk fn))(h:v_ P τ L m (zi fn sp.key) sp) (k:nodupB ((cw (bk fn)).map (·.1))=true:=by kernel_rfl):aZ P m (L.add m sp) (bk fn):=aZ.add hm d k g h
theorem aZ.aC{P:aj}{τ:aH}{m:Nat}{L:LT}(hm:P.follows .mixedOrders=true)(d:aJ P τ){fn:Func}{sp:bG}(g:aZ P m L (bk fn))(h:tO P τ L m (fT fn sp.key) sp) (k:qh sp.key (cA (bk fn))=true:=by kernel_rfl):aZ P m (L.fU m sp) (bk fn):=aZ.fU hm d k g h
theorem jU{P:aj}{τ:aH}{L:LT}(hm:P.follows .mixedOrders=true)(g:aJ P τ){sp:aO}{fn:Func}(h:P.funcs[sp.f]? = some fn)(k:aZ P sp.c8.length L (bk fn))(hB:rF P τ L fn sp)(hb:fn.body.isSome=true:=by kernel_rfl)(d:om sp.c8=true:=by kernel_rfl):iT P sp:=mw hm g h hb k hB d
end
end Go.AL
set_option linter.all false
namespace Go.Proofs
open Go.Shelf Go.RowKit Go.AL
set_option maxHeartbeats 4000000
def Tryz.ZB:Go.Shelf.Ren:=⟨fun|106=>65|213=>85|265=>110|n=>n,fun|9=>9|3=>3|n=>n,fun|n=>n⟩
theorem Tryz.ZC:Go.Proofs.Lays.n106 Tryz.prog Tryz.ZB:={ mixed:=by kernel_rfl,f106:=fR func65,f213:=fR func85,f265:=fR func110,t3:=underlying3,a3:=isAgg3,z3:=sizeOf3,v3:=zeroValue3,t9:=underlying9,a9:=isAgg9,z9:=sizeOf9,v9:=zeroValue9 }
def Tryz.ZD:Go.Shelf.Ren:=⟨fun|137=>175|217=>180|266=>195|n=>n,fun|9=>9|5=>5|3=>3|n=>n,fun|n=>n⟩
theorem Tryz.ZE:Go.Proofs.Lays.n137 Tryz.prog Tryz.ZD:={ mixed:=by kernel_rfl,f137:=fR func175,f217:=fR func180,f266:=fR func195,t3:=underlying3,a3:=isAgg3,z3:=sizeOf3,v3:=zeroValue3,t5:=underlying5,a5:=isAgg5,z5:=sizeOf5,v5:=zeroValue5,t9:=underlying9,a9:=isAgg9,z9:=sizeOf9,v9:=zeroValue9 }
def Tryz.OE:Go.Shelf.Ren:=⟨fun|160=>164|232=>188|231=>187|227=>161|234=>190|233=>189|236=>192|235=>191|228=>162|271=>163|151=>198|197=>186|120=>185|152=>159|260=>197|137=>175|119=>184|224=>182|225=>181|217=>180|266=>195|n=>n,fun|9=>9|4=>4|3=>3|5=>5|117=>195|116=>194|0=>0|124=>214|21=>21|105=>198|46=>139|119=>222|139=>225|138=>224|n=>n,fun|3=>4|4=>5|n=>n⟩
theorem Tryz.ZF:Go.Proofs.Lays.n160 Tryz.prog Tryz.OE:={ mixed:=by kernel_rfl,f119:=fR func184,f120:=fR func185,f137:=fR func175,f151:=fR func198,f152:=fR func159,f160:=fR func164,f197:=fR func186,f217:=fR func180,f224:=fR func182,f225:=fR func181,f227:=fR func161,f228:=fR func162,f231:=fR func187,f232:=fR func188,f233:=fR func189,f234:=fR func190,f235:=fR func191,f236:=fR func192,f260:=fR func197,f266:=fR func195,f271:=fR func163,t0:=underlying0,a0:=isAgg0,z0:=sizeOf0,v0:=zeroValue0,t3:=underlying3,a3:=isAgg3,z3:=sizeOf3,v3:=zeroValue3,t4:=underlying4,a4:=isAgg4,z4:=sizeOf4,v4:=zeroValue4,t5:=underlying5,a5:=isAgg5,z5:=sizeOf5,v5:=zeroValue5,t9:=underlying9,a9:=isAgg9,z9:=sizeOf9,v9:=zeroValue9,t21:=underlying21,a21:=isAgg21,z21:=sizeOf21,v21:=zeroValue21,t46:=underlying139,a46:=isAgg139,z46:=sizeOf139,v46:=zeroValue139,t105:=underlying198,a105:=isAgg198,z105:=sizeOf198,v105:=zeroValue198,t116:=underlying194,a116:=isAgg194,z116:=sizeOf194,t117:=underlying195,a117:=isAgg195,z117:=sizeOf195,v117:=zeroValue195,t119:=underlying222,a119:=isAgg222,z119:=sizeOf222,t124:=underlying214,a124:=isAgg214,z124:=sizeOf214,v124:=zeroValue214,t138:=underlying224,a138:=isAgg224,z138:=sizeOf224,v138:=zeroValue224,t139:=underlying225,a139:=isAgg225,z139:=sizeOf225,v139:=zeroValue225,g3:=by kernel_rfl,g4:=by kernel_rfl }
def Tryz.ZG:Go.Shelf.Ren:=⟨fun|217=>180|266=>195|n=>n,fun|9=>9|5=>5|3=>3|n=>n,fun|n=>n⟩
theorem Tryz.ZH:Go.Proofs.Lays.n217 Tryz.prog Tryz.ZG:={ mixed:=by kernel_rfl,f217:=fR func180,f266:=fR func195,t3:=underlying3,a3:=isAgg3,z3:=sizeOf3,v3:=zeroValue3,t5:=underlying5,a5:=isAgg5,z5:=sizeOf5,v5:=zeroValue5,t9:=underlying9,a9:=isAgg9,z9:=sizeOf9,v9:=zeroValue9 }
def Tryz.ZI:Go.Shelf.Ren:=⟨fun|171=>28|243=>52|246=>71|283=>92|284=>93|285=>94|286=>95|129=>117|317=>116|318=>118|319=>119|320=>120|337=>156|338=>157|n=>n,fun|3=>3|9=>9|2=>2|4=>4|171=>144|0=>0|53=>145|37=>148|5=>5|173=>149|212=>169|51=>170|20=>20|213=>171|46=>139|232=>211|233=>212|n=>n,fun|17=>1|18=>2|19=>3|n=>n⟩
theorem Tryz.ZJ:Go.Proofs.Lays.n171 Tryz.prog Tryz.ZI:={ mixed:=by kernel_rfl,f129:=fR func117,f171:=fR func28,f243:=fR func52,f246:=fR func71,f283:=fR func92,f284:=fR func93,f285:=fR func94,f286:=fR func95,f317:=fR func116,f318:=fR func118,f319:=fR func119,f320:=fR func120,f337:=fR func156,f338:=fR func157,t0:=underlying0,a0:=isAgg0,z0:=sizeOf0,v0:=zeroValue0,t2:=underlying2,a2:=isAgg2,z2:=sizeOf2,v2:=zeroValue2,t3:=underlying3,a3:=isAgg3,z3:=sizeOf3,v3:=zeroValue3,t4:=underlying4,a4:=isAgg4,z4:=sizeOf4,v4:=zeroValue4,t5:=underlying5,a5:=isAgg5,z5:=sizeOf5,v5:=zeroValue5,t9:=underlying9,a9:=isAgg9,z9:=sizeOf9,v9:=zeroValue9,t20:=underlying20,a20:=isAgg20,z20:=sizeOf20,v20:=zeroValue20,t37:=underlying148,a37:=isAgg148,z37:=sizeOf148,v37:=zeroValue148,t46:=underlying139,a46:=isAgg139,z46:=sizeOf139,v46:=zeroValue139,t51:=underlying170,a51:=isAgg170,z51:=sizeOf170,v51:=zeroValue170,t53:=underlying145,a53:=isAgg145,z53:=sizeOf145,v53:=zeroValue145,t171:=underlying144,a171:=isAgg144,z171:=sizeOf144,v171:=zeroValue144,t173:=underlying149,a173:=isAgg149,z173:=sizeOf149,v173:=zeroValue149,t212:=underlying169,a212:=isAgg169,z212:=sizeOf169,v212:=zeroValue169,t213:=underlying171,a213:=isAgg171,z213:=sizeOf171,t232:=underlying211,a232:=isAgg211,z232:=sizeOf211,v232:=zeroValue211,t233:=underlying212,a233:=isAgg212,z233:=sizeOf212,v233:=zeroValue212,g17:=by kernel_rfl,g18:=by kernel_rfl,g19:=by kernel_rfl }
def Tryz.ZK:Go.Shelf.Ren:=⟨fun|6=>77|15=>106|14=>105|28=>140|29=>117|20=>132|21=>133|22=>134|23=>135|24=>136|25=>137|26=>138|27=>139|46=>167|47=>168|48=>169|49=>170|50=>171|57=>193|n=>n,fun|22=>98|24=>126|25=>133|3=>3|39=>139|0=>0|53=>170|55=>145|4=>4|46=>177|45=>176|50=>87|5=>5|9=>9|66=>201|70=>205|76=>217|77=>142|n=>n,fun|n=>n⟩
theorem Tryz.OF:Go.Proofs.SlLaysF0.n6 Tryz.prog Tryz.ZK:={ mixed:=by kernel_rfl,f6:=⟨f77.name,by kernel_rfl,fR func77⟩,f14:=⟨f105.name,by kernel_rfl,fR func105⟩,f15:=fR func106,f20:=⟨f132.name,by kernel_rfl,fR func132⟩,f21:=⟨f133.name,by kernel_rfl,fR func133⟩,f22:=⟨f134.name,by kernel_rfl,fR func134⟩,f23:=⟨f135.name,by kernel_rfl,fR func135⟩,f24:=⟨f136.name,by kernel_rfl,fR func136⟩,f25:=⟨Tryz.f137.name,by kernel_rfl,fR func137⟩,f26:=⟨f138.name,by kernel_rfl,fR func138⟩,f27:=⟨f139.name,by kernel_rfl,fR func139⟩,f28:=fR func140,f29:=fR func117,f46:=⟨f167.name,by kernel_rfl,fR func167⟩,f47:=fR func168,f48:=fR func169,f49:=⟨f170.name,by kernel_rfl,fR func170⟩,f50:=⟨Tryz.f171.name,by kernel_rfl,fR func171⟩,f57:=⟨f193.name,by kernel_rfl,fR func193⟩,t0:=underlying0,a0:=isAgg0,z0:=sizeOf0,v0:=zeroValue0,t3:=underlying3,a3:=isAgg3,z3:=sizeOf3,v3:=zeroValue3,t4:=underlying4,a4:=isAgg4,z4:=sizeOf4,v4:=zeroValue4,t5:=underlying5,a5:=isAgg5,z5:=sizeOf5,v5:=zeroValue5,t9:=underlying9,a9:=isAgg9,z9:=sizeOf9,v9:=zeroValue9,t22:=underlying98,a22:=isAgg98,z22:=sizeOf98,v22:=zeroValue98,t25:=underlying133,a25:=isAgg133,z25:=sizeOf133,v25:=zeroValue133,t39:=underlying139,a39:=isAgg139,z39:=sizeOf139,v39:=zeroValue139,t45:=underlying176,a45:=isAgg176,z45:=sizeOf176,v45:=zeroValue176,t46:=underlying177,a46:=isAgg177,z46:=sizeOf177,v46:=zeroValue177,t50:=underlying87,a50:=isAgg87,z50:=sizeOf87,v50:=zeroValue87,t53:=underlying170,a53:=isAgg170,z53:=sizeOf170,v53:=zeroValue170,t55:=underlying145,a55:=isAgg145,z55:=sizeOf145,v55:=zeroValue145,t66:=underlying201,a66:=isAgg201,z66:=sizeOf201,v66:=zeroValue201,t70:=underlying205,a70:=isAgg205,z70:=sizeOf205,v70:=zeroValue205,t76:=underlying217,a76:=isAgg217,z76:=sizeOf217,v76:=zeroValue217,t77:=underlying142,a77:=isAgg142,z77:=sizeOf142,v77:=zeroValue142 }
end Go.Proofs
namespace Go.Proofs.jq
open Go Go.AL Go.Proofs Tryz
noncomputable section
abbrev P:aj:=Tryz.prog
attribute [instance] x_
theorem hm:P.follows .mixedOrders=true:=Tryz.checked.mixed
theorem tP{τ:aH}{L:LT}(g:aJ P τ){sp:aO}{fn:Func}(k:P.funcs[sp.f]? = some fn)(q:aZ P sp.c8.length L (bk fn))(hB:rF P τ L fn sp:=by intro d;kernel_rfl)(hb:fn.body.isSome=true:=by kernel_rfl)(h:om sp.c8=true:=by kernel_rfl)(v:iD P sp.f=true:=by kernel_rfl)(y:zy sp=true:=by kernel_rfl):aJ P (τ.bp sp):=g.bp v y (mw hm g k hb q hB h)
theorem tW{τ:aH}{L:LT}(g:aJ P τ){sp:aO}{fn:Func}(k:P.funcs[sp.f]? = some fn)(q:aZ P sp.c8.length L (bk fn))(hB:rF P τ L fn sp:=by intro d;kernel_rfl)(hb:fn.body.isSome=true:=by kernel_rfl)(h:om sp.c8=true:=by kernel_rfl)(v:iD P sp.f=true:=by kernel_rfl)(y:we sp=true:=by kernel_rfl):aJ P (τ.dO sp):=g.dO v y (mw hm g k hb q hB h)
theorem cY{τ:aH}(h:aJ P τ){sp:aO}{fn:Func}(k:P.funcs[sp.f]? = some fn)(hB:rF P τ bJ fn sp:=by intro d;kernel_rfl)(hb:fn.body.isSome=true:=by kernel_rfl)(g:om sp.c8=true:=by kernel_rfl)(q:iD P sp.f=true:=by kernel_rfl)(v:zy sp=true:=by kernel_rfl):aJ P (τ.bp sp):=tP h k (bL _ _ _) hB hb g q v
theorem nq{τ:aH}(h:aJ P τ){sp:aO}{fn:Func}(k:P.funcs[sp.f]? = some fn)(hB:rF P τ bJ fn sp:=by intro d;kernel_rfl)(hb:fn.body.isSome=true:=by kernel_rfl)(g:om sp.c8=true:=by kernel_rfl)(q:iD P sp.f=true:=by kernel_rfl)(v:we sp=true:=by kernel_rfl):aJ P (τ.dO sp):=tW h k (bL _ _ _) hB hb g q v
theorem lA{τ:aH}{m:Nat}{L:LT}(g:aJ P τ){fn:Func}{sp:bG}(h:aZ P m L (bk fn))(k:v_ P τ L m (zi fn sp.key) sp:=by intro d;kernel_rfl) (q:nodupB ((cw (bk fn)).map (·.1))=true:=by kernel_rfl):aZ P m (L.add m sp) (bk fn):=aZ.a hm g h k q
theorem lC{τ:aH}{m:Nat}{L:LT}(g:aJ P τ){fn:Func}{sp:bG}(h:aZ P m L (bk fn))(k:tO P τ L m (fT fn sp.key) sp:=by intro d;kernel_rfl) (q:qh sp.key (cA (bk fn))=true:=by kernel_rfl):aZ P m (L.fU m sp) (bk fn):=aZ.aC hm g h k q
def eP(a b:BY):Int:=Lib.compareBytes a.data.toList b.data.toList
def OG(s:BY)(c:Int):Int:=Lib.indexByte s.data.toList c.toNat.toUInt8
def trimB(s d:BY):BY:=⟨(Lib.trimS s.data.toList d.data.toList).toArray⟩
def bQ(n:Int):BY:=⟨(Lib.decDigits n.toNat).toArray⟩
def OH(d:BY):Bool:=d.data.toList.all fun b=>cS b.toNat 128
def wB(a b:BY):Bool:=a.data.toList==b.data.toList
theorem OI{a b:BY}(h:wB a b=true):a=b:=by
 unfold wB at h;rw[beq_iff_eq]at h;cases a with
 | mk a =>
  cases b with
  | mk b =>
   congr 1;exact Array.ext' h
def zP{α:Type}:List (BY × α)->BY->Option α
 | [],_=>none
 |(k,v)::l,s=>bif wB k s then some v else zP l s
theorem Ij{α:Type}{s:BY}{v:α}:∀{l:List (BY × α)},zP l s=some v->(s,v)∈l
 | [],h=>by cases h
 | (k,u)::l,h=>by
  simp only[zP]at h;cases d:wB k s with
  | true =>
   rw[d]at h;cases h;rw[OI d];exact List.mem_cons_self
  | false =>
   rw[d]at h;exact List.mem_cons_of_mem _ (Ij h)
abbrev dp:List Kd:=[.I,.I,.str,.I]
abbrev aK:List Kd:=[.I,.I,.str,.str,.I,.I,.str,.str]
abbrev OJ:List Kd:=[.str,.str,.str,.I,.str]
def t0:aH:=MZ []
theorem ZL:aJ P t0:=XM P _
def ox(d:LG):Option LG:=some [.i (eP (gi d 0).sV (gi d 1).sV)]
abbrev aq:Sh:=.s .I
abbrev cL:Sh:=.s (.str)
abbrev da:Sh:=.s (.bool)
abbrev jH:Sh:=.s (.list aK)
abbrev gR:Sh:=.s (.list [.I])
abbrev nr:Sh:=.s (.row [.str,.list aK])
abbrev OK:Sh:=.s (.addr)
def OL:aO:=⟨65,[cL,cL],[],[],[aq],[],[],[],ox⟩
theorem ZM:iT P OL:=fun d r (h:ox d=some r)=>by
 cases h;exact(zk (vs:=[.string (gi d 0).sV,.string (gi d 1).sV]) fun w=>(Proofs.Any.strings_Compare Tryz.ZC (gi d 0).sV (gi d 1).sV w).mono fun e w' h=>⟨h.1,h.2▸Ext.refl w⟩) []
def t1:aH:=t0.bp OL
theorem ZN:aJ P t1:=ZL.aP ZM
def Ds(d:LG):Option LG:=some [.i (OG (gi d 0).sV (gi d 1).iV)]
def OM:aO:=⟨175,[cL,.s (.int .u8)],[],[],[aq],[],[],[],Ds⟩
theorem ZO:iT P OM:=fun d r (h:Ds d=some r)=>by
 cases h;exact(zk (vs:=[.string (gi d 0).sV,.int .u8 (gi d 1).iV]) fun w=>(Proofs.Any.strings_IndexByte Tryz.ZE (gi d 0).sV (gi d 1).iV w).mono fun e w' h=>⟨h.1,h.2▸Ext.refl w⟩) []
def t2:aH:=t1.bp OM
theorem ZP:aJ P t2:=ZN.aP ZO
def pg(d:LG):Option LG:=bif (aM (gi d 0).iV&&ax (gi d 0).iV 100) then some [.s (bQ (gi d 0).iV)] else none
def ON:aO:=⟨28,[aq],[],[],[cL],[],[],[],pg⟩
theorem ZQ:iT P ON:=fun d r (h:pg d=some r)=>by
 unfold pg at h;cases hb:(aM (gi d 0).iV&&ax (gi d 0).iV 100)with
 |false=>rw[hb]at h; cases h
 | true =>
  rw[hb]at h;cases h;simp only[aL,jm,cB,dT]at hb;have e:(gi d 0).iV=((gi d 0).iV.toNat:Int):=by omega
  have key:dM P 28 [.lit (.int .i64 (gi d 0).iV)] (.lit (.string (bQ (gi d 0).iV))):=by
   rw[e];exact zk (vs:=[.int .i64 ((gi d 0).iV.toNat:Int)]) fun w=>(Proofs.Any.strconv_Itoa_small Tryz.ZJ (gi d 0).iV.toNat (by omega) w).mono fun e w' h=>⟨h.1,h.2▸Ext.refl w⟩
  exact key []
def t3:aH:=t2.bp ON
theorem ZR:aJ P t3:=ZP.aP ZQ
def Dt(d:LG):Option LG:=bif (OH (gi d 1).sV&&(eh 2 (gi d 1).sV.size&&(cS (gi d 1).sV.size 4294967281&&(eh 1 (gi d 0).sV.size&&eh (gi d 0).sV.size 9223372036854775807)))) then some [.s (trimB (gi d 0).sV (gi d 1).sV)] else none
def OO:aO:=⟨164,[cL,cL],[],[],[cL],[],[],[],Dt⟩
theorem ZS:iT P OO:=fun d r (h:Dt d=some r)=>by
 unfold Dt at h;cases hb:(OH (gi d 1).sV&&(eh 2 (gi d 1).sV.size&&(cS (gi d 1).sV.size 4294967281&&(eh 1 (gi d 0).sV.size&&eh (gi d 0).sV.size 9223372036854775807))))with
 |false=>rw[hb]at h; cases h
 | true =>
  rw[hb]at h;cases h;simp only[aL,iL,Nat.ble_eq]at hb;have g:(Tryz.prog.info? (Tryz.OE.t 116)).map (fun i=>(i.zero,i.size))=some (some (.agg (Array.replicate 256 (.bool false))),256):=by kernel_rfl
  exact(zk (vs:=[.string (gi d 0).sV,.string (gi d 1).sV]) fun w=>(Proofs.Any.strings_Trim_set Tryz.ZF (zero_of_info g).1 (zero_of_info g).2 (gi d 0).sV (gi d 1).sV w hb.2.1 hb.2.2.2.1 hb.2.2.2.2 hb.2.2.1 fun j b k=>by
   have:=List.all_eq_true.1 hb.1 b (List.mem_of_getElem? k);simpa[iL]using this).mono fun _ _ h=>⟨h.1,by
    obtain⟨_,q,rfl⟩:=h;exact((Ext.push w _).trans (Ext.push _ _)).trans (Ext.drawn _ _ (Nat.le_add_right _ _))⟩) []
def t4:aH:=t3.bp OO
theorem ZT:aJ P t4:=ZR.aP ZS
def OP(d:LG):Option LG:=some [.i (OG (gi d 0).sV (gi d 1).iV)]
def OQ:aO:=⟨180,[cL,.s (.int .u8)],[],[],[aq],[],[],[],OP⟩
theorem ZU:iT P OQ:=fun d r (h:OP d=some r)=>by
 cases h;exact(zk (vs:=[.string (gi d 0).sV,.int .u8 (gi d 1).iV]) fun w=>(Proofs.Any.stringslite_IndexByte Tryz.ZH (gi d 0).sV (gi d 1).iV w).mono fun e w' h=>⟨h.1,h.2▸Ext.refl w⟩) []
def t5:aH:=t4.bp OQ
theorem OR:aJ P t5:=ZT.aP ZU
end
end Go.Proofs.jq
