/-
 What is proved here: functions of the program as functions on data. No condition.
-/
import Derived.Test.YtbogdflhnhohfaaGreatDoorMH
import Derived.Test.YtbogdflhnhohfaaGreatDoorChecked
import Derived.Shelf.Small.Strs
import Derived.Shelf.Strconv.Itoa3
import Derived.Shelf.Strings.Search1
import Derived.Shelf.Strings.SlTrimAscii
open Bool renaming and_eq_true->aK
open Go renaming Program->aj
open Nat renaming ble->dS,blt->dq,blt_eq->iZ
set_option linter.all false
namespace Go.AL
noncomputable section
inductive Kq where
 |l|i|s|t
def kp(d:LG):Nat->List Kq->LG->LG
 |_,[],r=>r
 |k,.l::q,r=>.l (gi d k).rZ::kp d (k+1) q r
 |k,.i::q,r=>.i (gi d k).iV::kp d (k+1) q r
 |k,.s::q,r=>.s (gi d k).sV::kp d (k+1) q r
 |k,.t::q,r=>.t (gi d k).bV::kp d (k+1) q r
attribute [go_sem] kp
abbrev bE{α:Type}(q:List α):Bool:=Nat.beq q.length q.length&&true
abbrev nL(a b:Int):Bool:=cJ a&&aO a b
abbrev lI{α:Type}(q:List α):Int:=((q.length:Nat):Int)
abbrev nQ(x:LG):Option (Option Nat × LG):=some (none,x)
abbrev eQ(x:LG):Option (Option Nat × LG):=some (some 0,x)
abbrev eR(x:LG):Option (Option Nat × LG):=some (some 1,x)
attribute [go_sem] bE nL lI nQ eQ eR
abbrev gd{α:Type}(c:Bool)(x:Option α):Option α:=bif c then x else none
attribute [go_sem] gd
def fR{α:Type}{a:Option α}{x y:α}(h:a=some x)(e:x=y:=by kernel_rfl):a=some y:=h.trans (congrArg some e)
section
variable [Dr]
def aI.aP{P:aj}{τ:aD}(h:aI P τ){sp:aL}(d:iO P sp)(hb:iJ P sp.f=true:=by kernel_rfl)(g:zY sp=true:=by kernel_rfl):aI P (τ.bk sp):=h.bk hb g d
def aI.aW{P:aj}{τ:aD}(h:aI P τ){sp:aL}(d:iO P sp)(hb:iJ P sp.f=true:=by kernel_rfl)(g:wI sp=true:=by kernel_rfl):aI P (τ.dm sp):=h.dm hb g d
def aT.a{P:aj}{τ:aD}{m:Nat}{L:LT}(hm:P.follows .mixedOrders=true)(d:aI P τ){fn:Func}{sp:br}(g:aT P m L (be fn))(h:wF P τ L m (zM fn sp.key) sp) (hn:nodupB ((cy (be fn)).map (·.1))=true:=by kernel_rfl):aT P m (L.add m sp) (be fn):=aT.add hm d hn g h
def aT.aC{P:aj}{τ:aD}{m:Nat}{L:LT}(hm:P.follows .mixedOrders=true)(d:aI P τ){fn:Func}{sp:br}(g:aT P m L (be fn))(h:uc P τ L m (fU fn sp.key) sp) (hn:qw sp.key (cC (be fn))=true:=by kernel_rfl):aT P m (L.fl m sp) (be fn):=aT.fl hm d hn g h
def jR{P:aj}{τ:aD}{L:LT}(hm:P.follows .mixedOrders=true)(g:aI P τ){sp:aL}{fn:Func}(h:P.funcs[sp.f]? = some fn)(k:aT P sp.c7.length L (be fn))(hB:rQ P τ L fn sp)(hb:fn.body.isSome=true:=by kernel_rfl)(d:oL sp.c7=true:=by kernel_rfl):iO P sp:=lZ hm g h hb k hB d
end
end
end Go.AL
set_option linter.all false
namespace Go.Proofs
open Go.Shelf Go.RowKit Go.AL
set_option maxHeartbeats 4000000
def Tryz.aaR:Go.Shelf.Ren:=⟨fun|106=>56|213=>79|265=>100|n=>n,fun|9=>9|3=>3|n=>n,fun|n=>n⟩
def Tryz.aaS:Go.Proofs.Lays.n106 Tryz.prog Tryz.aaR:={ mixed:=by kernel_rfl,f106:=fR func56,f213:=fR func79,f265:=fR func100,t3:=underlying3,a3:=isAgg3,z3:=sizeOf3,v3:=zeroValue3,t9:=underlying9,a9:=isAgg9,z9:=sizeOf9,v9:=zeroValue9 }
def Tryz.aaT:Go.Shelf.Ren:=⟨fun|137=>175|217=>178|266=>197|n=>n,fun|9=>9|5=>5|3=>3|n=>n,fun|n=>n⟩
def Tryz.aaU:Go.Proofs.Lays.n137 Tryz.prog Tryz.aaT:={ mixed:=by kernel_rfl,f137:=fR func175,f217:=fR func178,f266:=fR func197,t3:=underlying3,a3:=isAgg3,z3:=sizeOf3,v3:=zeroValue3,t5:=underlying5,a5:=isAgg5,z5:=sizeOf5,v5:=zeroValue5,t9:=underlying9,a9:=isAgg9,z9:=sizeOf9,v9:=zeroValue9 }
def Tryz.Pz:Go.Shelf.Ren:=⟨fun|160=>157|232=>186|231=>185|227=>154|234=>188|233=>187|236=>190|235=>189|228=>155|271=>156|151=>200|197=>184|120=>183|152=>152|260=>199|137=>175|119=>182|224=>180|225=>179|217=>178|266=>197|n=>n,fun|9=>9|4=>4|3=>3|5=>5|117=>185|116=>184|0=>0|124=>206|21=>21|105=>188|46=>115|119=>220|139=>223|138=>222|n=>n,fun|3=>4|4=>5|n=>n⟩
def Tryz.aaV:Go.Proofs.Lays.n160 Tryz.prog Tryz.Pz:={ mixed:=by kernel_rfl,f119:=fR func182,f120:=fR func183,f137:=fR func175,f151:=fR func200,f152:=fR func152,f160:=fR func157,f197:=fR func184,f217:=fR func178,f224:=fR func180,f225:=fR func179,f227:=fR func154,f228:=fR func155,f231:=fR func185,f232:=fR func186,f233:=fR func187,f234:=fR func188,f235:=fR func189,f236:=fR func190,f260:=fR func199,f266:=fR func197,f271:=fR func156,t0:=underlying0,a0:=isAgg0,z0:=sizeOf0,v0:=zeroValue0,t3:=underlying3,a3:=isAgg3,z3:=sizeOf3,v3:=zeroValue3,t4:=underlying4,a4:=isAgg4,z4:=sizeOf4,v4:=zeroValue4,t5:=underlying5,a5:=isAgg5,z5:=sizeOf5,v5:=zeroValue5,t9:=underlying9,a9:=isAgg9,z9:=sizeOf9,v9:=zeroValue9,t21:=underlying21,a21:=isAgg21,z21:=sizeOf21,v21:=zeroValue21,t46:=underlying115,a46:=isAgg115,z46:=sizeOf115,v46:=zeroValue115,t105:=underlying188,a105:=isAgg188,z105:=sizeOf188,v105:=zeroValue188,t116:=underlying184,a116:=isAgg184,z116:=sizeOf184,t117:=underlying185,a117:=isAgg185,z117:=sizeOf185,v117:=zeroValue185,t119:=underlying220,a119:=isAgg220,z119:=sizeOf220,t124:=underlying206,a124:=isAgg206,z124:=sizeOf206,v124:=zeroValue206,t138:=underlying222,a138:=isAgg222,z138:=sizeOf222,v138:=zeroValue222,t139:=underlying223,a139:=isAgg223,z139:=sizeOf223,v139:=zeroValue223,g3:=by kernel_rfl,g4:=by kernel_rfl }
def Tryz.aaW:Go.Shelf.Ren:=⟨fun|217=>178|266=>197|n=>n,fun|9=>9|5=>5|3=>3|n=>n,fun|n=>n⟩
def Tryz.aaX:Go.Proofs.Lays.n217 Tryz.prog Tryz.aaW:={ mixed:=by kernel_rfl,f217:=fR func178,f266:=fR func197,t3:=underlying3,a3:=isAgg3,z3:=sizeOf3,v3:=zeroValue3,t5:=underlying5,a5:=isAgg5,z5:=sizeOf5,v5:=zeroValue5,t9:=underlying9,a9:=isAgg9,z9:=sizeOf9,v9:=zeroValue9 }
def Tryz.aaY:Go.Shelf.Ren:=⟨fun|171=>31|243=>64|246=>85|283=>102|284=>103|285=>104|286=>105|129=>123|317=>122|318=>124|319=>125|320=>126|337=>149|338=>150|n=>n,fun|3=>3|9=>9|2=>2|4=>4|171=>135|0=>0|53=>136|37=>139|5=>5|173=>140|212=>162|51=>163|20=>20|213=>164|46=>115|232=>203|233=>204|n=>n,fun|17=>1|18=>2|19=>3|n=>n⟩
def Tryz.aaZ:Go.Proofs.Lays.n171 Tryz.prog Tryz.aaY:={ mixed:=by kernel_rfl,f129:=fR func123,f171:=fR func31,f243:=fR func64,f246:=fR func85,f283:=fR func102,f284:=fR func103,f285:=fR func104,f286:=fR func105,f317:=fR func122,f318:=fR func124,f319:=fR func125,f320:=fR func126,f337:=fR func149,f338:=fR func150,t0:=underlying0,a0:=isAgg0,z0:=sizeOf0,v0:=zeroValue0,t2:=underlying2,a2:=isAgg2,z2:=sizeOf2,v2:=zeroValue2,t3:=underlying3,a3:=isAgg3,z3:=sizeOf3,v3:=zeroValue3,t4:=underlying4,a4:=isAgg4,z4:=sizeOf4,v4:=zeroValue4,t5:=underlying5,a5:=isAgg5,z5:=sizeOf5,v5:=zeroValue5,t9:=underlying9,a9:=isAgg9,z9:=sizeOf9,v9:=zeroValue9,t20:=underlying20,a20:=isAgg20,z20:=sizeOf20,v20:=zeroValue20,t37:=underlying139,a37:=isAgg139,z37:=sizeOf139,v37:=zeroValue139,t46:=underlying115,a46:=isAgg115,z46:=sizeOf115,v46:=zeroValue115,t51:=underlying163,a51:=isAgg163,z51:=sizeOf163,v51:=zeroValue163,t53:=underlying136,a53:=isAgg136,z53:=sizeOf136,v53:=zeroValue136,t171:=underlying135,a171:=isAgg135,z171:=sizeOf135,v171:=zeroValue135,t173:=underlying140,a173:=isAgg140,z173:=sizeOf140,v173:=zeroValue140,t212:=underlying162,a212:=isAgg162,z212:=sizeOf162,v212:=zeroValue162,t213:=underlying164,a213:=isAgg164,z213:=sizeOf164,t232:=underlying203,a232:=isAgg203,z232:=sizeOf203,v232:=zeroValue203,t233:=underlying204,a233:=isAgg204,z233:=sizeOf204,v233:=zeroValue204,g17:=by kernel_rfl,g18:=by kernel_rfl,g19:=by kernel_rfl }
def Tryz.aa0:Go.Shelf.Ren:=⟨fun|6=>113|15=>137|14=>136|28=>171|29=>123|20=>163|21=>164|22=>165|23=>166|24=>167|25=>168|26=>169|27=>170|46=>191|47=>192|48=>193|49=>194|50=>195|57=>201|n=>n,fun|22=>128|24=>149|25=>156|3=>3|39=>115|0=>0|53=>163|55=>136|4=>4|46=>195|45=>194|50=>62|5=>5|9=>9|66=>209|70=>213|76=>218|77=>133|n=>n,fun|n=>n⟩
def Tryz.PA:Go.Proofs.SlLaysF0.n6 Tryz.prog Tryz.aa0:={ mixed:=by kernel_rfl,f6:=⟨f113.name,by kernel_rfl,fR func113⟩,f14:=⟨f136.name,by kernel_rfl,fR func136⟩,f15:=fR func137,f20:=⟨f163.name,by kernel_rfl,fR func163⟩,f21:=⟨f164.name,by kernel_rfl,fR func164⟩,f22:=⟨f165.name,by kernel_rfl,fR func165⟩,f23:=⟨f166.name,by kernel_rfl,fR func166⟩,f24:=⟨f167.name,by kernel_rfl,fR func167⟩,f25:=⟨f168.name,by kernel_rfl,fR func168⟩,f26:=⟨f169.name,by kernel_rfl,fR func169⟩,f27:=⟨f170.name,by kernel_rfl,fR func170⟩,f28:=fR func171,f29:=fR func123,f46:=⟨f191.name,by kernel_rfl,fR func191⟩,f47:=fR func192,f48:=fR func193,f49:=⟨f194.name,by kernel_rfl,fR func194⟩,f50:=⟨f195.name,by kernel_rfl,fR func195⟩,f57:=⟨f201.name,by kernel_rfl,fR func201⟩,t0:=underlying0,a0:=isAgg0,z0:=sizeOf0,v0:=zeroValue0,t3:=underlying3,a3:=isAgg3,z3:=sizeOf3,v3:=zeroValue3,t4:=underlying4,a4:=isAgg4,z4:=sizeOf4,v4:=zeroValue4,t5:=underlying5,a5:=isAgg5,z5:=sizeOf5,v5:=zeroValue5,t9:=underlying9,a9:=isAgg9,z9:=sizeOf9,v9:=zeroValue9,t22:=underlying128,a22:=isAgg128,z22:=sizeOf128,v22:=zeroValue128,t25:=underlying156,a25:=isAgg156,z25:=sizeOf156,v25:=zeroValue156,t39:=underlying115,a39:=isAgg115,z39:=sizeOf115,v39:=zeroValue115,t45:=underlying194,a45:=isAgg194,z45:=sizeOf194,v45:=zeroValue194,t46:=underlying195,a46:=isAgg195,z46:=sizeOf195,v46:=zeroValue195,t50:=underlying62,a50:=isAgg62,z50:=sizeOf62,v50:=zeroValue62,t53:=underlying163,a53:=isAgg163,z53:=sizeOf163,v53:=zeroValue163,t55:=underlying136,a55:=isAgg136,z55:=sizeOf136,v55:=zeroValue136,t66:=underlying209,a66:=isAgg209,z66:=sizeOf209,v66:=zeroValue209,t70:=underlying213,a70:=isAgg213,z70:=sizeOf213,v70:=zeroValue213,t76:=underlying218,a76:=isAgg218,z76:=sizeOf218,v76:=zeroValue218,t77:=underlying133,a77:=isAgg133,z77:=sizeOf133,v77:=zeroValue133 }
end Go.Proofs
namespace Go.Proofs.iQ
open Go Go.AL Go.Proofs Tryz
noncomputable section
noncomputable abbrev P:aj:=Tryz.prog
attribute [instance] yB
def hm:P.follows .mixedOrders=true:=Tryz.checked.mixed
def tP{τ:aD}{L:LT}(g:aI P τ){sp:aL}{fn:Func}(k:P.funcs[sp.f]? = some fn)(q:aT P sp.c7.length L (be fn))(hB:rQ P τ L fn sp:=by intro d;kernel_rfl)(hb:fn.body.isSome=true:=by kernel_rfl)(h:oL sp.c7=true:=by kernel_rfl)(v:iJ P sp.f=true:=by kernel_rfl)(y:zY sp=true:=by kernel_rfl):aI P (τ.bk sp):=g.bk v y (lZ hm g k hb q hB h)
def tW{τ:aD}{L:LT}(g:aI P τ){sp:aL}{fn:Func}(k:P.funcs[sp.f]? = some fn)(q:aT P sp.c7.length L (be fn))(hB:rQ P τ L fn sp:=by intro d;kernel_rfl)(hb:fn.body.isSome=true:=by kernel_rfl)(h:oL sp.c7=true:=by kernel_rfl)(v:iJ P sp.f=true:=by kernel_rfl)(y:wI sp=true:=by kernel_rfl):aI P (τ.dm sp):=g.dm v y (lZ hm g k hb q hB h)
def cU{τ:aD}(h:aI P τ){sp:aL}{fn:Func}(k:P.funcs[sp.f]? = some fn)(hB:rQ P τ bH fn sp:=by intro d;kernel_rfl)(hb:fn.body.isSome=true:=by kernel_rfl)(g:oL sp.c7=true:=by kernel_rfl)(q:iJ P sp.f=true:=by kernel_rfl)(v:zY sp=true:=by kernel_rfl):aI P (τ.bk sp):=tP h k (bI _ _ _) hB hb g q v
def mL{τ:aD}(h:aI P τ){sp:aL}{fn:Func}(k:P.funcs[sp.f]? = some fn)(hB:rQ P τ bH fn sp:=by intro d;kernel_rfl)(hb:fn.body.isSome=true:=by kernel_rfl)(g:oL sp.c7=true:=by kernel_rfl)(q:iJ P sp.f=true:=by kernel_rfl)(v:wI sp=true:=by kernel_rfl):aI P (τ.dm sp):=tW h k (bI _ _ _) hB hb g q v
def lA{τ:aD}{m:Nat}{L:LT}(g:aI P τ){fn:Func}{sp:br}(h:aT P m L (be fn))(k:wF P τ L m (zM fn sp.key) sp:=by intro d;kernel_rfl) (hn:nodupB ((cy (be fn)).map (·.1))=true:=by kernel_rfl):aT P m (L.add m sp) (be fn):=aT.a hm g h k hn
def lC{τ:aD}{m:Nat}{L:LT}(g:aI P τ){fn:Func}{sp:br}(h:aT P m L (be fn))(k:uc P τ L m (fU fn sp.key) sp:=by intro d;kernel_rfl) (hn:qw sp.key (cC (be fn))=true:=by kernel_rfl):aT P m (L.fl m sp) (be fn):=aT.aC hm g h k hn
def eT(a b:BY):Int:=Lib.compareBytes a.data.toList b.data.toList
def PB(s:BY)(c:Int):Int:=Lib.indexByte s.data.toList c.toNat.toUInt8
def trimB(s d:BY):BY:=⟨(Lib.trimS s.data.toList d.data.toList).toArray⟩
def kf(n:Int):BY:=⟨(Lib.decDigits n.toNat).toArray⟩
def PC(d:BY):Bool:=d.data.toList.all fun b=>dq b.toNat 128
def wX(a b:BY):Bool:=a.data.toList==b.data.toList
def PD{a b:BY}(h:wX a b=true):a=b:=by
 unfold wX at h;rw[beq_iff_eq]at h;cases a with
 | mk a =>
  cases b with
  | mk b =>
   congr 1;exact Array.ext' h
def Aw{α:Type}:List (BY × α)->BY->Option α
 | [],_=>none
 |(k,v)::l,s=>bif wX k s then some v else Aw l s
def I4{α:Type}{s:BY}{v:α}:∀{l:List (BY × α)},Aw l s=some v->(s,v)∈l
 | [],h=>by cases h
 | (k,u)::l,h=>by
  simp only[Aw]at h;cases d:wX k s with
  | true =>
   rw[d]at h;cases h;rw[PD d];exact List.mem_cons_self
  | false =>
   rw[d]at h;exact List.mem_cons_of_mem _ (I4 h)
abbrev au:List Kd:=[.I,.I,.str,.str,.I,.I,.str,.str]
abbrev dz:List Kd:=[.I,.I,.str,.I]
abbrev PE:List Kd:=[.str,.str,.str,.I,.str]
def t0:aD:=NW []
def aa1:aI P t0:=Y_ P _
def oP(d:LG):Option LG:=some [.i (eT (gi d 0).sV (gi d 1).sV)]
abbrev ak:Sh:=.s .I
abbrev bR:Sh:=.s (.str)
abbrev cN:Sh:=.s (.bool)
abbrev fK:Sh:=.s (.list au)
abbrev gQ:Sh:=.s (.list [.I])
abbrev mM:Sh:=.s (.row [.str,.list au])
abbrev PF:Sh:=.s (.addr)
def PG:aL:=⟨56,[bR,bR],[],[],[ak],[],[],[],oP⟩
def aa2:iO P PG:=fun d r (h:oP d=some r)=>by
 cases h;exact(zN (vs:=[.string (gi d 0).sV,.string (gi d 1).sV]) fun w=>(Proofs.Any.strings_Compare Tryz.aaS (gi d 0).sV (gi d 1).sV w).mono fun e w' h=>⟨h.1,h.2▸Ext.refl w⟩) []
def t1:aD:=t0.bk PG
def aa3:aI P t1:=aa1.aP aa2
def DW(d:LG):Option LG:=some [.i (PB (gi d 0).sV (gi d 1).iV)]
def PH:aL:=⟨175,[bR,.s (.int .u8)],[],[],[ak],[],[],[],DW⟩
def aa4:iO P PH:=fun d r (h:DW d=some r)=>by
 cases h;exact(zN (vs:=[.string (gi d 0).sV,.int .u8 (gi d 1).iV]) fun w=>(Proofs.Any.strings_IndexByte Tryz.aaU (gi d 0).sV (gi d 1).iV w).mono fun e w' h=>⟨h.1,h.2▸Ext.refl w⟩) []
def t2:aD:=t1.bk PH
def aa5:aI P t2:=aa3.aP aa4
def mN(d:LG):Option LG:=bif (cJ (gi d 0).iV&&aO (gi d 0).iV 100) then some [.s (kf (gi d 0).iV)] else none
def PI:aL:=⟨31,[ak],[],[],[bR],[],[],[],mN⟩
def aa6:iO P PI:=fun d r (h:mN d=some r)=>by
 unfold mN at h;cases hb:(cJ (gi d 0).iV&&aO (gi d 0).iV 100)with
 |false=>rw[hb]at h; cases h
 | true =>
  rw[hb]at h;cases h;simp only[aK,jM,cK,dT]at hb;have e:(gi d 0).iV=((gi d 0).iV.toNat:Int):=by omega
  have key:dP P 31 [.lit (.int .i64 (gi d 0).iV)] (.lit (.string (kf (gi d 0).iV))):=by
   rw[e];exact zN (vs:=[.int .i64 ((gi d 0).iV.toNat:Int)]) fun w=>(Proofs.Any.strconv_Itoa_small Tryz.aaZ (gi d 0).iV.toNat (by omega) w).mono fun e w' h=>⟨h.1,h.2▸Ext.refl w⟩
  exact key []
def t3:aD:=t2.bk PI
def aa7:aI P t3:=aa5.aP aa6
def DX(d:LG):Option LG:=bif (PC (gi d 1).sV&&(dS 2 (gi d 1).sV.size&&(dq (gi d 1).sV.size 4294967281&&(dS 1 (gi d 0).sV.size&&dS (gi d 0).sV.size 9223372036854775807)))) then some [.s (trimB (gi d 0).sV (gi d 1).sV)] else none
def PJ:aL:=⟨157,[bR,bR],[],[],[bR],[],[],[],DX⟩
def aa8:iO P PJ:=fun d r (h:DX d=some r)=>by
 unfold DX at h;cases hb:(PC (gi d 1).sV&&(dS 2 (gi d 1).sV.size&&(dq (gi d 1).sV.size 4294967281&&(dS 1 (gi d 0).sV.size&&dS (gi d 0).sV.size 9223372036854775807))))with
 |false=>rw[hb]at h; cases h
 | true =>
  rw[hb]at h;cases h;simp only[aK,iZ,Nat.ble_eq]at hb;have g:(Tryz.prog.info? (Tryz.Pz.t 116)).map (fun i=>(i.zero,i.size))=some (some (.agg (Array.replicate 256 (.bool false))),256):=by kernel_rfl
  exact(zN (vs:=[.string (gi d 0).sV,.string (gi d 1).sV]) fun w=>(Proofs.Any.strings_Trim_set Tryz.aaV (zero_of_info g).1 (zero_of_info g).2 (gi d 0).sV (gi d 1).sV w hb.2.1 hb.2.2.2.1 hb.2.2.2.2 hb.2.2.1 fun j b k=>by
   have:=List.all_eq_true.1 hb.1 b (List.mem_of_getElem? k);simpa[iZ]using this).mono fun _ _ h=>⟨h.1,by
    obtain⟨_,q,rfl⟩:=h;exact((Ext.push w _).trans (Ext.push _ _)).trans (Ext.drawn _ _ (Nat.le_add_right _ _))⟩) []
def t4:aD:=t3.bk PJ
def aa9:aI P t4:=aa7.aP aa8
def PK(d:LG):Option LG:=some [.i (PB (gi d 0).sV (gi d 1).iV)]
def PL:aL:=⟨178,[bR,.s (.int .u8)],[],[],[ak],[],[],[],PK⟩
def aa_:iO P PL:=fun d r (h:PK d=some r)=>by
 cases h;exact(zN (vs:=[.string (gi d 0).sV,.int .u8 (gi d 1).iV]) fun w=>(Proofs.Any.stringslite_IndexByte Tryz.aaX (gi d 0).sV (gi d 1).iV w).mono fun e w' h=>⟨h.1,h.2▸Ext.refl w⟩) []
def t5:aD:=t4.bk PL
def PM:aI P t5:=aa9.aP aa_
end
end Go.Proofs.iQ
