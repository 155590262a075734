/-
 What is proved here: what the methods of the stream give on data. No condition.
-/
import Derived.Test.YtnijefkndkgebaaGreatDoorML5
import Derived.Test.YtnijefkndkgebaaGreatDoorME
set_option linter.all false
open Bool renaming and_true→fC,and_eq_true→aA,true_and→oB,not_eq_true'→mM,not_true→Hu,eq_iff_iff→oF
open Function renaming comp→HA
open Go.ByteArray renaming toList_eq→wN
open Go.Lib renaming compareBytes→gA
open Go.Op renaming bytesLess→lI
open Int renaming toNat_natCast→a8,tdiv→mQ,tmod→ji,tmod_lt_of_pos→ah1,tmod_eq_emod_of_nonneg→ah2,mul_nonneg→ah3,le_refl→s9,le_trans→HK,eq_ofNat_of_zero_le→ah'
open List renaming length_cons→cz,append_nil→c_,append_assoc→fY,getElem?_append_left→cK,length_map→dz,mem_map→dF,getElem?_map→cd,getElem_of_mem→ow,getElem?_eq_getElem→bO,getElem?_eq_none→lH,getElem?_append_right→gL,getElem?_set_self→bB,getElem?_set→dR,all_eq_true→cR,getD_eq_getElem?_getD→cr,mem_cons→bZ,map_cons→dw,cons_append→lL,ext_getElem?→jF,length_set→j_,length_append→e9,mem_append→cS,flatten_cons→oy,nil_append→jG,replicate→bL,length_range→sR,mem_cons_self→cT,mem_cons_of_mem→cY,length_replicate→wy,map_append→kf,nodup_cons→lQ,range→dG,mem_append_left→qc,any_eq_true→jH,mem_range→eu,mem_singleton→wE,length_nil→kV,map_nil→sW,not_mem_nil→sZ,getElem?_range→s7,getElem_mem→mP,mem_append_right→wH,filter_cons→HC,range_succ→HF,pairwise_map→s8,pairwise_iff_getElem→SQ,pairwise_cons→kW,eq_replicate_iff→ah6,getElem?_replicate→ah7,sum_cons→SX,foldl_append→ah8,filter_nil→SY,nodup_append→ah9,Nodup→HL,any_cons→S0,length_singleton→S1
open List.Pairwise renaming take→ais
open Nat renaming le_refl→aG,le_trans→lG,zero_le→eh,lt_or_ge→jg,zero_add→cF,beq→ad,ble→dH,blt→fa,ble_eq→AJ,beq_refl→oH,exists_eq_add_of_le→ah5,le_succ_of_le→SZ,lt_trichotomy→ah_,le_of_not_lt→aia
open Option renaming map_some→eF,getD_some→lP
open UInt8 renaming le_antisymm→SU,not_lt→wM,lt_irrefl→SV,lt_trans→ah4
namespace Go.Proofs.iE
open Go Go.AL Go.Proofs
noncomputable section
theorem Gj(x n:Int)(h0:1≤n)(h1:n≤1099511627776):aa (rO [.i x,.i n]) fun g=>∃ v,g=[.i v]∧0≤v∧v<n:=by
 unfold rO
 (dsimp +instances only[Aa,Ab,Ac,Ad,Ae,Af,Ag])
 have ha:=ah1 x (by omega:0<n);have hb:=Int.lt_tmod_of_pos x (by omega:0<n)
 (repeat first|refine aa.p ?_|refine aa.n ?_)
 refine aa.test (fun h=>?_) fun h=>?_
 ·simp only [dY, decide_eq_true_eq] at h
  (repeat first|refine aa.p ?_|refine aa.n ?_)
  exact aa.some ⟨_,rfl,by omega,by omega⟩
 ·simp only [dY, decide_eq_false_iff_not] at h
  exact aa.some ⟨_,rfl,by omega,by omega⟩
theorem vU(l:List (List G))(a n:Int)(ha:0≤a)(J:a≤1000000)(h0:1≤n)(h1:n≤1099511627776) :
  aa (nO [.l l,.i a,.i n]) fun g=>∃ v,g=[.l l,.i (a+1),.i v]∧0≤v∧v<n:=by
 unfold nO
 (dsimp +instances only[Aa,Ab,Ac,Ad,Ae,Af,Ag])
 have y:a+1-1=a:=by omega
 simp only[y];by_cases M:l.length=0
 ·(repeat first|refine aa.p ?_|refine aa.n ?_)
  refine aa.call (Gj _ n h0 h1) ?_;rintro _ ⟨v,rfl,d,h⟩
  (dsimp +instances only[Aa,Ab,Ac,Ad,Ae,Af,Ag])
  exact aa.some ⟨v,rfl,d,h⟩
 ·have B : (0 : Int) < (l.length : Int) := by omega
  have d0:0≤mQ a l.length:=Int.tdiv_nonneg ha (by omega);have d1:mQ a l.length≤a:=by
   rw[Int.tdiv_eq_ediv_of_nonneg ha];exact Int.ediv_le_self _ ha
  have m0:0≤ji a l.length:=by
   rw[ah2 ha];exact Int.emod_nonneg _ (by omega)
  have m1:ji a l.length<l.length:=ah1 a B;have m2:ji a l.length≤a:=by
   rw[ah2 ha];have:=Int.mul_ediv_add_emod a l.length;have k:0≤(l.length:Int)*(a / l.length):=ah3 (by omega) (Int.ediv_nonneg ha (by omega));omega
  generalize N:mQ a l.length=q at *;generalize O:ji a l.length=r at *;have p0:0≤q*(7919+r):=ah3 d0 (by omega);have p1:q*(7919+r)≤1000000*2000000:=Int.mul_le_mul (by omega) (by omega) (by omega) (by omega);generalize U:q*(7919+r)=z at *
  (repeat first|refine aa.p ?_|refine aa.n ?_)
  refine aa.call (Gj _ 1073741824 (by omega) (by omega)) ?_;rintro _ ⟨u,rfl,d,h⟩
  (dsimp +instances only[Aa,Ab,Ac,Ad,Ae,Af,Ag])
  (repeat first|refine aa.p ?_|refine aa.n ?_)
  refine aa.call (Gj _ n h0 h1) ?_;rintro _ ⟨v,rfl,k,I⟩
  (dsimp +instances only[Aa,Ab,Ac,Ad,Ae,Af,Ag])
  exact aa.some ⟨v,rfl,k,I⟩
theorem QM(l:List (List G))(a lo hi:Int)(ha:0≤a)(d:a≤1000000)(h0:lo≤hi)(h1 : -1000000000≤lo)(h:hi≤1000000000) :
  aa (vn [.l l,.i a,.i lo,.i hi]) fun g=>∃ v,g=[.l l,.i (a+1),.i v]∧lo≤v∧v≤hi:=by
 unfold vn
 (dsimp +instances only[Aa,Ab,Ac,Ad,Ae,Af,Ag])
 (repeat first|refine aa.p ?_|refine aa.n ?_)
 refine aa.call (vU l a _ ha d (by omega) (by omega)) ?_;rintro _ ⟨v,rfl,k,q⟩
 (dsimp +instances only[Aa,Ab,Ac,Ad,Ae,Af,Ag])
 (repeat first|refine aa.p ?_|refine aa.n ?_)
 exact aa.some ⟨_,rfl,by omega,by omega⟩
theorem QN{l:List (List G)}{v:Int}(h0:0≤v)(h1:v<l.length):l.getD v.toNat []∈l:=by
 have:v.toNat<l.length:=by omega
 rw[cr,bO this];exact mP this
theorem afw(P:Int→Prop)(l:List (List G))(a:Int)(xs:List (List G))(ha:0≤a)(d:a≤1000000)(h0:1≤xs.length)(h1:xs.length≤1000000)(h:∀ x∈xs,P (gi x 0).int) :
  aa (pP [.l l,.i a,.l xs]) fun g=>∃ v,g=[.l l,.i (a+1),.i v]∧P v:=by
 unfold pP
 (dsimp +instances only[Aa,Ab,Ac,Ad,Ae,Af,Ag])
 refine aa.call (vU l a _ ha d (by omega) (by omega)) ?_;rintro _ ⟨v,rfl,k,q⟩
 (dsimp +instances only[Aa,Ab,Ac,Ad,Ae,Af,Ag])
 (repeat first|refine aa.p ?_|refine aa.n ?_)
 exact aa.some ⟨_,rfl,h _ (QN k q)⟩
theorem afx(P:ByteArray→Prop)(l:List (List G))(a:Int)(xs:List (List G))(ha:0≤a)(d:a≤1000000)(h0:1≤xs.length)(h1:xs.length≤1000000)(h:∀ x∈xs,P (gi x 0).str) :
  aa (ly [.l l,.i a,.l xs]) fun g=>∃ v,g=[.l l,.i (a+1),.s v]∧P v:=by
 unfold ly
 (dsimp +instances only[Aa,Ab,Ac,Ad,Ae,Af,Ag])
 refine aa.call (vU l a _ ha d (by omega) (by omega)) ?_;rintro _ ⟨v,rfl,k,q⟩
 (dsimp +instances only[Aa,Ab,Ac,Ad,Ae,Af,Ag])
 (repeat first|refine aa.p ?_|refine aa.n ?_)
 exact aa.some ⟨_,rfl,h _ (QN k q)⟩
theorem afy(l:List (List G))(a n:Int)(ha:0≤a)(d:a≤1000000)(h0:1≤n)(h1:n≤1000000) :
  aa (zn [.l l,.i a,.i n]) fun g=>∃ b,g=[.l l,.i (a+1),.t b]:=by
 unfold zn
 (dsimp +instances only[Aa,Ab,Ac,Ad,Ae,Af,Ag])
 refine aa.call (vU l a _ ha d (by omega) (by omega)) ?_;rintro _ ⟨v,rfl,h,k⟩;exact aa.some ⟨_,rfl⟩
def n3(L:List ByteArray)(s:ByteArray):Bool:=L.any fun x=>pK x s
theorem zV{L:List ByteArray}{s:ByteArray}(h:n3 L s=true):s∈L:=by
 obtain⟨x,d,he⟩:=jH.1 h;exact L7 he▸d
theorem Gk(lo hi:Int)(l:List (List G))(a:Int)(xs:List (List G))(ha:0≤a)(d:a≤1000000)(h0:(dH 1 xs.length&&dH xs.length 1000000)=true) (h:(xs.all fun x=>bl lo (gi x 0).int&&bl (gi x 0).int hi)=true) :
  aa (pP [.l l,.i a,.l xs]) fun g=>∃ v,g=[.l l,.i (a+1),.i v]∧lo≤v∧v≤hi:=by
 simp only[aA,AJ]at h0;refine afw (fun v=>lo≤v∧v≤hi) l a xs ha d h0.1 h0.2 fun x k=>?_;have:=cR.1 h x k;simpa only[ff,aA,decide_eq_true_eq]using this
theorem sv(L:List ByteArray)(l:List (List G))(a:Int)(xs:List (List G))(ha:0≤a)(d:a≤1000000)(h0:(dH 1 xs.length&&dH xs.length 1000000)=true) (h:(xs.all fun x=>n3 L (gi x 0).str)=true) :
  aa (ly [.l l,.i a,.l xs]) fun g=>∃ v,g=[.l l,.i (a+1),.s v]∧v∈L:=by
 simp only[aA,AJ]at h0;exact afx (fun v=>v∈L) l a xs ha d h0.1 h0.2 fun x k=>zV (cR.1 h x k)
def calls:List ByteArray:=[⟨#[]⟩,⟨#[107,49]⟩,⟨#[75,49,65,66]⟩,⟨#[107,49,97,98,47]⟩,⟨#[49,97]⟩,⟨#[107,49,97,98,47,109,109,47,112]⟩,⟨#[107,49,97,98]⟩,⟨#[107,49,97,97]⟩,⟨#[107,49,97,98,47,52]⟩,
 ⟨#[111,104,50,97,98,99]⟩,⟨#[111,104,50,97,98,100]⟩,⟨#[119,49,97,119]⟩,⟨#[110,49,109,109]⟩,⟨#[103,51,120,121,122,47,112]⟩,⟨#[119,49,97,120]⟩]
def mz:List ByteArray:=[⟨#[]⟩,⟨#[66]⟩,⟨#[98,50,48]⟩,⟨#[98,52,48]⟩]
def names:List ByteArray:=[⟨#[]⟩,⟨#[65]⟩,⟨#[49]⟩,⟨#[102,105,110]⟩,⟨#[117,115,97]⟩,⟨#[120]⟩]
def small(n:Int):Prop := -2000000000000≤n∧n≤2000000000000
def c9(r:List G):Prop:=∃(t m:Int) (b c:ByteArray) (s h:Int) (x y:ByteArray),r=[.i t,.i m,.s b,.s c,.i s,.i h,.s x,.s y]∧small t∧small m∧small s∧small h∧b∈mz∧c∈calls∧x∈names∧y∈names
def tight(n:Int):Prop := -1900000000000≤n∧n≤1900000000000
def zW(n:Int):Prop := -1900000000000≤n∧(n≤345000000000∨(345686399999<n∧n≤1900000000000))
def QO(r:List G):Prop:=∃(t m:Int) (b c:ByteArray) (s h:Int) (x y:ByteArray),r=[.i t,.i m,.s b,.s c,.i s,.i h,.s x,.s y]∧zW t∧tight m∧tight s∧tight h∧b∈mz∧c∈calls∧x∈names∧y∈names
theorem tight.to{n:Int}(h:tight n):small n:=⟨by have:=h.1; omega,by have:=h.2; omega⟩
theorem zW.to{n:Int}(h:zW n):small n:=by
 unfold zW at h;exact⟨by omega,by omega⟩
theorem QO.to{r:List G}(h:QO r):c9 r:=by
 obtain⟨t,m,b,c,s,h,x,y,e,h1,d,g,k,q⟩:=h;exact⟨t,m,b,c,s,h,x,y,e,h1.to,d.to,g.to,k.to,q⟩
theorem c9.eta{r:List G}(h:c9 r):aD [.int .i64,.int .i64,.str,.str,.int .i64,.int .i64,.str,.str] r=r:=by
 obtain⟨t,m,b,c,s,h,x,y,rfl,_⟩:=h;rfl
def fK(a b:Int):Int:=if a<b then -1 else if b<a then 1 else 0
theorem QP:∀{a b:List UInt8},gA a b=0→a=b
 | [],[],_=>rfl
 | [],_::_,h=>by simp[gA]at h
 |_::_,[],h=>by simp[gA]at h
 | x::a,y::b,h=>by
  unfold gA at h;split at h
  ·cases h
  ·split at h
   ·cases h
   ·rename_i h1 d
    rw[QP h,SU (wM.1 d) (wM.1 h1)]
theorem QQ:∀ a:List UInt8,gA a a=0
 | []=>rfl
 |x::a=>by simp[gA,QQ a]
theorem Gl(a b:ByteArray):(a.toList==b.toList)=decide (dD a b=0):=by
 rw[wN,wN,oF,decide_eq_true_eq,beq_iff_eq];constructor
 ·intro h
  unfold dD;rw[h];exact QQ _
 ·exact fun h=>QP h
def vV(a b c d:Int):Int:=if a≠0 then a else if b≠0 then b else if c≠0 then c else d
def bT(r s:List G):Int:=vV (fK (gi r 0).int (gi s 0).int) (dD (gi r 3).str (gi s 3).str) (dD (gi r 2).str (gi s 2).str) (fK (gi r 1).int (gi s 1).int)
theorem sign_eq(a b:Int):vo [.i (a-b)]=some [.i (fK a b)]:=by
 refine aa.toEq ?_;unfold vo fK
 (dsimp +instances only[Aa,Ab,Ac,Ad,Ae,Af,Ag])
 by_cases h1:a<b
 ·(repeat first|refine aa.p ?_|refine aa.n ?_)
  exact aa.some (by simp[h1])
 ·by_cases d : b < a
  ·(repeat first|refine aa.p ?_|refine aa.n ?_)
   exact aa.some (by simp[h1,d])
  ·(repeat first|refine aa.p ?_|refine aa.n ?_)
   exact aa.some (by simp[h1,d])
theorem QR{r s:List G}(q:c9 r)(u:c9 s):rP [.l [r],.l [s]]=some [.i (bT r s)]:=by
 obtain⟨t,m,b,c,_,_,_,_,rfl,I,hm,_⟩:=q;obtain⟨t',m',d,g,_,_,_,_,rfl,y,B,_⟩:=u;unfold small at *;refine aa.toEq ?_;unfold rP bT vV
 (dsimp +instances only[Aa,Ab,Ac,Ad,Ae,Af,Ag])
 simp only[Gl];by_cases v:t=t'
 ·subst v
  have z:fK t t=0:=by simp[fK]
  simp only[z]
  (repeat first|refine aa.p ?_|refine aa.n ?_)
  by_cases h:dD c g=0
  ·simp only [h]
   (repeat first|refine aa.p ?_|refine aa.n ?_)
   by_cases k:dD b d=0
   ·simp only [k]
    (repeat first|refine aa.p ?_|refine aa.n ?_)
    refine aa.cE (sign_eq m m') ?_
    (dsimp +instances only[Aa,Ab,Ac,Ad,Ae,Af,Ag])
    exact aa.some (by simp)
   ·refine aa.pos (by simpa using k) (aa.call (aa.eq (rfl : ic [.s b, .s d] = some [.i (dD b d)])) ?_)
    rintro _ rfl
    (dsimp +instances only[Aa,Ab,Ac,Ad,Ae,Af,Ag])
    exact aa.some (by simp[k])
  ·refine aa.pos (by simpa using h) (aa.call (aa.eq (rfl : ic [.s c, .s g] = some [.i (dD c g)])) ?_)
   rintro _ rfl
   (dsimp +instances only[Aa,Ab,Ac,Ad,Ae,Af,Ag])
   exact aa.some (by simp[h])
 ·(repeat first|refine aa.p ?_|refine aa.n ?_)
  refine aa.cE (sign_eq t t') ?_
  (dsimp +instances only[Aa,Ab,Ac,Ad,Ae,Af,Ag])
  have z:fK t t'≠0:=by
   unfold fK;split
   ·omega
   ·split<;>omega
  exact aa.some (by simp[z])
theorem QS(a b:Int):rL [.i a,.i b]=some [.i (fK a b)]:=by
 refine aa.toEq ?_;unfold rL zg fK
 (dsimp +instances only[Aa,Ab,Ac,Ad,Ae,Af,Ag])
 simp only[bne_self_eq_false];refine aa.call ⟨_,rfl,rfl⟩ ?_;rintro _ rfl;refine aa.call ⟨_,rfl,rfl⟩ ?_;rintro _ rfl
 (dsimp +instances only[Aa,Ab,Ac,Ad,Ae,Af,Ag])
 (repeat first|refine aa.p ?_|refine aa.n ?_)
 by_cases h1:a<b
 ·(repeat first|refine aa.p ?_|refine aa.n ?_)
  exact aa.some (by simp[h1])
 ·by_cases d : b < a
  ·(repeat first|refine aa.p ?_|refine aa.n ?_)
   exact aa.some (by simp[h1,d])
  ·(repeat first|refine aa.p ?_|refine aa.n ?_)
   exact aa.some (by simp[h1,d])
def n4:List (List G)→Int
 | []=>0
 |x::q=>if (gi x 0).int≠0 then (gi x 0).int else n4 q
theorem QT:∀(q p:List (List G)),p.length+q.length<100000 →
  aT rM [.i 0,.l (p++q),.i ((p.length+q.length:Nat):Int),.i (p.length:Int)] (q.length+1) fun c g=>c≤1∧g=[.i (n4 q)]
 | [],p,d=>by
  refine aT.stop (x:=1) (aa.toEq ?_) ⟨by omega,rfl⟩;unfold rM
  (dsimp +instances only[Aa,Ab,Ac,Ad,Ae,Af,Ag])
  (repeat first|refine aa.p ?_|refine aa.n ?_)
  exact aa.some rfl
 | y::q,p,d=>by
  simp only[cz]at d;have g1:(p++y::q).getD (p.length:Int).toNat []=y:=iW _ _ _ _ _ (by simp);have hlen:(p++y::q).length=p.length+q.length+1:=by simp; omega
  by_cases he:(gi y 0).int=0
  ·have h := QT q (p ++ [y]) (by simp; omega)
   have e:n4 (y::q)=n4 q:=by simp[n4,he]
   rw[e];refine aT.next (aa.toEq ?_) h
   unfold rM
   (dsimp +instances only[Aa,Ab,Ac,Ad,Ae,Af,Ag])
   simp only[g1,hlen,cz]
   (repeat first|refine aa.p ?_|refine aa.n ?_)
   refine aa.some ?_;simp;omega
  ·refine aT.stop (x := 0) (aa.toEq ?_) ⟨by omega, rfl⟩
   unfold rM
   (dsimp +instances only[Aa,Ab,Ac,Ad,Ae,Af,Ag])
   simp only[g1,hlen,cz]
   (repeat first|refine aa.p ?_|refine aa.n ?_)
   refine aa.some ?_;simp[n4,he]
theorem or_eq(a b c d:Int):pN [.l [[.i a],[.i b],[.i c],[.i d]]]=some [.i (vV a b c d)]:=by
 refine aa.toEq ?_;unfold pN
 (dsimp +instances only[Aa,Ab,Ac,Ad,Ae,Af,Ag])
 have h:=QT [[.i a],[.i b],[.i c],[.i d]] [] (by simp);refine aa.loop (h.to (by simp)) (by(first|rfl|assumption|(simp only[aq,sl]<;>omega))) ?_;rintro x g ⟨v,rfl⟩;have e:n4 [[.i a],[.i b],[.i c],[.i d]]=vV a b c d:=by
  simp only[n4,vV]
  (dsimp +instances only[Aa,Ab,Ac,Ad,Ae,Af,Ag])
  by_cases h1:a=0<;>by_cases k:b=0<;>by_cases q:c=0<;>by_cases u:d=0<;>simp[h1,k,q,u]
 rw[e]
 (dsimp +instances only[Aa,Ab,Ac,Ad,Ae,Af,Ag])
 exact aa.test (fun _=>aa.some rfl) fun _=>aa.some rfl
theorem Gm{r s:List G}(h:c9 r)(k:c9 s):pO [.l [r],.l [s]]=some [.i (bT r s)]:=by
 obtain⟨t,m,b,c,_,_,_,_,rfl,v,hm,_⟩:=h;obtain⟨t',m',d,g,_,_,_,_,rfl,q,u,_⟩:=k;refine aa.toEq ?_;unfold pO
 (dsimp +instances only[Aa,Ab,Ac,Ad,Ae,Af,Ag])
 refine aa.cE (QS t t') ?_;refine aa.cE (rfl:ic [.s c,.s g]=some [.i (dD c g)]) ?_;refine aa.cE (rfl:ic [.s b,.s d]=some [.i (dD b d)]) ?_;refine aa.cE (QS m m') ?_
 (dsimp +instances only[Aa,Ab,Ac,Ad,Ae,Af,Ag])
 refine aa.cE (or_eq _ _ _ _) ?_;exact aa.some rfl
theorem afz:pG [.int .i64,.int .i64,.str,.str,.int .i64,.int .i64,.str,.str] rP c9 bT:=⟨fun _ _ d g=>QR d g,fun _ h=>h.eta⟩
theorem afA:pG [.int .i64,.int .i64,.str,.str,.int .i64,.int .i64,.str,.str] pO c9 bT:=⟨fun _ _ d g=>Gm d g,fun _ h=>h.eta⟩
def eW(v lo hi:Int):Bool:=bl lo v&&bl v hi
theorem sw(v lo hi:Int):mv [.i v,.i lo,.i hi]=some [.t (!eW v lo hi)]:=by
 unfold mv eW
 (dsimp +instances only[Aa,Ab,Ac,Ad,Ae,Af,Ag])
 have h1:aj v lo = !bl lo v:=by rw[dY,ff,oF]; simp
 have d:aj hi v = !bl v hi:=by rw[dY,ff,oF]; simp
 rw[h1,d];cases bl lo v<;>cases bl v hi<;>rfl
def pV(s:ByteArray):Bool:=n3 [⟨#[98,50,48]⟩,⟨#[98,52,48]⟩,⟨#[102,105,110]⟩,⟨#[117,115,97]⟩,⟨#[120]⟩] s
def kO(s:ByteArray):Bool:=n3 [⟨#[]⟩] s||pV s
def j6(s:ByteArray):Bool:=(gi ((pM [.s s]).getD []) 0).bool
theorem afB{s:ByteArray}(h:s∈mz∨s∈names):rK [.s s]=some [.t (pV s)]:=by
 simp only[mz,names,bZ,sZ,or_false]at h;rcases h with(rfl|rfl|rfl|rfl)|(rfl|rfl|rfl|rfl|rfl|rfl)<;>kernel_rfl
theorem QU{s:ByteArray}(h:s∈names):ze [.s s]=some [.t (kO s)]:=by
 simp only[names,bZ,sZ,or_false]at h;rcases h with(rfl|rfl|rfl|rfl|rfl|rfl)<;>kernel_rfl
theorem zX{s:ByteArray}(h:s∈calls):pM [.s s]=some [.t (j6 s)]:=by
 simp only[calls,bZ,sZ,or_false]at h;rcases h with(rfl|rfl|rfl|rfl|rfl|rfl|rfl|rfl|rfl|rfl|rfl|rfl|rfl|rfl|rfl)<;>kernel_rfl
def gy(r:List G):Int :=
 bif !eW (gi r 0).int 0 345686399999 then 1 else bif !eW (gi r 1).int 1 3 then 4 else bif !pV (gi r 2).str then 5 else bif !j6 (gi r 3).str then 3 else
 bif !eW (gi r 4).int 0 99999 then 1 else bif !eW (gi r 5).int 0 99999 then 1 else bif !kO (gi r 6).str then 5 else bif !kO (gi r 7).str then 5 else 0
theorem afC{r:List G}(d:c9 r):zf [.l [r]]=some [.i (gy r)]:=by
 obtain⟨t,m,b,c,s,h,x,y,rfl,_,_,_,_,hb,g,k,q⟩:=d;unfold zf Dq Dt gy
 (dsimp +instances only[Aa,Ab,Ac,Ad,Ae,Af,Ag])
 have u:=afB (.inl hb);have v:=QU k;have B:=QU q;have I:=zX g;rw[sw t,sw m];rw[u,I,sw s,sw h,v,B];generalize eW t 0 345686399999=b1;generalize eW m 1 3=J;generalize pV b=M;generalize j6 c=N;generalize eW s 0 99999=O;generalize eW h 0 99999=U;generalize kO x=V;generalize kO y=W;cases b1<;>cases J<;>cases M<;>cases N<;>cases O<;>cases U<;>cases V<;>cases W<;>rfl
def pW(K:List Kd)(C D:List G→Option (List G))(d:List G):Option (Option Nat × List G) :=
 (bif (aj (gi d 3).int (gi d 2).int) then (bif ((aw (gi d 3).int)&&(aj (gi d 3).int (((gi d 1).rows.length:Nat):Int))) then (aB (C [.l [(aD K ((gi d 1).rows.getD (((gi d 3).int).toNat) []))]]) fun g1=>(bif ((gi g1 0).int != 0) then some (some 0,[.i (gi g1 0).int]) else (bif (aj 0 (gi d 3).int) then (bif (aq ((gi d 3).int-1)) then (bif ((aw ((gi d 3).int-1))&&(aj ((gi d 3).int-1) (((gi d 0).rows.length:Nat):Int))) then (aB (D [.l [(aD K ((gi d 0).rows.getD (((gi d 3).int-1).toNat) []))],.l [(aD K ((gi d 1).rows.getD (((gi d 3).int).toNat) []))]]) fun g2=>(bif (bl 0 (gi g2 0).int) then some (some 0,[.i 7]) else (bif (aq ((gi d 3).int+1)) then some (none,[.l (gi d 0).rows,.l (gi d 1).rows,.i (gi d 2).int,.i ((gi d 3).int+1)]) else none))) else none) else none) else (bif (aq ((gi d 3).int+1)) then some (none,[.l (gi d 0).rows,.l (gi d 1).rows,.i (gi d 2).int,.i ((gi d 3).int+1)]) else none)))) else none) else some (some 1,[]))
def QV(K:List Kd)(C D:List G→Option (List G))(d:List G):Option (List G) :=
 (bif (aj 2000 (((gi d 0).rows.length:Nat):Int)) then some [.i 2] else (aM true (bD (pW K C D) [.l (gi d 0).rows,.l (gi d 0).rows,.i (((gi d 0).rows.length:Nat):Int),.i 0]) fun g g3=>(bif ad g 0 then some [.i (gi g3 0).int] else some [.i 0])))
def fw:Option (List G)→List (List G)→Int
 |_,[]=>0
 |none,x::q=>if gy x≠0 then gy x else fw (some x) q
 |some y,x::q=>if gy x≠0 then gy x else if 0≤bT y x then 7 else fw (some x) q
def iH(l:List (List G)):Int:=if 2000<l.length then 2 else fw none l
section
variable {C D:List G→Option (List G)} (hC:∀ r,c9 r→C [.l [r]]=some [.i (gy r)]) (hD:∀ r s,c9 r→c9 s→D [.l [r],.l [s]]=some [.i (bT r s)])
include hC hD
theorem QW:∀(q p:List (List G)),(∀ z∈p++q,c9 z)→p.length+q.length<100000 →
  aT (pW [.int .i64,.int .i64,.str,.str,.int .i64,.int .i64,.str,.str] C D) [.l (p++q),.l (p++q),.i ((p.length+q.length:Nat):Int),.i (p.length:Int)] (q.length+1) fun c g=>(c=0∧g=[.i (fw p.getLast? q)])∨c=1∧fw p.getLast? q=0
 | [],p,u,I=>by
  refine aT.stop (x:=1) (d':=[]) (aa.toEq ?_) (.inr ⟨rfl,by unfold fw; rfl⟩);unfold pW
  (dsimp +instances only[Aa,Ab,Ac,Ad,Ae,Af,Ag])
  (repeat first|refine aa.p ?_|refine aa.n ?_)
  exact aa.some rfl
 | x::q,p,u,I=>by
  simp only[cz]at I;have d:c9 x:=u x (by simp);have g1:(p++x::q).getD (p.length:Int).toNat []=x:=iW _ _ _ _ _ (by simp);have hlen:(p++x::q).length=p.length+q.length+1:=by simp; omega
  by_cases h:gy x=0
  ·have B := QW q (p ++ [x]) (by simpa using u) (by simp; omega)
   rw[List.getLast?_concat]at B;rcases List.eq_nil_or_concat p with rfl|⟨k,y,rfl⟩
   ·have e : fw ([] : List (List G)).getLast? (x :: q) = fw (some x) q := by simp [fw, h]
    rw[e];refine aT.next (aa.toEq ?_) B
    unfold pW
    (dsimp +instances only[Aa,Ab,Ac,Ad,Ae,Af,Ag])
    simp only[g1,hlen,cz,d.eta]
    (repeat first|refine aa.p ?_|refine aa.n ?_)
    refine aa.cE (hC x d) ?_
    (dsimp +instances only[Aa,Ab,Ac,Ad,Ae,Af,Ag])
    simp only[h]
    (repeat first|refine aa.p ?_|refine aa.n ?_)
    refine aa.some ?_;simp;omega
   ·rw [List.concat_eq_append] at *
    have v:c9 y:=u y (by simp);have g2:((k++[y])++x::q).getD (((k++[y]).length:Int)-1).toNat []=y:=by
     have e:(k++[y])++x::q=k++y::x::q:=by simp
     rw[e]; exact iW _ _ _ _ _ (by simp)
    have M:(k++[y]).length=k.length+1:=by simp
    have J:(k++[y]).getLast? = some y:=by simp
    rw[J];by_cases ho:0≤bT y x
    ·refine aT.stop (x := 0) (d' := [.i 7]) (aa.toEq ?_) (.inl ⟨rfl, by simp [fw, h, ho]⟩)
     unfold pW
     (dsimp +instances only[Aa,Ab,Ac,Ad,Ae,Af,Ag])
     simp only[g1,g2,hlen,cz,d.eta,v.eta]
     (repeat first|refine aa.p ?_|refine aa.n ?_)
     refine aa.cE (hC x d) ?_
     (dsimp +instances only[Aa,Ab,Ac,Ad,Ae,Af,Ag])
     simp only[h]
     (repeat first|refine aa.p ?_|refine aa.n ?_)
     refine aa.cE (hD y x v d) ?_
     (dsimp +instances only[Aa,Ab,Ac,Ad,Ae,Af,Ag])
     (repeat first|refine aa.p ?_|refine aa.n ?_)
     exact aa.some rfl
    ·have e : fw (some y) (x :: q) = fw (some x) q := by simp [fw, h, ho]
     rw[e];refine aT.next (aa.toEq ?_) B
     unfold pW
     (dsimp +instances only[Aa,Ab,Ac,Ad,Ae,Af,Ag])
     simp only[g1,g2,hlen,cz,d.eta,v.eta]
     (repeat first|refine aa.p ?_|refine aa.n ?_)
     refine aa.cE (hC x d) ?_
     (dsimp +instances only[Aa,Ab,Ac,Ad,Ae,Af,Ag])
     simp only[h]
     (repeat first|refine aa.p ?_|refine aa.n ?_)
     refine aa.cE (hD y x v d) ?_
     (dsimp +instances only[Aa,Ab,Ac,Ad,Ae,Af,Ag])
     (repeat first|refine aa.p ?_|refine aa.n ?_)
     refine aa.some ?_;simp;omega
  ·refine aT.stop (x := 0) (d' := [.i (gy x)]) (aa.toEq ?_) (.inl ⟨rfl, by cases N : p.getLast? <;> simp [fw, h]⟩)
   unfold pW
   (dsimp +instances only[Aa,Ab,Ac,Ad,Ae,Af,Ag])
   simp only[g1,hlen,cz,d.eta]
   (repeat first|refine aa.p ?_|refine aa.n ?_)
   refine aa.cE (hC x d) ?_
   (dsimp +instances only[Aa,Ab,Ac,Ad,Ae,Af,Ag])
   refine aa.pos (by simpa using h) (aa.some rfl)
theorem afD(l:List (List G))(d:∀ z∈l,c9 z)(k:l.length<100000):QV [.int .i64,.int .i64,.str,.str,.int .i64,.int .i64,.str,.str] C D [.l l]=some [.i (iH l)]:=by
 refine aa.toEq ?_;unfold QV iH
 (dsimp +instances only[Aa,Ab,Ac,Ad,Ae,Af,Ag])
 by_cases h:2000<l.length
 ·(repeat first|refine aa.p ?_|refine aa.n ?_)
  exact aa.some (by simp[h])
 ·(repeat first|refine aa.p ?_|refine aa.n ?_)
  have h1:=QW hC hD l [] (by simpa using d) (by simpa using k);have h0:((0:Nat):Int)=0:=rfl;simp only[jG,kV,cF,h0]at h1;refine aa.loop (h1.to (by omega)) (by(first|rfl|assumption|(simp only[aq,sl]<;>omega))) ?_;rintro c g (⟨rfl,rfl⟩|⟨rfl,q⟩)
  ·(dsimp +instances only [Aa,Ab,Ac,Ad,Ae,Af,Ag])
   (repeat first|refine aa.p ?_|refine aa.n ?_)
   refine aa.some ?_;rw[if_neg h];rfl
  ·(repeat first|refine aa.p ?_|refine aa.n ?_)
   refine aa.some ?_;rw[if_neg h];exact congrArg (fun z=>[G.i z]) q.symm
end
theorem Gn(l:List (List G))(d:∀ z∈l,c9 z)(g:l.length<100000):vk [.l l]=some [.i (iH l)] :=
 afD (fun _ h=>afC h) (fun _ _ h h'=>Gm h h') l d g
theorem afE(rows:List (List G))(d:∀ y∈rows,c9 y)(g:rows.length≤20):zG [.l rows]=some [.l (cP (bE bT) rows)] :=
 LL afA rows d g
def iZ(r s:List G):Bool:=bT r s==0
def zC:List G:=[.i 0,.i 0,.s (⟨#[]⟩:ByteArray),.s (⟨#[]⟩:ByteArray),.i 0,.i 0,.s (⟨#[]⟩:ByteArray),.s (⟨#[]⟩:ByteArray)]
theorem afF:Di [.int .i64,.int .i64,.str,.str,.int .i64,.int .i64,.str,.str] c9:=⟨fun _ h=>h.eta⟩
def QX:List (List G)→Bool
 | []=>false
 | [_]=>false
 |x::y::q=>bT x y==0||QX (y::q)
def aim(m:List (List G)):List G:=bif QX m then [.l [],.i 13] else bif fa 2000 m.length then [.l [],.i 2] else [.l m,.i 0]
theorem afG(a:List (List G))(ha:∀ z∈a,c9 z)(d:a.length<100000):Ga [.l a,.l a]=some [.t true]:=by
 have h:=XO afF a a ha ha d;rw[LU rfl]at h;exact h
theorem QY:∀ a b:List UInt8,gA b a = - gA a b
 | [],[]=>rfl
 | [],_::_=>rfl
 |_::_,[]=>rfl
 | a::xs,b::g=>by
  simp only[gA];have k:=QY xs g;by_cases h1:a<b
  ·have d : ¬ b < a := fun h => SV a (ah4 h1 h)
   simp[h1,d]
  ·by_cases d : b < a
   ·simp[h1,d]
   ·simp[h1,d,k]
theorem QZ:∀{a b c:List UInt8},gA a b<0→gA b c<0→gA a c<0
 | [],[],_,h,_=>by simp[gA]at h
 | [],_::_,[],_,h=>by simp[gA]at h
 | [],_::_,_::_,_,_=>by simp[gA]
 |_::_,[],_,h,_=>by simp[gA]at h
 |_::_,_::_,[],_,h=>by simp[gA]at h
 | a::xs,b::B,c::I,h1,d=>by
  simp only[gA]at h1 d⊢;by_cases g:a<b
  ·by_cases k : b < c
   ·rw [if_pos (ah4 g k)]
    omega
   ·by_cases u : c < b
    ·rw [if_neg k, if_pos u] at d
     omega
    ·have e : b = c := SU (wM.1 u) (wM.1 k)
     subst e;rw[if_pos g];omega
  ·by_cases v : b < a
   ·rw [if_neg g, if_pos v] at h1
    omega
   ·have e : a = b := SU (wM.1 v) (wM.1 g)
    subst e;rw[if_neg (SV a),if_neg (SV a)]at h1;by_cases q:a<c
    ·rw [if_pos q]
     omega
    ·by_cases y : c < a
     ·rw [if_neg q, if_pos y] at d
      omega
     ·rw [if_neg q, if_neg y] at d ⊢
      exact QZ h1 d
theorem afH{a b:ByteArray}(h:(a.toList==b.toList)=true):a=b:=by
 rw[wN,wN,beq_iff_eq]at h;exact ByteArray.ext (Array.toList_inj.1 h)
theorem pX{a b:ByteArray}:dD a b=0↔a=b:=by
 have h:=Gl a b;constructor
 ·intro e
  rw[decide_eq_true (p:=dD a b=0) e]at h;exact afH h
 ·rintro rfl
  have d:(a.toList==a.toList)=true:=by simp
  rw[d]at h;exact of_decide_eq_true h.symm
theorem afI{a b:Int}:fK a b=0↔a=b:=by
 unfold fK;constructor
 ·intro h
  split at h
  ·omega
  ·split at h<;>omega
 ·rintro rfl
  simp
theorem sx{a b:Int}:fK a b<0↔a<b:=by
 unfold fK;constructor
 ·intro h
  split at h
  ·assumption
  ·split at h<;>omega
 ·intro h
  rw[if_pos h];omega
theorem Gp(a b:ByteArray):(a.toList==b.toList)=decide (a=b):=by
 rw[Gl,oF,decide_eq_true_eq,decide_eq_true_eq];exact pX
structure n5 {α:Type} (c:α→α→Int):Prop where
 flip:∀ a b,c b a = - c a b
 eq:∀ a b,c a b=0→a=b
 tr:∀ a b d,c a b<0→c b d<0→c a d<0
theorem n9:n5 fK:=⟨fun a b=>by unfold fK; split<;>split<;>first|omega|(split<;>omega)|skip,fun a b h=>afI.1 h,fun a b d h1 g=>sx.2 (Int.lt_trans (sx.1 h1) (sx.1 g))⟩
theorem n_:n5 dD:=⟨fun a b=>QY _ _,fun a b h=>pX.1 h,fun a b d h1 g=>QZ h1 g⟩
theorem n5.le{α:Type}{c:α→α→Int}(h:n5 c)(a b d:α)(h1:c a b≤0)(g:c b d≤0):c a d≤0:=by
 by_cases k:c a b=0
 ·rw [h.eq a b k]
  exact g
 ·by_cases q : c b d = 0
  ·rw [← h.eq b d q]
   exact h1
  ·have := h.tr a b d (by omega) (by omega)
   omega
theorem n5.refl{α:Type}{c:α→α→Int}(h:n5 c)(a:α):c a a=0:=by
 have:=h.flip a a;omega
def i_(a b:Int):Int:=if a≠0 then a else b
theorem Gq{α:Type}{c:α→α→Int}(h:n5 c)(a b d:α)(x y z:Int)(h1:i_ (c a b) x≤0)(g:i_ (c b d) y≤0)(u:x≤0→y≤0→z≤0):i_ (c a d) z≤0:=by
 unfold i_ at *;by_cases q:c a b=0
 ·have e := h.eq a b q
  subst e;rw[if_neg (by simpa using q)]at h1;by_cases k:c a d=0
  ·rw [if_neg (by simpa using k)] at g ⊢
   exact u h1 g
  ·rw [if_pos k] at g ⊢
   exact g
 ·rw [if_pos q] at h1
  by_cases k:c b d=0
  ·have e := h.eq b d k
   subst e;rw[if_pos q];exact h1
  ·rw [if_pos k] at g
   have:=h.tr a b d (by omega) (by omega);rw[if_pos (by omega)];omega
theorem Gr{α:Type}{c:α→α→Int}(h:n5 c)(a b d:α)(x y z:Int)(h1:i_ (c a b) x<0)(g:i_ (c b d) y<0)(u:x<0→y<0→z<0):i_ (c a d) z<0:=by
 unfold i_ at *;by_cases q:c a b=0
 ·have e := h.eq a b q
  subst e;rw[if_neg (by simpa using q)]at h1;by_cases k:c a d=0
  ·rw [if_neg (by simpa using k)] at g ⊢
   exact u h1 g
  ·rw [if_pos k] at g ⊢
   exact g
 ·rw [if_pos q] at h1
  by_cases k:c b d=0
  ·have e := h.eq b d k
   subst e;rw[if_pos q];exact h1
  ·rw [if_pos k] at g
   have:=h.tr a b d (by omega) (by omega);rw[if_pos (by omega)];omega
theorem Gs{a b d g:Int}(h1:d = - a)(h:g = - b):i_ d g = - i_ a b:=by
 unfold i_;subst h1 h;by_cases e:a=0
 ·subst e
  simp
 ·rw[if_pos e,if_pos (by omega)]
theorem Q0{c:List G→List G→Int}(g:∀ a b,c b a = - c a b)(k:∀ a b d,c a b≤0→c b d≤0→c a d≤0):eJ (bE c) (fun _=>True):=by
 have lt:∀ r s,bE c r s=decide (c r s<0):=fun r s=>by unfold bE; rw[dY]
 refine⟨fun a b d _ _ _ h1 q=>?_,fun a b _ _ h=>?_⟩
 ·rw [lt, decide_eq_false_iff_not] at *
  have:=k d b a (by have:=g d b; omega) (by have:=g b a; omega);have:=g a d;omega
 ·rw [lt, decide_eq_true_eq] at h
  rw[lt,decide_eq_false_iff_not];have:=g a b;omega
/-! ### d g h checked row by row -/
structure er (F:Nat→Nat→Int) (n m:Nat) (ok:Nat→Nat→Bool) (w:Nat→Nat→Int):Prop where
 mA:∀ i k,n≤i∨m≤k→F i k=0
 step:∀ i k,i<n→k<m→F i k=if ok i k=true then max (max (F (i+1) k) (F i (k+1))) (w i k+F (i+1) (k+1)) else max (F (i+1) k) (F i (k+1))
structure Fair (n m:Nat) (ok:Nat→Nat→Bool) (w:Nat→Nat→Int):Prop where
 pos:∀ i k,i<n→k<m→ok i k=true→0<w i k
 afJ:∀ i p k q,i<p→p<n→k<q→q<m→ok i q=true→ok p k=true→ok i k=true∧ok p q=true∧w i q+w p k≤w i k+w p q
section
variable {F:Nat→Nat→Int} {n m:Nat} {ok:Nat→Nat→Bool} {w:Nat→Nat→Int}
theorem er.flip(h:er F n m ok w):er (fun k i=>F i k) m n (fun k i=>ok i k) (fun k i=>w i k):=by
 refine⟨fun k i hk=>h.mA i k hk.symm,fun k i hk hi=>?_⟩;have:=h.step i k hi hk;rw[this];split<;>omega
theorem Fair.flip(h:Fair n m ok w):Fair m n (fun k i=>ok i k) (fun k i=>w i k):=by
 refine⟨fun k i hk hi ho=>h.pos i k hi hk ho,fun k q i p d u g v h1 y=>?_⟩;obtain⟨a,b,c⟩:=h.afJ i p k q g v d u y h1;exact⟨a,b,by omega⟩
theorem er.down(h:er F n m ok w)(i k:Nat):F (i+1) k≤F i k:=by
 by_cases he:n≤i∨m≤k
 ·rw [h.mA i k he, h.mA (i + 1) k (by omega)]
  exact s9 _
 ·rw [h.step i k (by omega) (by omega)]
  split<;>omega
theorem er.right(h:er F n m ok w)(i k:Nat):F i (k+1)≤F i k:=h.flip.down k i
theorem er.Gt(h:er F n m ok w)(i k:Nat):∀ d,F (i+d) k≤F i k
 |0=>s9 _
 |d+1=>HK (h.down (i+d) k) (h.Gt i k d)
theorem er.mono(h:er F n m ok w){i p k q:Nat}(h1:i≤p)(g:k≤q):F p q≤F i k:=by
 obtain⟨d,rfl⟩:=ah5 h1;obtain⟨e,rfl⟩:=ah5 g;exact HK (h.Gt i (k+e) d) (h.flip.Gt k i e)
theorem er.take(h:er F n m ok w){i p k q:Nat}(h1:i≤p)(d:k≤q)(g:p<n)(u:q<m)(ho:ok p q=true):w p q+F (p+1) (q+1)≤F i k:=by
 refine HK ?_ (h.mono h1 d);rw[h.step p q g u,if_pos ho];omega
theorem er.Gu(h:er F n m ok w)(i k:Nat):0≤F i k:=by
 have h1:=h.mono (i:=i) (p:=i+n) (k:=k) (q:=k) (by omega) (aG _);rw[h.mA (i+n) k (.inl (by omega))]at h1;exact h1
theorem er.row(h:er F n m ok w){i:Nat}(hi:i<n):∀(s k:Nat),m-k≤s→F i k=F (i+1) k∨∃ q,k≤q∧q<m∧ok i q=true∧F i k=w i q+F (i+1) (q+1)
 | s,k,v=>by
  by_cases hk:k<m
  ·cases s with
   |zero=>omega
   | succ s =>
    have h0:=h.step i k hi hk;have h1:=h.down i k;have y:=h.right (i+1) k;by_cases ho:ok i k=true
    ·rw [if_pos ho] at h0
     by_cases e:F i k=w i k+F (i+1) (k+1)
     ·exact .inr ⟨k,aG _,hk,ho,e⟩
     ·by_cases d : F i k = F (i + 1) k
      ·exact .inl d
      ·have u : F i k = F i (k + 1) := by omega
       rcases h.row hi s (k+1) (by omega)with g|⟨q,g1,g2,g3,g4⟩
       ·exact .inl (by omega)
       ·exact .inr ⟨q,by omega,g2,g3,by omega⟩
    ·rw [if_neg ho] at h0
     by_cases d:F i k=F (i+1) k
     ·exact .inl d
     ·have u : F i k = F i (k + 1) := by omega
      rcases h.row hi s (k+1) (by omega)with g|⟨q,g1,g2,g3,g4⟩
      ·exact .inl (by omega)
      ·exact .inr ⟨q,by omega,g2,g3,by omega⟩
  ·exact .inl (by rw[h.mA i k (.inr (by omega)),h.mA (i+1) k (.inr (by omega))])
def ja(P:Nat→Bool):Nat→Nat→Option Nat
 |_,0=>none
 |q,t+1=>bif P q then some q else ja P (q+1) t
theorem Gv{P:Nat→Bool}:∀{t q x:Nat},ja P q t=some x→q≤x∧x<q+t∧P x=true∧∀ y,q≤y→y<x→P y=false
 |0,_,_,h=>by cases h
 | t+1,q,x,h=>by
  unfold ja at h;cases g:P q with
  | true =>
   rw[g]at h;cases h;exact⟨aG _,by omega,g,fun y h1 k=>by omega⟩
  | false =>
   rw[g]at h;obtain⟨a,b,c,d⟩:=Gv (t:=t) h;exact⟨by omega,by omega,c,fun y h1 k=>by
    by_cases e:y=q
    ·subst e; exact g
    ·exact d y (by omega) k⟩
def gH(F:Nat→Nat→Int)(ok:Nat→Nat→Bool)(w:Nat→Nat→Int)(v:Int)(i q:Nat):Bool:=ok i q&&(w i q+F (i+1) (q+1)==v)
theorem Q1{v:Int}{i q:Nat}:gH F ok w v i q=true↔ok i q=true∧w i q+F (i+1) (q+1)=v:=by
 unfold gH;rw[aA,beq_iff_eq]
def gI(F:Nat→Nat→Int)(m:Nat)(ok:Nat→Nat→Bool)(w:Nat→Nat→Int):Nat→Nat→Nat→List (Nat × Nat)
 |0,_,_=>[]
 | t+1,i,f=>match ja (gH F ok w (F i f) i) f (m-f) with
  |some q=>(i,q)::gI F m ok w t (i+1) (q+1)
  |none=>gI F m ok w t (i+1) f
theorem Gw{t i f q:Nat} (h:ja (gH F ok w (F i f) i) f (m-f)=some q):gI F m ok w (t+1) i f=(i,q)::gI F m ok w t (i+1) (q+1):=by
 rw[gI,h]
theorem Gx{t i f:Nat} (h:ja (gH F ok w (F i f) i) f (m-f)=none):gI F m ok w (t+1) i f=gI F m ok w t (i+1) f:=by
 rw[gI,h]
theorem zY:∀(t i f:Nat),∀ x∈gI F m ok w t i f,i≤x.1∧x.1<i+t∧f≤x.2∧x.2<m∧ok x.1 x.2=true
 |0,_,_,x,h=>by cases h
 | t+1,i,f,x,h=>by
  cases g:ja (gH F ok w (F i f) i) f (m-f)with
  | none =>
   rw[Gx g]at h;obtain⟨a,b,c,d,e⟩:=zY t (i+1) f x h;exact⟨by omega,by omega,c,d,e⟩
  | some q =>
   rw[Gw g]at h;obtain⟨k,v,u,_⟩:=Gv g;rcases bZ.1 h with rfl|h
   ·exact⟨aG _,by simp,k,by simp; omega,(Q1.1 u).1⟩
   ·obtain ⟨a, b, c, d, e⟩ := zY t (i + 1) (q + 1) x h
    exact⟨by omega,by omega,by omega,d,e⟩
theorem Gy:∀(t i f:Nat),(gI F m ok w t i f).Pairwise fun x y=>x.1<y.1∧x.2<y.2
 |0,_,_=>.nil
 | t+1,i,f=>by
  cases d:ja (gH F ok w (F i f) i) f (m-f)with
  |none=>rw[Gx d]; exact Gy t (i+1) f
  | some q =>
   rw[Gw d];refine .cons (fun y g=>?_) (Gy t (i+1) (q+1));obtain⟨a,_,c,_,_⟩:=zY t (i+1) (q+1) y g;exact⟨by simp; omega,by simp; omega⟩
end
/-! ### g d, as a function -/
def mB(n m:Nat)(ok:Nat→Nat→Bool)(w:Nat→Nat→Int)(i k:Nat):Int :=
 if h:i<n∧k<m then
  if ok i k=true then max (max (mB n m ok w (i+1) k) (mB n m ok w i (k+1))) (w i k+mB n m ok w (i+1) (k+1)) else max (mB n m ok w (i+1) k) (mB n m ok w i (k+1))
 else 0
termination_by (n-i)+(m-k)
theorem Q2(n m:Nat)(ok:Nat→Nat→Bool)(w:Nat→Nat→Int):er (mB n m ok w) n m ok w :=
 ⟨fun i k h => by rw [mB, dif_neg (by omega)], fun i k hi hk => by
  conv=>lhs; rw[mB]
  rw[dif_pos ⟨hi,hk⟩]⟩
theorem er.le{F:Nat→Nat→Int}{n m:Nat}{ok:Nat→Nat→Bool}{w:Nat→Nat→Int}(h:er F n m ok w){W:Int}(d:0≤W)(hw:∀ i k,w i k≤W):∀(t i k:Nat),n-i=t→F i k≤W*(t:Int)
 |0,i,k,u=>by rw[h.mA i k (.inl (by omega))]; simp
 | t+1,i,k,u=>by
  have e:W*((t+1:Nat):Int)=W*(t:Int)+W:=by rw[Int.natCast_succ,Int.mul_add,Int.mul_one]
  rw[e];rcases h.row (i:=i) (by omega) (m-k) k (aG _)with g|⟨q,_,_,_,g⟩
  ·have := h.le d hw t (i + 1) k (by omega)
   omega
  ·have := h.le d hw t (i + 1) (q + 1) (by omega)
   have:=hw i q;omega
/-! ### d -/
def fL(r:List G):Int:=(gi r 0).int
def pY(r:List G):Int:=(gi r 1).int
def a7(r:List G):ByteArray:=(gi r 2).str
def Gz(r:List G):ByteArray:=(gi r 3).str
def fM(r:List G):Prop:=aD [.int .i64,.int .i64,.str,.str,.int .i64,.int .i64,.str,.str] r=r ∧ -1000000000000≤fL r∧fL r≤1000000000000
def mC(p q:List G):Int:=if fL q-fL p>fL p-fL q then fL q-fL p else fL p-fL q
def sA(off:Int)(p q:List G):Bool:=((a7 p).toList==(a7 q).toList)&&((pY p==pY q)&&bl (mC p q) off)
theorem zZ{p q:List G}(d:fM p)(g:fM q):0≤mC p q∧mC p q≤2000000000000:=by
 obtain⟨_,h1,h⟩:=d;obtain⟨_,k,u⟩:=g;unfold mC;split<;>omega
theorem GA{p q:List G}(d:fM p)(g:fM q):rZ [.l [p],.l [q]]=some [.i (mC p q)]:=by
 obtain⟨_,h1,h⟩:=d;obtain⟨_,k,u⟩:=g;unfold fL at h1 h k u;refine aa.toEq ?_;unfold rZ mC fL
 (dsimp +instances only[Aa,Ab,Ac,Ad,Ae,Af,Ag])
 exact aa.pos (kD.2 ⟨by omega,by omega⟩) (aa.pos (kD.2 ⟨by omega,by omega⟩) (aa.some rfl))
theorem GB(off:Int){p q:List G}(d:fM p)(g:fM q):r7 [.l [p],.l [q],.i off]=some [.t (sA off p q)]:=by
 refine aa.toEq ?_;unfold r7 sA
 (dsimp +instances only[Aa,Ab,Ac,Ad,Ae,Af,Ag])
 refine aa.test (fun h=>?_) fun h=>?_
 ·have h : ((a7 p).toList == (a7 q).toList) = true := h
  rw[h];refine aa.test (fun h=>?_) fun h=>?_
  ·have h : (pY p == pY q) = true := h
   rw[h,d.1,g.1];refine aa.cE (GA d g) ?_;exact aa.some rfl
  ·have h : (pY p == pY q) = false := h
   rw[h];exact aa.some rfl
 ·have h : ((a7 p).toList == (a7 q).toList) = false := h
  rw[h];exact aa.some rfl
/-! ### g lists of numbers of d -/
structure JC (a b:List (List G)) (X Y:List Nat):Prop where
 ha:∀ z∈a,fM z
 hb:∀ z∈b,fM z
 hX:∀ i∈X,i<a.length
 hY:∀ i∈Y,i<b.length
 na:a.length≤100000
 nb:b.length≤100000
 nX:X.length≤1000
 nY:Y.length≤1000
def bF(X:List Nat):List (List G):=X.map fun(i:Nat)=>[G.i (i:Int)]
theorem lB(X:List Nat):(bF X).length=X.length:=dz _
theorem sB{X:List Nat}{i:Nat}(hi:i<X.length):(bF X).getD i []=[.i ((X.getD i 0:Nat):Int)]:=by
 unfold bF;rw[cr,cd,bO hi,cr,bO hi];rfl
theorem sC{α:Type}{l:List α}{i:Nat}{z:α}(h:i<l.length):l.getD i z∈l:=by
 rw[cr,bO h];exact mP h
def lC(a:List (List G))(X:List Nat)(i:Nat):List G:=a.getD (X.getD i 0) []
def eX(a b:List (List G))(X Y:List Nat)(off:Int)(i k:Nat):Bool:=sA off (lC a X i) (lC b Y k)
def wJ(a b:List (List G))(X Y:List Nat)(i k:Nat):Int:=10000000000-mC (lC a X i) (lC b Y k)
theorem JC.z6{a b:List (List G)}{X Y:List Nat}(J:JC a b X Y){i:Nat}(hi:i<X.length):X.getD i 0<a.length∧fM (lC a X i):=by
 have h:=J.hX _ (sC (z:=0) hi);exact⟨h,J.ha _ (sC h)⟩
theorem JC.z7{a b:List (List G)}{X Y:List Nat}(J:JC a b X Y){i:Nat}(hi:i<Y.length):Y.getD i 0<b.length∧fM (lC b Y i):=by
 have h:=J.hY _ (sC (z:=0) hi);exact⟨h,J.hb _ (sC h)⟩
theorem afK{a b:List (List G)}{X Y:List Nat}(J:JC a b X Y)(off:Int)(h:List (List G)){i k:Nat}(hi:i<X.length)(hk:k<Y.length) :
  vu [.l a,.l b,.l (bF X),.l (bF Y),.i off,.l h,.i (i:Int),.i (k:Int)]=some [.l a,.l b,.l (bF X),.l (bF Y),.i off,.l h,.i (wJ a b X Y i k),.t (eX a b X Y off i k)]:=by
 obtain⟨h1,d⟩:=J.z6 hi;obtain⟨y,g⟩:=J.z7 hk;have v:=zZ d g;refine aa.toEq ?_;unfold vu
 (dsimp +instances only[Aa,Ab,Ac,Ad,Ae,Af,Ag])
 simp only[a8,sB hi,sB hk,lB]
 (dsimp +instances only[Aa,Ab,Ac,Ad,Ae,Af,Ag])
 simp only[a8];refine aa.p (aa.p (aa.p (aa.p ?_)));have q:a.getD (X.getD i 0) []=lC a X i:=rfl;have u:b.getD (Y.getD k 0) []=lC b Y k:=rfl;rw[q,u,d.1,g.1];refine aa.cE (GA d g) ?_
 (dsimp +instances only[Aa,Ab,Ac,Ad,Ae,Af,Ag])
 refine aa.pos (kD.2 ⟨by omega,by omega⟩) ?_;refine aa.cE (GB off d g) ?_
 (dsimp +instances only[Aa,Ab,Ac,Ad,Ae,Af,Ag])
 refine aa.pos ?_ (aa.some rfl);simp
theorem Q3{a b:List (List G)}{X Y:List Nat}(J:JC a b X Y)(off:Int)(h:List (List G)){i k:Nat}(hi:i<X.length)(hk:k<Y.length) :
  zt [.l [[.l a,.l b,.l (bF X),.l (bF Y),.i off,.l h]],.i (i:Int),.i (k:Int)]=some [.i (wJ a b X Y i k),.t (eX a b X Y off i k)]:=by
 obtain⟨h1,d⟩:=J.z6 hi;obtain⟨y,g⟩:=J.z7 hk;have v:=zZ d g;refine aa.toEq ?_;unfold zt
 (dsimp +instances only[Aa,Ab,Ac,Ad,Ae,Af,Ag])
 simp only[a8,sB hi,sB hk,lB]
 (dsimp +instances only[Aa,Ab,Ac,Ad,Ae,Af,Ag])
 simp only[a8];refine aa.p (aa.p (aa.p (aa.p ?_)));have q:a.getD (X.getD i 0) []=lC a X i:=rfl;have u:b.getD (Y.getD k 0) []=lC b Y k:=rfl;rw[q,u,d.1,g.1];refine aa.cE (GA d g) ?_
 (dsimp +instances only[Aa,Ab,Ac,Ad,Ae,Af,Ag])
 refine aa.pos (kD.2 ⟨by omega,by omega⟩) ?_;refine aa.cE (GB off d g) ?_;exact aa.some rfl
/-! ### d table -/
def dK(F:Nat→Nat→Int)(m i t:Nat):List (List G):=(dG (m+1)).map fun j=>[G.i (if t≤j then F i j else 0)]
def dE(F:Nat→Nat→Int)(n m i:Nat):List (List G):=(dG (n+1)).map fun p=>[G.l (if i≤p then dK F m p 0 else [])]
theorem oa(F:Nat→Nat→Int)(m i t:Nat):(dK F m i t).length=m+1:=by unfold dK; rw[dz,sR]
theorem sD(F:Nat→Nat→Int)(n m i:Nat):(dE F n m i).length=n+1:=by unfold dE; rw[dz,sR]
theorem vW{F:Nat→Nat→Int}{m i t j:Nat}(d:j≤m):(dK F m i t).getD j []=[.i (if t≤j then F i j else 0)]:=by
 unfold dK;rw[cr,cd,s7 (by omega)];rfl
theorem GC{F:Nat→Nat→Int}{n m i p:Nat}(d:p≤n):(dE F n m i).getD p []=[.l (if i≤p then dK F m p 0 else [])]:=by
 unfold dE;rw[cr,cd,s7 (by omega)];rfl
theorem afL{F:Nat→Nat→Int}{m i t:Nat}:(dK F m i (t+1)).set t [.i (F i t)]=dK F m i t:=by
 apply jF;intro j;unfold dK;rw[dR,cd,cd,dz,sR];by_cases d:j<m+1
 ·rw [s7 d]
  by_cases e:t=j
  ·subst e
   rw[if_pos rfl,if_pos d];simp
  ·rw [if_neg e]
   simp only[eF];by_cases h:t≤j
   ·rw[if_pos h,if_pos (by omega)]
   ·rw[if_neg h,if_neg (by omega)]
 ·rw [lH (by simp; omega)]
  by_cases e:t=j
  ·subst e
   rw[if_pos rfl,if_neg d];rfl
  ·rw [if_neg e]
   rfl
theorem afM{F:Nat→Nat→Int}{m i:Nat}(h:F i m=0):dK F m i m=bL (m+1) [.i 0]:=by
 rw[ah6];refine⟨oa F m i m,fun x d=>?_⟩;unfold dK at d;obtain⟨j,g,rfl⟩:=dF.1 d;rw[eu]at g;by_cases e:m≤j
 ·rw[if_pos e,show j=m from by omega,h]
 ·rw[if_neg e]
theorem afN{F:Nat→Nat→Int}{m i:Nat}(h:∀ k,F i k=0):dK F m i 0=bL (m+1) [.i 0]:=by
 rw[ah6];refine⟨oa F m i 0,fun x d=>?_⟩;unfold dK at d;obtain⟨j,g,rfl⟩:=dF.1 d;rw[if_pos (eh _),h]
theorem afO{F:Nat→Nat→Int}{n m i:Nat}:(dE F n m (i+1)).set i [.l (dK F m i 0)]=dE F n m i:=by
 apply jF;intro j;unfold dE;rw[dR,cd,cd,dz,sR];by_cases d:j<n+1
 ·rw [s7 d]
  by_cases e:i=j
  ·subst e
   rw[if_pos rfl,if_pos d];simp
  ·rw [if_neg e]
   simp only[eF];by_cases h:i≤j
   ·rw[if_pos h,if_pos (by omega)]
   ·rw[if_neg h,if_neg (by omega)]
 ·rw [lH (by simp; omega)]
  by_cases e:i=j
  ·subst e
   rw[if_pos rfl,if_neg d];rfl
  ·rw [if_neg e]
   rfl
theorem afP{F:Nat→Nat→Int}{n m:Nat}(h:∀ k,F n k=0):(bL (n+1) ([.l []]:List G)).set n [.l (bL (m+1) [.i 0])]=dE F n m n:=by
 apply jF;intro j;unfold dE;rw[dR,cd,ah7,wy];by_cases d:j<n+1
 ·rw [s7 d]
  by_cases e:n=j
  ·subst e
   rw[if_pos rfl,if_pos d,eF,if_pos (aG _),afN h]
  ·rw[if_neg e,if_pos d,eF,if_neg (by omega)]
 ·rw [lH (by simp; omega)]
  by_cases e:n=j
  ·subst e
   rw[if_pos rfl,if_neg d];rfl
  ·rw [if_neg e, if_neg d]
   rfl
theorem sE(k:Kd)(r:List G)(v:G):aV [k] r 0 [v]=[v]:=by
 simp[aV,nk]
theorem Q4{a b x y d row:List (List G)}{off:Int}{i k:Nat}(hk:k≤100000) :
  vz [.l a,.l b,.l x,.l y,.i off,.l d,.l row,.i (i:Int),.i (k:Int)]=some (some 0,[.l a,.l b,.l x,.l y,.i off,.l d,.l row,.i (i:Int),.i ((k:Int)-1)]):=by
 refine aa.toEq ?_;unfold vz
 (dsimp +instances only[Aa,Ab,Ac,Ad,Ae,Af,Ag])
 exact aa.pos (kD.2 ⟨by omega,by omega⟩) (aa.pos (by simp) (aa.some rfl))
theorem Q5{a b:List (List G)}{X Y:List Nat}(J:JC a b X Y)(off:Int){F:Nat→Nat→Int}(d:er F X.length Y.length (eX a b X Y off) (wJ a b X Y)){i:Nat}(hi:i<X.length):∀ t:Nat,t≤Y.length →
  aT vA [.l a,.l b,.l (bF X),.l (bF Y),.i off,.l (dE F X.length Y.length (i+1)),.l (dK F Y.length i t),.i (i:Int),.i ((t:Int)-1)] (t+1) fun c g=>c=0∧g=[.l a,.l b,.l (bF X),.l (bF Y),.i off,.l (dE F X.length Y.length (i+1)),.l (dK F Y.length i 0),.i (i:Int)]
 | 0,_=>by
  refine aT.stop (x:=0) (aa.toEq ?_) ⟨rfl,rfl⟩;unfold vA
  (dsimp +instances only[Aa,Ab,Ac,Ad,Ae,Af,Ag])
  exact aa.neg (by rw[ff]; decide) (aa.pos (by simp) (aa.some rfl))
 | t+1,ht=>by
  have nX:=J.nX;have nY:=J.nY;have hW:∀ i k,F i k≤10000000000*((X.length-i:Nat):Int):=fun i k=>d.le (W:=10000000000) (by omega) (fun i k=>by
   unfold wJ mC;split<;>omega) _ i k rfl
  have b1:=d.Gu (i+1) t;have b2:=d.Gu (i+1) (t+1);have b3:=hW (i+1) (t+1);have hwo : -2000000000000≤wJ a b X Y i t∧wJ a b X Y i t≤10000000000:=by
   have:=zZ (J.z6 hi).2 (J.z7 (show t<Y.length by omega)).2;unfold wJ;omega
  have ih:=Q5 J off d hi t (by omega);have e0:((t+1:Nat):Int)-1=(t:Int):=by omega
  rw[e0];refine aT.next (aa.toEq ?_) ih
  have e1:((i:Int)+1).toNat=i+1:=by omega
  have e2:((t:Int)+1).toNat=t+1:=by omega
  have V:(dE F X.length Y.length (i+1)).getD (i+1) []=[.l (dK F Y.length (i+1) 0)]:=by rw[GC (by omega),if_pos (aG _)]
  have hN0:(dK F Y.length (i+1) 0).getD t []=[.i (F (i+1) t)]:=by rw[vW (by omega),if_pos (eh _)]
  have I:(dK F Y.length (i+1) 0).getD (t+1) []=[.i (F (i+1) (t+1))]:=by rw[vW (by omega),if_pos (eh _)]
  have M:(dK F Y.length i (t+1)).getD (t+1) []=[.i (F i (t+1))]:=by rw[vW (by omega),if_pos (aG _)]
  have q:=d.step i t hi (by omega);have y:∀ v,v=F i t→(dK F Y.length i (t+1)).set t [.i v]=dK F Y.length i t:=fun v hv=>by rw[hv,afL]
  have B:∀ v:Int,((dK F Y.length i (t+1)).set t [.i v]).getD t []=[.i v]:=fun v=>by
   rw[cr,bB (by rw[oa]; omega)];rfl
  have N:=sD F X.length Y.length (i+1);have O:=oa F Y.length i (t+1);have U:=oa F Y.length (i+1) 0;generalize hRR:dK F Y.length i (t+1)=R at M y B O⊢;unfold vA
  (dsimp +instances only[Aa,Ab,Ac,Ad,Ae,Af,Ag])
  simp only[a8,e1,e2,cF,V]
  (dsimp +instances only[Aa,Ab,Ac,Ad,Ae,Af,Ag])
  simp only[hN0,I,M,sE,N,O,U,j_,B,List.set_set]
  (dsimp +instances only[Aa,Ab,Ac,Ad,Ae,Af,Ag])
  refine aa.p (aa.p (aa.p (aa.p (aa.p (aa.p (aa.p (aa.p (aa.p (aa.p ?_)))))))));refine aa.iD (aa.eq (afK J off _ hi (show t<Y.length by omega))) (by simp) ?_;rintro _ rfl
  (dsimp +instances only[Aa,Ab,Ac,Ad,Ae,Af,Ag])
  simp only[V]
  (dsimp +instances only[Aa,Ab,Ac,Ad,Ae,Af,Ag])
  simp only[I,N,U]
  (dsimp +instances only[Aa,Ab,Ac,Ad,Ae,Af,Ag])
  refine aa.test (fun h=>?_) fun h=>?_
  ·rw [if_pos h] at q
   refine aa.p (aa.p (aa.p (aa.p (aa.p (aa.p (aa.p (aa.pos (kD.2 ⟨by omega,by omega⟩) (aa.p (aa.p ?_)))))))));refine aa.tail (P:=fun u g=>u=0∧g=[.l a,.l b,.l (bF X),.l (bF Y),.i off,.l (dE F X.length Y.length (i+1)),.l (dK F Y.length i t),.i (i:Int),.i ((t:Int)-1)]) ⟨_,Q4 (by omega),0,rfl,?_,?_⟩ (by simp) ?_
   ·rfl
   ·rw [y _ ?_]
    rw[q];split<;>split<;>omega
   ·rintro _ _ ⟨rfl, rfl⟩
    (dsimp +instances only[Aa,Ab,Ac,Ad,Ae,Af,Ag])
    exact aa.pos (by simp) (aa.some rfl)
  ·rw [if_neg (by rw [h]; decide)] at q
   refine aa.tail (P:=fun u g=>u=0∧g=[.l a,.l b,.l (bF X),.l (bF Y),.i off,.l (dE F X.length Y.length (i+1)),.l (dK F Y.length i t),.i (i:Int),.i ((t:Int)-1)]) ⟨_,Q4 (by omega),0,rfl,?_,?_⟩ (by simp) ?_
   ·rfl
   ·rw [y _ ?_]
    rw[q];split<;>omega
   ·rintro _ _ ⟨rfl, rfl⟩
    (dsimp +instances only[Aa,Ab,Ac,Ad,Ae,Af,Ag])
    exact aa.pos (by simp) (aa.some rfl)
theorem Q6{a b:List (List G)}{X Y:List Nat}(J:JC a b X Y)(off:Int){F:Nat→Nat→Int}(d:er F X.length Y.length (eX a b X Y off) (wJ a b X Y)):∀ t:Nat,t≤X.length →
  aT vB [.l a,.l b,.l (bF X),.l (bF Y),.i off,.l (dE F X.length Y.length t),.i ((t:Int)-1)] (t+1) fun c g=>c=0∧g=[.l a,.l b,.l (bF X),.l (bF Y),.i off,.l (dE F X.length Y.length 0)]
 | 0,_=>by
  refine aT.stop (x:=0) (aa.toEq ?_) ⟨rfl,rfl⟩;unfold vB
  (dsimp +instances only[Aa,Ab,Ac,Ad,Ae,Af,Ag])
  exact aa.neg (by rw[ff]; decide) (aa.pos (by simp) (aa.some rfl))
 | t+1,y=>by
  have nX:=J.nX;have nY:=J.nY;have q:=Q6 J off d t (by omega);have u:((t+1:Nat):Int)-1=(t:Int):=by omega
  rw[u];refine aT.next (aa.toEq ?_) q
  have v:((Y.length:Int)+1).toNat=Y.length+1:=by omega
  have h:(bL (Y.length+1) ([.i 0]:List G))=dK F Y.length t Y.length:=(afM (d.mA t Y.length (.inr (aG _)))).symm;have k:=Q5 J off d (show t<X.length by omega) Y.length (aG _);unfold vB
  (dsimp +instances only[Aa,Ab,Ac,Ad,Ae,Af,Ag])
  simp only[lB,v,h];refine aa.p (aa.p (aa.p (aa.p ?_)));refine aa.loop (k.to (by omega)) (by simp[oa]) ?_;rintro _ _ ⟨rfl,rfl⟩
  (dsimp +instances only[Aa,Ab,Ac,Ad,Ae,Af,Ag])
  simp only[a8,cF,sE,sD];refine aa.p (aa.pos (by simp; omega) (aa.p (aa.pos (by simp[sD]) (aa.some ?_))));rw[afO]
theorem afQ{a b:List (List G)}{X Y:List Nat}(J:JC a b X Y)(off:Int){F:Nat→Nat→Int}(d:er F X.length Y.length (eX a b X Y off) (wJ a b X Y)) :
  zq [.l a,.l b,.l (bF X),.l (bF Y),.i off,.l []]=some [.l a,.l b,.l (bF X),.l (bF Y),.i off,.l (dE F X.length Y.length 0)]:=by
 have nX:=J.nX;have nY:=J.nY;have h:((X.length:Int)+1).toNat=X.length+1:=by omega
 have q:((Y.length:Int)+1).toNat=Y.length+1:=by omega
 have g:(bL (X.length+1) ([.l []]:List G)).set X.length [.l (bL (Y.length+1) [.i 0])]=dE F X.length Y.length X.length:=afP fun k=>d.mA X.length k (.inl (aG _));refine aa.toEq ?_;unfold zq
 (dsimp +instances only[Aa,Ab,Ac,Ad,Ae,Af,Ag])
 simp only[lB,h,q,cF,sE,g,wy,sD];refine aa.p (aa.p (aa.p (aa.p (aa.p (aa.pos (by simp) (aa.p ?_))))));refine aa.loop ((Q6 J off d X.length (aG _)).to (by omega)) (by simp) ?_;rintro _ _ ⟨rfl,rfl⟩
 (dsimp +instances only[Aa,Ab,Ac,Ad,Ae,Af,Ag])
 exact aa.pos (by simp) (aa.some rfl)
def ob(X Y:List Nat)(p:Nat × Nat):List G:=[.i ((X.getD p.1 0:Nat):Int),.i ((Y.getD p.2 0:Nat):Int)]
def Q7(X Y:List Nat)(out:List (List G))(i:Nat):Option Nat→List (List G)
 |some q=>out++[ob X Y (i,q)]
 |none=>out
def Q8(f:Nat):Option Nat→Nat
 |some q=>q+1
 |none=>f
theorem GD{a b d out:List (List G)}{X Y:List Nat}(off:Int){f i k n:Nat}(hi:i<X.length)(hk:k<Y.length)(nY:Y.length≤1000)(ho:out.length≤100000)(t:Bool) :
  r8 [.l a,.l b,.l (bF X),.l (bF Y),.i off,.l d,.l out,.i (f:Int),.i (i:Int),.i (k:Int),.i (n:Int),.i (i:Int),.t t] =
   bif t then some (some 0,[.l a,.l b,.l (bF X),.l (bF Y),.i off,.l d,.l (out++[ob X Y (i,k)]),.i ((k+1:Nat):Int),.i (n:Int),.i (i:Int)])
   else some (some 1,[.l a,.l b,.l (bF X),.l (bF Y),.i off,.l d,.l out,.i (f:Int),.i (i:Int),.i (k:Int),.i (n:Int),.i (i:Int)]):=by
 cases t with
 | false =>
  refine aa.toEq ?_;unfold r8
  (dsimp +instances only[Aa,Ab,Ac,Ad,Ae,Af,Ag])
  exact aa.neg rfl (aa.pos (by simp) (aa.some rfl))
 | true =>
  refine aa.toEq ?_;unfold r8
  (dsimp +instances only[Aa,Ab,Ac,Ad,Ae,Af,Ag])
  simp only[a8,sB hi,sB hk,lB]
  (dsimp +instances only[Aa,Ab,Ac,Ad,Ae,Af,Ag])
  exact aa.pos rfl (aa.p (aa.p (aa.pos (by simp; omega) (aa.p (aa.pos (by simp) (aa.some rfl))))))
section
variable {a b:List (List G)} {X Y:List Nat} {F:Nat→Nat→Int}
theorem Q9(J:JC a b X Y)(off:Int)(v:er F X.length Y.length (eX a b X Y off) (wJ a b X Y))(out:List (List G))(ho:out.length≤100000){f i:Nat}(hi:i<X.length)(hf:f≤Y.length):∀ t k:Nat,k+t=Y.length →
  aT pS [.l a,.l b,.l (bF X),.l (bF Y),.i off,.l (dE F X.length Y.length 0),.l out,.i (f:Int),.i (i:Int),.i (k:Int),.i (X.length:Int),.i (i:Int)] (t+1)
   fun c g=>c=0∧g=[.l a,.l b,.l (bF X),.l (bF Y),.i off,.l (dE F X.length Y.length 0),.l (Q7 X Y out i (ja (gH F (eX a b X Y off) (wJ a b X Y) (F i f) i) k t)),.i (Q8 f (ja (gH F (eX a b X Y off) (wJ a b X Y) (F i f) i) k t):Int),.i (X.length:Int),.i (i:Int)]
 | 0,k,hk=>by
  refine aT.stop (x:=0) (aa.toEq ?_) ⟨rfl,rfl⟩;have nY:=J.nY;unfold pS
  (dsimp +instances only[Aa,Ab,Ac,Ad,Ae,Af,Ag])
  simp only[lB];exact aa.n (aa.pos (by simp) (aa.some rfl))
 | t+1,k,hk=>by
  have nX:=J.nX;have nY:=J.nY;have q:k<Y.length:=by omega
  have hW:∀ i k,F i k≤10000000000*((X.length-i:Nat):Int):=fun i k=>v.le (W:=10000000000) (by omega) (fun i k=>by
   unfold wJ mC;split<;>omega) _ i k rfl
  have b2:=v.Gu (i+1) (k+1);have b3:=hW (i+1) (k+1);have hwo : -2000000000000≤wJ a b X Y i k∧wJ a b X Y i k≤10000000000:=by
   have:=zZ (J.z6 hi).2 (J.z7 q).2;unfold wJ;omega
  have U:((i:Int)+1).toNat=i+1:=by omega
  have V:((k:Int)+1).toNat=k+1:=by omega
  have B:(dE F X.length Y.length 0).getD (i+1) []=[.l (dK F Y.length (i+1) 0)]:=by rw[GC (by omega),if_pos (eh _)]
  have I:(dE F X.length Y.length 0).getD i []=[.l (dK F Y.length i 0)]:=by rw[GC (by omega),if_pos (eh _)]
  have M:(dK F Y.length (i+1) 0).getD (k+1) []=[.i (F (i+1) (k+1))]:=by rw[vW (by omega),if_pos (eh _)]
  have N:(dK F Y.length i 0).getD f []=[.i (F i f)]:=by rw[vW (by omega),if_pos (eh _)]
  have O:∀ c:Bool,gH F (eX a b X Y off) (wJ a b X Y) (F i f) i k=c→ja (gH F (eX a b X Y off) (wJ a b X Y) (F i f) i) k (t+1)=bif c then some k else ja (gH F (eX a b X Y off) (wJ a b X Y) (F i f) i) (k+1) t:=fun c hc=>by rw[←hc]; rfl
  have go:gH F (eX a b X Y off) (wJ a b X Y) (F i f) i k=false→aa (pS [.l a,.l b,.l (bF X),.l (bF Y),.i off,.l (dE F X.length Y.length 0),.l out,.i (f:Int),.i (i:Int),.i (k:Int),.i (X.length:Int),.i (i:Int)])
    (fun o=>o=(none,[.l a,.l b,.l (bF X),.l (bF Y),.i off,.l (dE F X.length Y.length 0),.l out,.i (f:Int),.i (i:Int),.i ((k+1:Nat):Int),.i (X.length:Int),.i (i:Int)])):=fun d=>by
   unfold pS
   (dsimp +instances only[Aa,Ab,Ac,Ad,Ae,Af,Ag])
   simp only[lB];refine aa.p ?_;refine aa.cE (Q3 J off _ hi q) ?_
   (dsimp +instances only[Aa,Ab,Ac,Ad,Ae,Af,Ag])
   simp only[a8,U,V,B,I]
   (dsimp +instances only[Aa,Ab,Ac,Ad,Ae,Af,Ag])
   simp only[M,N,sD,oa]
   (dsimp +instances only[Aa,Ab,Ac,Ad,Ae,Af,Ag])
   refine aa.test (fun h=>?_) fun h=>?_
   ·refine aa.p (aa.p (aa.p (aa.p (aa.pos (kD.2 ⟨by omega, by omega⟩) (aa.p (aa.p ?_))))))
    have y:(wJ a b X Y i k+F (i+1) (k+1)==F i f)=false:=by
     unfold gH at d
     rwa [h,oB]at d
    rw[y];refine aa.tail (P:=fun u g=>u=1∧g=[.l a,.l b,.l (bF X),.l (bF Y),.i off,.l (dE F X.length Y.length 0),.l out,.i (f:Int),.i (i:Int),.i (k:Int),.i (X.length:Int),.i (i:Int)]) ⟨_,GD off hi q nY ho false,1,rfl,rfl,rfl⟩ (by simp) ?_;rintro _ _ ⟨rfl,rfl⟩
    (dsimp +instances only[Aa,Ab,Ac,Ad,Ae,Af,Ag])
    exact aa.neg rfl (aa.p (aa.pos (by simp) (aa.some rfl)))
   ·refine aa.tail (P := fun u g => u = 1 ∧ g = [.l a, .l b, .l (bF X), .l (bF Y), .i off, .l (dE F X.length Y.length 0), .l out, .i (f : Int), .i (i : Int), .i (k : Int), .i (X.length : Int), .i (i : Int)]) ⟨_, GD off hi q nY ho false, 1, rfl, rfl, rfl⟩ (by simp) ?_
    rintro _ _ ⟨rfl,rfl⟩
    (dsimp +instances only[Aa,Ab,Ac,Ad,Ae,Af,Ag])
    exact aa.neg rfl (aa.p (aa.pos (by simp) (aa.some rfl)))
  cases d:gH F (eX a b X Y off) (wJ a b X Y) (F i f) i k with
  | false =>
   rw[O false d,cond_false];exact aT.next (aa.toEq (go d)) (Q9 J off v out ho hi hf t (k+1) (by omega))
  | true =>
   rw[O true d,cond_true];obtain⟨o1,o2⟩:=Q1.1 d;refine aT.stop (x:=0) (aa.toEq ?_) ⟨rfl,rfl⟩;unfold pS
   (dsimp +instances only[Aa,Ab,Ac,Ad,Ae,Af,Ag])
   simp only[lB];refine aa.p ?_;refine aa.cE (Q3 J off _ hi q) ?_
   (dsimp +instances only[Aa,Ab,Ac,Ad,Ae,Af,Ag])
   simp only[a8,U,V,B,I]
   (dsimp +instances only[Aa,Ab,Ac,Ad,Ae,Af,Ag])
   simp only[M,N,sD,oa]
   (dsimp +instances only[Aa,Ab,Ac,Ad,Ae,Af,Ag])
   refine aa.pos o1 ?_;refine aa.p (aa.p (aa.p (aa.p (aa.pos (kD.2 ⟨by omega,by omega⟩) (aa.p (aa.p ?_))))));have y:(wJ a b X Y i k+F (i+1) (k+1)==F i f)=true:=by rw[beq_iff_eq]; exact o2
   rw[y];refine aa.tail (P:=fun u g=>u=0∧g=[.l a,.l b,.l (bF X),.l (bF Y),.i off,.l (dE F X.length Y.length 0),.l (out++[ob X Y (i,k)]),.i ((k+1:Nat):Int),.i (X.length:Int),.i (i:Int)]) ⟨_,GD off hi q nY ho true,0,rfl,rfl,rfl⟩ (by simp) ?_;rintro _ _ ⟨rfl,rfl⟩
   (dsimp +instances only[Aa,Ab,Ac,Ad,Ae,Af,Ag])
   exact aa.pos rfl (aa.pos (by simp) (aa.some rfl))
theorem GF(J:JC a b X Y)(off:Int)(h:er F X.length Y.length (eX a b X Y off) (wJ a b X Y)):∀(t i f:Nat) (out:List (List G)),i+t=X.length→f≤Y.length→out.length+t≤100000 →
  aT r9 [.l a,.l b,.l (bF X),.l (bF Y),.i off,.l (dE F X.length Y.length 0),.l out,.i (f:Int),.i (X.length:Int),.i (i:Int)] (t+1)
   fun c g=>c=0∧g=[.l a,.l b,.l (bF X),.l (bF Y),.i off,.l (dE F X.length Y.length 0),.l (out++(gI F Y.length (eX a b X Y off) (wJ a b X Y) t i f).map (ob X Y))]
 | 0,i,f,out,hi,k,ho=>by
  have e:out++(gI F Y.length (eX a b X Y off) (wJ a b X Y) 0 i f).map (ob X Y)=out:=by rw[gI,sW,c_]
  rw[e];refine aT.stop (x:=0) (aa.toEq ?_) ⟨rfl,rfl⟩;unfold r9
  (dsimp +instances only[Aa,Ab,Ac,Ad,Ae,Af,Ag])
  exact aa.n (aa.pos (by simp) (aa.some rfl))
 | t+1,i,f,out,hi,k,ho=>by
  have nX:=J.nX;have nY:=J.nY;have u:=Q9 J off h out (by omega) (f:=f) (i:=i) (by omega) k (Y.length-f) f (by omega);have step:∀ q,ja (gH F (eX a b X Y off) (wJ a b X Y) (F i f) i) f (Y.length-f)=q→aa (r9 [.l a,.l b,.l (bF X),.l (bF Y),.i off,.l (dE F X.length Y.length 0),.l out,.i (f:Int),.i (X.length:Int),.i (i:Int)])
    (fun o=>o=(none,[.l a,.l b,.l (bF X),.l (bF Y),.i off,.l (dE F X.length Y.length 0),.l (Q7 X Y out i q),.i (Q8 f q:Int),.i (X.length:Int),.i ((i+1:Nat):Int)])):=fun q d=>by
   rw[d]at u;unfold r9
   (dsimp +instances only[Aa,Ab,Ac,Ad,Ae,Af,Ag])
   refine aa.p ?_;refine aa.loop (u.to (by omega)) (by simp) ?_;rintro _ _ ⟨rfl,rfl⟩
   (dsimp +instances only[Aa,Ab,Ac,Ad,Ae,Af,Ag])
   exact aa.p (aa.pos (by simp) (aa.some rfl))
  cases d:ja (gH F (eX a b X Y off) (wJ a b X Y) (F i f) i) f (Y.length-f)with
  | none =>
   have:=GF J off h t (i+1) f out (by omega) k (by omega);rw[Gx d];exact aT.next (aa.toEq (step none d)) this
  | some q =>
   obtain⟨v,y,_,_⟩:=Gv d;have:=GF J off h t (i+1) (q+1) (out++[ob X Y (i,q)]) (by omega) (by omega) (by simp; omega);rw[Gw d,dw];rw[fY]at this;exact aT.next (aa.toEq (step (some q) d)) this
theorem Q_(J:JC a b X Y)(off:Int)(d:er F X.length Y.length (eX a b X Y off) (wJ a b X Y)) :
  vD [.l a,.l b,.l (bF X),.l (bF Y),.i off,.l []]=some [.l a,.l b,.l (bF X),.l (bF Y),.i off,.l (dE F X.length Y.length 0),.l ((gI F Y.length (eX a b X Y off) (wJ a b X Y) X.length 0 0).map (ob X Y))]:=by
 have nX:=J.nX;refine aa.toEq ?_;unfold vD
 (dsimp +instances only[Aa,Ab,Ac,Ad,Ae,Af,Ag])
 refine aa.cE (afQ J off d) ?_
 (dsimp +instances only[Aa,Ab,Ac,Ad,Ae,Af,Ag])
 simp only[lB];have h:=GF J off d X.length 0 0 [] (by omega) (eh _) (by simp; omega);rw[jG]at h;refine aa.loop (h.to (by omega)) (by first|rfl|simp) ?_;rintro _ _ ⟨rfl,rfl⟩
 (dsimp +instances only[Aa,Ab,Ac,Ad,Ae,Af,Ag])
 exact aa.pos (by simp) (aa.some rfl)
end
abbrev GK:=ByteArray × Int
def dj(k:GK):List G:=[.s k.1,.i k.2]
theorem afR(k:GK):a_ [.str,.int .i64] (dj k) (dj k)=true:=by
 show ((k.1.toList==k.1.toList)&&((k.2==k.2)&&true))=true
 simp
theorem afS{k k':GK}(h:k≠k'):a_ [.str,.int .i64] (dj k) (dj k')=false:=by
 show ((k.1.toList==k'.1.toList)&&((k.2==k'.2)&&true))=false
 cases h1:k.1.toList==k'.1.toList with
 |false=>rfl
 | true =>
  cases d:k.2==k'.2 with
  |false=>rfl
  |true=>exact(h (Prod.ext (ID (eq_of_beq h1)) (eq_of_beq d))).elim
def gz(i:Nat)(e:GK × List Nat):List G:=[.l [dj e.1],.l [[.l (bF e.2)]],.i (i:Int),.t true]
def bh:Nat→List (GK × List Nat)→List (List G)
 |_,[]=>[]
 |i,e::L=>gz i e::bh (i+1) L
theorem sF:∀(i:Nat) (L:List (GK × List Nat)),(bh i L).length=L.length
 |_,[]=>rfl
 |i,_::L=>by simp[bh,sF (i+1) L]
theorem sG:∀(i:Nat) (A B:List (GK × List Nat)),bh i (A++B)=bh i A++bh (i+A.length) B
 |i,[],B=>by simp[bh]
 | i,e::A,B=>by
  simp only[lL,bh,sG (i+1) A B,cz];rw[show i+1+A.length=i+(A.length+1) from by omega]
def j7(k:GK)(v:Nat):List (GK × List Nat)→List (GK × List Nat)
 | []=>[(k,[v])]
 |e::L=>if e.1=k then (e.1,e.2++[v])::L else e::j7 k v L
theorem z8(k:GK):∀ L:List (GK × List Nat),(∀ e∈L,e.1≠k)∨∃ A vs B,L=A++(k,vs)::B∧∀ e∈A,e.1≠k
 | []=>.inl fun e h=>by cases h
 | e::L=>by
  by_cases he:e.1=k
  ·exact .inr ⟨[],e.2,L,by rw[←he]; rfl,fun e h=>by cases h⟩
  ·rcases z8 k L with h | ⟨A, vs, B, rfl, h⟩
   ·exact .inl fun x d=>by
     rcases bZ.1 d with rfl|d
     ·exact he
     ·exact h x d
   ·exact .inr ⟨e::A,vs,B,rfl,fun x d=>by
     rcases bZ.1 d with rfl|d
     ·exact he
     ·exact h x d⟩
theorem z_{k:GK}(v:Nat):∀{L:List (GK × List Nat)},(∀ e∈L,e.1≠k)→j7 k v L=L++[(k,[v])]
 | [],_=>rfl
 | e::L,h=>by
  rw[j7,if_neg (h e cT),z_ v fun x d=>h x (cY _ d)];rfl
theorem Ah{k:GK}(v:Nat)(vs:List Nat)(B:List (GK × List Nat)):∀{A:List (GK × List Nat)},(∀ e∈A,e.1≠k)→j7 k v (A++(k,vs)::B)=A++(k,vs++[v])::B
 | [],_=>by rw[jG,j7,if_pos rfl,jG]
 | e::A,h=>by
  rw[lL,j7,if_neg (h e cT),Ah v vs B fun x d=>h x (cY _ d)];rfl
theorem GG(k:GK)(R:List (List G)):∀(A:List (GK × List Nat)) (i j:Nat),(∀ e∈A,e.1≠k)→bW [.str,.int .i64] (dj k) (bh i A++R) j=bW [.str,.int .i64] (dj k) R (j+A.length)
 | [],_,_,_=>rfl
 | e::A,i,j,h=>by
  rw[bh,lL,bW,show (gi (gz i e) 0).row=dj e.1 from rfl,afS (Ne.symm (h e cT)),cond_false,GG k R A (i+1) (j+1) fun x d=>h x (cY _ d),cz];congr 1;omega
theorem Ra{k:GK}{L:List (GK × List Nat)}(h:∀ e∈L,e.1≠k)(i j:Nat):bW [.str,.int .i64] (dj k) (bh i L) j=none:=by
 have:=GG k [] L i j h;rw[c_]at this;exact this
theorem Rb{k:GK}{A:List (GK × List Nat)}(h:∀ e∈A,e.1≠k)(i:Nat)(r:List G)(d:(gi r 0).row=dj k)(R:List (List G)):bW [.str,.int .i64] (dj k) (bh i A++r::R) 0=some (A.length,r):=by
 rw[GG k (r::R) A i 0 h,bW,d,afR,cond_true,cF]
theorem Rc(R:List (List G)):∀(A:List (GK × List Nat)) (i j c:Nat),i+A.length≤c→eT (c:Int) (bh i A++R) j=eT (c:Int) R (j+A.length)
 | [],_,_,_,_=>rfl
 | e::A,i,j,c,h=>by
  rw[cz]at h;have hb:(((gi (gz i e) 2).int.toNat:Int)==(c:Int))=false:=by
   show (((i:Int).toNat:Int)==(c:Int))=false
   rw[a8,beq_eq_false_iff_ne];omega
  rw[bh,lL,eT,hb,cond_false,Rc R A (i+1) (j+1) c (by omega),cz];congr 1;omega
theorem Re(A:List (GK × List Nat))(r:List G)(R:List (List G))(d:(gi r 2).int=(A.length:Int)):eT (A.length:Int) (bh 0 A++r::R) 0=some (A.length,r):=by
 rw[Rc (r::R) A 0 0 A.length (by omega),eT,d,a8,show ((A.length:Int)==(A.length:Int))=true from by simp,cond_true,cF]
theorem vX{α:Type}(p:List α)(x y:α)(q:List α)(n:Nat)(h:p.length=n):(p++x::q).set n y=p++y::q:=by
 subst h;rw[List.set_append_right _ _ (aG _),Nat.sub_self,List.set_cons_zero]
def od(L:List (GK × List Nat)):Nat:=(L.map fun e=>e.2.length).sum
theorem afT{L:List (GK × List Nat)}{e:GK × List Nat}(h:e∈L):e.2.length≤od L:=by
 induction L with
 |nil=>cases h
 | cons x L d =>
  unfold od at d⊢;rw[dw,SX];rcases bZ.1 h with rfl|h
  ·omega
  ·have := d h
   omega
theorem Rf(k:GK)(v:Nat):∀ L:List (GK × List Nat),od (j7 k v L)=od L+1
 | []=>rfl
 | e::L=>by
  have d:=Rf k v L;rw[j7];split
  ·unfold od
   simp;omega
  ·unfold od at d ⊢
   rw[dw,SX,dw,SX,d];omega
theorem afU(L:List (GK × List Nat))(k:GK)(v:Nat) :
  ed [.str,.int .i64] (bh 0 L) (dj k)=true∧(cu [.str,.int .i64] (bh 0 L) (dj k)).length≤od L ∧
   qT (lj [.str,.int .i64] (bh 0 L) (dj k) L.length) (lh [.str,.int .i64] (bh 0 L) (dj k) L.length:Nat)=true ∧
   qS (lj [.str,.int .i64] (bh 0 L) (dj k) L.length) (lh [.str,.int .i64] (bh 0 L) (dj k) L.length:Nat) (cu [.str,.int .i64] (bh 0 L) (dj k)++[[.i (v:Int)]])=bh 0 (j7 k v L) ∧
   bz [.str,.int .i64] (bh 0 L) (dj k) L.length=(j7 k v L).length:=by
 rcases z8 k L with h1|⟨A,vs,B,rfl,y⟩
 ·have d := Ra h1 0 0
  have g:cu [.str,.int .i64] (bh 0 L) (dj k)=[]:=by unfold cu; rw[d]
  have h:lj [.str,.int .i64] (bh 0 L) (dj k) L.length=bh 0 L++[[.l [dj k],.l [[.l []]],.i (L.length:Int),.t false]]:=by unfold lj; rw[d]
  have q:lh [.str,.int .i64] (bh 0 L) (dj k) L.length=L.length:=by unfold lh; rw[d]
  have u:=Re L [.l [dj k],.l [[.l []]],.i (L.length:Int),.t false] [] rfl;refine⟨by unfold ed; rw[d],by rw[g]; simp,?_,?_,?_⟩
  ·rw [h, q]
   unfold qT;rw[u];rfl
  ·rw [h, q, g, z_ v h1, sG]
   unfold qS;rw[u];simp only[];rw[vX _ _ _ _ _ (sF 0 L),cF];rfl
  ·rw [z_ v h1]
   unfold bz dO;rw[d];simp
 ·have d:bW [.str,.int .i64] (dj k) (bh 0 (A++(k,vs)::B)) 0=some (A.length,gz A.length (k,vs)):=by
   rw[sG,bh,cF];exact Rb y 0 (gz A.length (k,vs)) rfl _
  have g:cu [.str,.int .i64] (bh 0 (A++(k,vs)::B)) (dj k)=bF vs:=by unfold cu; rw[d]; rfl
  have h:lj [.str,.int .i64] (bh 0 (A++(k,vs)::B)) (dj k) (A++(k,vs)::B).length=bh 0 A++[.l [dj k],.l [[.l (bF vs)]],.i (A.length:Int),.t false]::bh (A.length+1) B:=by
   unfold lj;rw[d,sG,bh,cF];exact vX _ _ _ _ _ (sF 0 A)
  have q:lh [.str,.int .i64] (bh 0 (A++(k,vs)::B)) (dj k) (A++(k,vs)::B).length=A.length:=by
   unfold lh;rw[d];show ((A.length:Int).toNat)=A.length
   exact a8 _
  have u:=Re A [.l [dj k],.l [[.l (bF vs)]],.i (A.length:Int),.t false] (bh (A.length+1) B) rfl;refine⟨by unfold ed; rw[d]; rfl,by rw[g,lB]; exact afT (e:=(k,vs)) (by simp),?_,?_,?_⟩
  ·rw [h, q]
   unfold qT;rw[u];rfl
  ·rw [h, q, g, Ah v vs B y, sG, bh, cF]
   unfold qS;rw[u];simp only[];rw[vX _ _ _ _ _ (sF 0 A)];have I:bF vs++[[G.i (v:Int)]]=bF (vs++[v]):=by unfold bF; rw[kf]; rfl
   rw[I];rfl
  ·rw [Ah v vs B y]
   unfold bz dO;rw[d];simp
/-! ### d of a log -/
def fl(r:List G):GK:=(a7 r,pY r)
def kP(l:List (List G))(s:ByteArray)(i:Nat):Bool:=(Gz (l.getD i [])).toList==s.toList
def mD(l:List (List G))(s:ByteArray)(L:List (GK × List Nat))(i:Nat):List (GK × List Nat):=bif kP l s i then j7 (fl (l.getD i [])) i L else L
def lD(l:List (List G))(s:ByteArray)(n:Nat):List (GK × List Nat):=(dG n).foldl (mD l s) []
theorem Rg(l:List (List G))(s:ByteArray)(n:Nat):lD l s (n+1)=mD l s (lD l s n) n:=by
 unfold lD;rw[HF,ah8];rfl
def fx(l:List (List G))(s:ByteArray)(k:GK)(n:Nat):List Nat:=(dG n).filter fun i=>kP l s i&&decide (fl (l.getD i [])=k)
theorem GH(l:List (List G))(s:ByteArray)(k:GK)(n:Nat):fx l s k (n+1)=fx l s k n++if kP l s n=true∧fl (l.getD n [])=k then [n] else []:=by
 unfold fx;rw[HF,List.filter_append];congr 1;by_cases h1:kP l s n=true
 ·by_cases d : fl (l.getD n []) = k
  ·rw[if_pos ⟨h1,d⟩,HC,if_pos (by rw[h1,oB,decide_eq_true_eq]; exact d),SY]
  ·rw[if_neg fun e=>d e.2,HC,if_neg (by rw[h1,oB,decide_eq_true_eq]; exact d),SY]
 ·rw[if_neg fun e=>h1 e.1,HC,if_neg (by rw[aA]; exact fun e=>h1 e.1),SY]
structure GI (l:List (List G)) (s:ByteArray) (n:Nat) (L:List (GK × List Nat)):Prop where
 GJ:od L≤n
 len:L.length≤n
 nd:(L.map (·.1)).Nodup
 oe:∀ e∈L,e.2=fx l s e.1 n∧e.2≠[]
 all:∀ k,fx l s k n≠[]→∃ e∈L,e.1=k
theorem GI.zero(l:List (List G))(s:ByteArray):GI l s 0 []:=⟨aG _,aG _,by simp,by simp,fun k h=>(h rfl).elim⟩
theorem GI.step{l:List (List G)}{s:ByteArray}{n:Nat}{L:List (GK × List Nat)}(h:GI l s n L):GI l s (n+1) (mD l s L n):=by
 unfold mD;cases hw:kP l s n with
 | false =>
  have e:∀ k,fx l s k (n+1)=fx l s k n:=fun k=>by rw[GH,if_neg (by rw[hw]; simp),c_]
  exact⟨SZ h.GJ,SZ h.len,h.nd,fun x d=>by rw[e]; exact h.oe x d,fun k hk=>by rw[e]at hk; exact h.all k hk⟩
 | true =>
  rw[cond_true];have v:fx l s (fl (l.getD n [])) (n+1)=fx l s (fl (l.getD n [])) n++[n]:=by rw[GH,if_pos ⟨hw,rfl⟩]
  have q:∀ k,fl (l.getD n [])≠k→fx l s k (n+1)=fx l s k n:=fun k hk=>by rw[GH,if_neg (fun e=>hk e.2),c_]
  have I:=Rf (fl (l.getD n [])) n L;have U:=h.GJ;have M:=h.len;rcases z8 (fl (l.getD n [])) L with h1|⟨A,vs,B,rfl,J⟩
  ·rw [z_ n h1] at I ⊢
   refine⟨by omega,by simp; omega,?_,fun x d=>?_,fun k hk=>?_⟩
   ·rw [kf, ah9]
    refine⟨h.nd,by simp,fun a ha b hb=>?_⟩;obtain⟨e,he,rfl⟩:=dF.1 ha;simp at hb;subst hb;exact h1 e he
   ·rcases cS.1 d with d | d
    ·rw [q x.1 (Ne.symm (h1 x d))]
     exact h.oe x d
    ·have d := wE.1 d
     subst d;show [n]=fx l s (fl (l.getD n [])) (n+1)∧[n]≠[]
     rw[v];have:fx l s (fl (l.getD n [])) n=[]:=by
      cases N:fx l s (fl (l.getD n [])) n with
      |nil=>rfl
      | cons y V =>
       obtain⟨e,he,hk⟩:=h.all (fl (l.getD n [])) (by rw[N]; simp);exact(h1 e he hk).elim
     rw[this];simp
   ·by_cases e : fl (l.getD n []) = k
    ·exact⟨_,wH _ cT,e⟩
    ·rw [q k e] at hk
     obtain⟨x,d,g⟩:=h.all k hk;exact⟨x,qc _ d,g⟩
  ·rw [Ah n vs B J] at I ⊢
   have u:=h.nd;rw[kf,dw]at u;have O:∀ e∈B,e.1≠fl (l.getD n []):=fun e he hk=>by
    have:=(ah9.1 u).2.1;rw[lQ]at this;exact this.1 (hk▸dF.2 ⟨e,he,rfl⟩)
   refine⟨by omega,by simp at M⊢; omega,?_,fun x d=>?_,fun k hk=>?_⟩
   ·rw [kf, dw]
    exact u
   ·rcases cS.1 d with d | d
    ·rw [q x.1 (Ne.symm (J x d))]
     exact h.oe x (qc _ d)
    ·rcases bZ.1 d with rfl | d
     ·have := h.oe (fl (l.getD n []), vs) (by simp)
      simp only at this⊢;rw[v,←this.1];simp
     ·rw [q x.1 (Ne.symm (O x d))]
      exact h.oe x (wH _ (cY _ d))
   ·by_cases e : fl (l.getD n []) = k
    ·exact⟨_,wH _ cT,e⟩
    ·rw [q k e] at hk
     obtain⟨x,d,g⟩:=h.all k hk;rcases cS.1 d with d|d
     ·exact⟨x,qc _ d,g⟩
     ·rcases bZ.1 d with rfl | d
      ·exact(e g).elim
      ·exact⟨x,wH _ (cY _ d),g⟩
theorem GI.to(l:List (List G))(s:ByteArray):∀ n,GI l s n (lD l s n)
 |0=>GI.zero l s
 | n+1=>by
  rw[Rg];exact(GI.to l s n).step
def dp(l:List (List G))(s:ByteArray):List (GK × List Nat):=lD l s l.length
theorem afV(l:List (List G))(B:l.length≤100000)(s:ByteArray) :
  j0 rY [.l [],.i 0,.s s,.l l,.i (l.length:Int),.i 0] fun c g=>c=0∧g=[.l (bh 0 (dp l s)),.i ((dp l s).length:Int)]:=by
 have r:=XF (st:=rY) (σ:=List (GK × List Nat)) (fun L i=>[.l (bh 0 L),.i (L.length:Int),.s s,.l l,.i (l.length:Int),.i (i:Int)]) l (fun L=>(0,[.l (bh 0 L),.i (L.length:Int)]))
  (fun L i=>L=lD l s i) [] (by omega) rfl
  (fun L i z d hi q hm I => by
   have u:=GI.to l s i;rw[←d]at u;have J:=u.GJ;have k:mD l s L i=lD l s (i+1):=by rw[Rg,d]
   obtain⟨v,a2,a3,a4,a5⟩:=afU L (fl z) i;unfold rY
   (dsimp +instances only[Aa,Ab,Ac,Ad,Ae,Af,Ag])
   simp only[a8,q];refine aa.p (aa.p ?_);have y:([.s (gi z 2).str,.i (gi z 1).int]:List G)=dj (fl z):=rfl;rw[y,a4,a5];refine aa.test (fun h=>?_) fun h=>?_
   ·have e:mD l s L i=j7 (fl z) i L:=by
     unfold mD kP;rw[q,show ((Gz z).toList==s.toList)=true from h,cond_true]
    rw[e]at k;exact aa.pos v (aa.pos (by simp; omega) (aa.pos (by rw[a3]; simp) (aa.p (aa.some ⟨_,rfl,k⟩))))
   ·have e:mD l s L i=L:=by
     unfold mD kP;rw[q,show ((Gz z).toList==s.toList)=false from h,cond_false]
    rw[e]at k;exact aa.p (aa.some ⟨L,rfl,k⟩))
  (fun L d => by
   unfold rY
   (dsimp +instances only[Aa,Ab,Ac,Ad,Ae,Af,Ag])
   simp only[a8];exact aa.n (aa.some rfl))
 refine r.mono ?_;rintro c g ⟨L,d,rfl,rfl⟩;exact⟨rfl,by rw[d]; rfl⟩
theorem Rh:∀(i:Nat) (L:List (GK × List Nat)),yz (bh i L)=true
 |_,[]=>rfl
 | i,e::L=>by
  have:=Rh (i+1) L;unfold yz at this⊢;rw[bh,List.all_cons,this];rfl
theorem Ai(l:List (List G))(d:l.length≤100000)(s:ByteArray):pR [.l l,.s s]=some [.l (bh 0 (dp l s)),.i ((dp l s).length:Int)]:=by
 refine aa.toEq ?_;unfold pR
 (dsimp +instances only[Aa,Ab,Ac,Ad,Ae,Af,Ag])
 refine aa.loop (afV l d s) (by first|rfl|simp) ?_;rintro _ _ ⟨rfl,rfl⟩
 (dsimp +instances only[Aa,Ab,Ac,Ad,Ae,Af,Ag])
 simp only[a8];exact aa.pos (by rw[Rh]; rfl) (aa.some rfl)
theorem Ri(l:List (List G))(s:ByteArray)(k:GK):az [.str,.int .i64] (bh 0 (dp l s)) (dj k) [.l []]=[.l (bF (fx l s k l.length))]:=by
 have g:=GI.to l s l.length;show az [.str,.int .i64] (bh 0 (lD l s l.length)) (dj k) [.l []]=_
 rcases z8 k (lD l s l.length)with h1|⟨A,vs,B,he,h⟩
 ·have:fx l s k l.length=[]:=by
   cases d:fx l s k l.length with
   |nil=>rfl
   | cons y u =>
    obtain⟨e,he,hk⟩:=g.all k (by rw[d]; simp);exact(h1 e he hk).elim
  unfold az;rw[Ra h1,this];rfl
 ·have q:bW [.str,.int .i64] (dj k) (bh 0 (lD l s l.length)) 0=some (A.length,gz A.length (k,vs)):=by
   rw[he,sG,bh,cF];exact Rb h 0 (gz A.length (k,vs)) rfl _
  have d:=g.oe (k,vs) (by rw[he]; simp);unfold az;rw[q];show [G.l (bF vs)]=_
  rw[show vs=fx l s k l.length from d.1]
def GL(A B:List (List G))(off:Int)(X Y:List Nat):List (Nat × Nat):=gI (mB X.length Y.length (eX A B X Y off) (wJ A B X Y)) Y.length (eX A B X Y off) (wJ A B X Y) X.length 0 0
def fU(A:List (List G))(d:ByteArray)(k:GK):List Nat:=fx A d k A.length
def gJ(A B:List (List G))(ac d:ByteArray)(off:Int)(k:GK):List (List G):=(GL A B off (fU A d k) (fU B ac k)).map (ob (fU A d k) (fU B ac k))
def fy(A B:List (List G))(ac d:ByteArray)(off:Int):List (List G):=((dp A d).map fun e=>gJ A B ac d off e.1).flatten
def kQ(r s:List G):Int:=fK (gi r 0).int (gi s 0).int
def ig(A B:List (List G))(ac d:ByteArray)(off:Int):List (List G):=cP (bE kQ) (fy A B ac d off)
theorem lE{A:List (List G)}{s:ByteArray}{k:GK}{i:Nat}:i∈fU A s k↔i<A.length∧kP A s i=true∧fl (A.getD i [])=k:=by
 unfold fU fx;rw[List.mem_filter,eu,aA,decide_eq_true_eq]
theorem Rj(A:List (List G))(s:ByteArray)(k:GK):(fU A s k).length≤A.length:=by
 unfold fU fx;have:=List.length_filter_le (fun i=>kP A s i&&decide (fl (A.getD i [])=k)) (dG A.length)
 rwa [sR]at this
theorem afW(A:List (List G))(s:ByteArray)(k:GK):(fU A s k).Pairwise (·<·):=(List.pairwise_lt_range).filter _
structure fm (A B:List (List G)):Prop where
 ha:∀ z∈A,fM z
 hb:∀ z∈B,fM z
 na:A.length≤1000
 nb:B.length≤1000
theorem fm.flip{A B:List (List G)}(h:fm A B):fm B A:=⟨h.hb,h.ha,h.nb,h.na⟩
theorem fm.jc{A B:List (List G)}(h:fm A B)(ac d:ByteArray)(k:GK):JC A B (fU A d k) (fU B ac k):=by
 have h1:=h.na;have g:=h.nb;have q:=Rj A d k;have u:=Rj B ac k;exact⟨h.ha,h.hb,fun i hi=>(lE.1 hi).1,fun i hi=>(lE.1 hi).1,by omega,by omega,by omega,by omega⟩
theorem GM{A B:List (List G)}{off:Int}{X Y:List Nat}{x:Nat × Nat}(h:x∈GL A B off X Y):x.1<X.length∧x.2<Y.length∧eX A B X Y off x.1 x.2=true:=by
 obtain⟨_,b,_,d,e⟩:=zY _ _ _ x h;exact⟨by omega,d,e⟩
theorem Rk(A B:List (List G))(off:Int)(X Y:List Nat):(GL A B off X Y).length≤X.length:=by
 have key:∀(F:Nat→Nat→Int) (m:Nat) (ok:Nat→Nat→Bool) (w:Nat→Nat→Int) (t i f:Nat),(gI F m ok w t i f).length≤t:=by
  intro F m ok w t
  induction t with
  |zero=>intro i f; exact aG _
  | succ t d =>
   intro i f;rw[gI];split
   ·rw [cz]
    exact Nat.succ_le_succ (d _ _)
   ·exact SZ (d _ _)
 exact key _ _ _ _ _ _ _
/-! ### d program -/
def GN(r:List G):Prop:=∃ i k:Nat,r=[.i (i:Int),.i (k:Int)]∧i≤100000∧k≤100000
theorem afX:rJ r_ GN kQ:=by
 rintro _ _ ⟨i,k,rfl,h1,g⟩ ⟨d,k',rfl,h,q⟩;refine⟨(i:Int)-(d:Int),?_,?_⟩
 ·refine aa.toEq ?_
  unfold r_
  (dsimp +instances only[Aa,Ab,Ac,Ad,Ae,Af,Ag])
  exact aa.pos (kD.2 ⟨by omega,by omega⟩) (aa.some rfl)
 ·show (i : Int) - (d : Int) < 0 ↔ fK (i : Int) (d : Int) < 0
  rw[sx];omega
theorem GO:eJ (bE kQ) (fun _=>True):=Q0 (fun a b=>n9.flip _ _) fun a b d h1 g=>n9.le _ _ _ h1 g
theorem GP{A B:List (List G)}(h:fm A B){ac d:ByteArray}{off:Int}{k:GK}{r:List G}(g:r∈gJ A B ac d off k) :
  ∃ i j:Nat,r=[.i (i:Int),.i (j:Int)]∧i∈fU A d k∧j∈fU B ac k∧sA off (A.getD i []) (B.getD j [])=true:=by
 obtain⟨x,q,rfl⟩:=dF.1 g;obtain⟨a,b,c⟩:=GM q;exact⟨_,_,rfl,sC a,sC b,c⟩
theorem Aj{A B:List (List G)}(h:fm A B){ac g:ByteArray}{off:Int}{r:List G}(d:r∈fy A B ac g off) :
  ∃(k:GK) (i j:Nat),r=[.i (i:Int),.i (j:Int)]∧i∈fU A g k∧j∈fU B ac k∧sA off (A.getD i []) (B.getD j [])=true:=by
 obtain⟨l,q,d⟩:=List.mem_flatten.1 d;obtain⟨e,_,rfl⟩:=dF.1 q;obtain⟨i,j,h1⟩:=GP h d;exact⟨_,i,j,h1⟩
theorem vY{A B:List (List G)}(h:fm A B){ac d:ByteArray}{off:Int}:∀ r∈fy A B ac d off,GN r:=fun r g=>by
 obtain⟨k,i,j,rfl,h1,q,_⟩:=Aj h g;have:=(lE.1 h1).1;have:=(lE.1 q).1;have:=h.na;have:=h.nb;exact⟨i,j,rfl,by omega,by omega⟩
theorem Ak{A B:List (List G)}(h:fm A B)(ac d:ByteArray)(off:Int):(fy A B ac d off).Pairwise fun a b=>(gi a 0).int≠(gi b 0).int:=by
 have M:=GI.to A d A.length;unfold fy;rw[List.pairwise_flatten];refine⟨fun l N=>?_,?_⟩
 ·obtain ⟨e, _, rfl⟩ := dF.1 N
  unfold gJ;rw[s8];refine(Gy _ _ _).imp_of_mem fun {x y} g k v he=>?_;obtain⟨q,_,_⟩:=GM (A:=A) (B:=B) (off:=off) g;obtain⟨b1,_,_⟩:=GM (A:=A) (B:=B) (off:=off) k;have he:(((fU A d e.1).getD x.1 0:Nat):Int)=(((fU A d e.1).getD y.1 0:Nat):Int):=he;have U:=SQ.1 (afW A d e.1) x.1 y.1 q b1 v.1;rw[cr,bO q,cr,bO b1]at he;simp only[lP]at he;omega
 ·rw [s8]
  have I:(dp A d).Pairwise fun e e'=>e.1≠e'.1:=by
   have:=M.nd;unfold HL at this
   rwa [s8]at this
  refine I.imp fun {e e'} J x g y k he=>?_;obtain⟨i,j,rfl,h1,_⟩:=GP h g;obtain⟨u,V,rfl,O,_⟩:=GP h k;have he:(i:Int)=(u:Int):=he;have he:i=u:=by omega
  subst he;exact J ((lE.1 h1).2.2.symm.trans (lE.1 O).2.2)
theorem Rl{A B:List (List G)}(h:fm A B)(ac d:ByteArray)(off:Int):∀ a∈fy A B ac d off,∀ b∈fy A B ac d off,bE kQ a b=false→bE kQ b a=false→a=b:=by
 intro a ha b hb h1 k;unfold bE kQ at h1 k;rw[dY,decide_eq_false_iff_not,sx]at h1 k;have he:(gi a 0).int=(gi b 0).int:=by omega
 obtain⟨i,hi,rfl⟩:=ow ha;obtain⟨j,q,rfl⟩:=ow hb;have u:=SQ.1 (Ak h ac d off);rcases ah_ i j with g|g|g
 ·exact(u i j hi q g he).elim
 ·subst g; rfl
 ·exact(u j i q hi g he.symm).elim
theorem Rm{A B:List (List G)}(h:fm A B)(ac d:ByteArray)(off:Int){out:List (List G)}(g:out.Perm (fy A B ac d off))(k:out.length<100000):nR [.l out]=some [.l (ig A B ac d off)]:=by
 have h1:=XT (C:=r_) (Q:=GN) afX (GO.mono fun _ _=>trivial) out (fun y q=>vY h y (g.mem_iff.1 q)) k fun a ha b hb=>Rl h ac d off a (g.mem_iff.1 ha) b (g.mem_iff.1 hb);unfold nR;rw[h1];have e:cP (bE kQ) (fy A B ac d off)=cP (bE kQ) out:=XP GO g.symm (fun _ _=>trivial) (Rl h ac d off);rw[←e];rfl
def pZ(r:List G):GK:=((gi (gi r 0).row 0).str,(gi (gi r 0).row 1).int)
theorem GQ:∀(i:Nat) (L:List (GK × List Nat)) (r:List G),r∈bh i L→∃(j:Nat) (e:GK × List Nat),e∈L∧r=gz j e
 |_,[],_,h=>by cases h
 | i,e::L,r,h=>by
  rcases bZ.1 h with rfl|h
  ·exact⟨i,e,cT,rfl⟩
  ·obtain ⟨j, e', h1, d⟩ := GQ (i + 1) L r h
   exact⟨j,e',cY _ h1,d⟩
theorem GR{β:Type}(f:GK→β):∀(i:Nat) (L:List (GK × List Nat)),(bh i L).map (fun r=>f (pZ r))=L.map fun e=>f e.1
 |_,[]=>rfl
 | i,e::L=>by
  simp only[bh,dw,GR f (i+1) L];rfl
theorem Rn:∀(i:Nat) (L:List (GK × List Nat)),(bh i L).map c6=(dG L.length).map (i+·)
 |_,[]=>rfl
 | i,e::L=>by
  simp only[bh,dw,Rn (i+1) L,cz,List.range_succ_eq_map,List.map_map];rw[show c6 (gz i e)=i from by simp[c6,gz,gi,G.int]];congr 1;refine List.map_congr_left fun x _=>?_;simp only[HA];omega
theorem Ro:∀ l:List Nat,l.Nodup→nodupB l=true
 | [],_=>rfl
 | a::l,d=>by
  obtain⟨h1,g⟩:=lQ.1 d;simp only[nodupB,Ro l g,fC,mM];cases h:l.any (ad a)with
  |false=>rfl
  | true =>
   obtain⟨x,k,e⟩:=jH.1 h;rw[Nat.eq_of_beq_eq_true e]at h1;exact(h1 k).elim
theorem Rp(L:List (GK × List Nat)):ls (bh 0 L) L.length=true:=by
 have hb:(bh 0 L).map c6=dG L.length:=by
  rw[Rn];simp
 unfold ls;rw[hb,aA];refine⟨Ro _ List.nodup_range,?_⟩;rw[cR];intro r d;have:c6 r∈(bh 0 L).map c6:=dF.2 ⟨r,d,rfl⟩;rw[hb,eu]at this;simpa using this
theorem Rq{st:List G→List G→Option (List G)}{ba:List G→Nat}{r:List G}{q:List (List G)}{d d':List G}(h:st r d=some d')(ha:ba d'=ba d):cD st ba (r::q) d=cD st ba q d':=by
 simp only[cD,h];rw[ha,show ad (ba d) (ba d)=true from oH _,cond_true]
theorem Rr{A B:List (List G)}(h:fm A B)(ac g:ByteArray)(off:Int)(clk ba:Nat):∀(q out:List (List G)),(∀ r∈q,r∈bh 0 (dp A g))→out.length+1000*q.length≤1000000 →
  cD zu (fun d=>(gi d 8).int.toNat) q [.s ac,.l A,.s g,.l B,.l (bh 0 (dp B ac)),.i (clk:Int),.l out,.i off,.i (ba:Int)] =
   some [.s ac,.l A,.s g,.l B,.l (bh 0 (dp B ac)),.i (clk:Int),.l (out++(q.map fun r=>gJ A B ac g off (pZ r)).flatten),.i off,.i (ba:Int)]
 | [],out,_,_=>by simp[cD]
 | r::q,out,k,u=>by
  simp only[cz]at u;obtain⟨j,e,he,rfl⟩:=GQ 0 _ r (k r cT);have v:=(GI.to A g A.length).oe e he;have hk:pZ (gz j e)=e.1:=rfl;have hX:e.2=fU A g e.1:=v.1;have J:=h.jc ac g e.1;have hlen:(gJ A B ac g off e.1).length≤1000:=by
   unfold gJ;rw[dz];exact lG (Rk _ _ _ _ _) J.nX
  have st:zu (gz j e) [.s ac,.l A,.s g,.l B,.l (bh 0 (dp B ac)),.i (clk:Int),.l out,.i off,.i (ba:Int)]=some [.s ac,.l A,.s g,.l B,.l (bh 0 (dp B ac)),.i (clk:Int),.l (out++gJ A B ac g off e.1),.i off,.i (ba:Int)]:=by
   have y:(gi (gi (gz j e) 1).row 0).rows=bF e.2:=rfl;have I:aD [.str,.int .i64] (gi (gz j e) 0).row=dj e.1:=rfl;refine aa.toEq ?_;unfold zu;rw[y,I]
   (dsimp +instances only[Aa,Ab,Ac,Ad,Ae,Af,Ag])
   rw[Ri,hX]
   (dsimp +instances only[Aa,Ab,Ac,Ad,Ae,Af,Ag])
   refine aa.cE (Q_ J off (Q2 _ _ _ _)) ?_
   (dsimp +instances only[Aa,Ab,Ac,Ad,Ae,Af,Ag])
   simp only[a8];exact aa.pos (by
    show ((ad out.length out.length)&&decide (out.length+(gJ A B ac g off e.1).length≤1048576))=true
    rw[oH,oB,decide_eq_true_eq];omega) (aa.pos (by rw[oH]; rfl) (aa.some rfl))
  rw[Rq st rfl,Rr h ac g off clk ba q _ (fun x M=>k x (cY _ M)) (by rw[e9]; omega)];rw[dw,oy,hk,fY]
theorem vZ:∀(n:Nat) (l:List Nat),l.Nodup→(∀ x∈l,x<n)→l.length≤n
 | 0,l,_,h=>by
  cases l with
  |nil=>exact aG _
  |cons x l=>exact absurd (h x cT) (by omega)
 | n+1,l,g,h=>by
  by_cases hm:n∈l
  ·have h1:=vZ n (l.erase n) (g.erase n) fun x d=>by
    have k:=h x (List.mem_of_mem_erase d);have q:x≠n:=fun e=>by
     subst e;exact(List.Nodup.not_mem_erase g) d
    omega
   rw[List.length_erase_of_mem hm]at h1;omega
  ·have:=vZ n l g fun x d=>by
    have k:=h x d;have q:x≠n:=fun e=>hm (e▸d);omega
   omega
theorem afY{A B:List (List G)}(h:fm A B)(ac d:ByteArray)(off:Int) :
  Ff [.s ac,.l A,.s d,.l B,.l (bh 0 (dp A d)),.i ((dp A d).length:Int),.l (bh 0 (dp B ac)),.i ((dp B ac).length:Int),.l [],.i off]=some (some 0,[.l (ig A B ac d off)]):=by
 have O:=GI.to A d A.length;have U:=O.len;have na:=h.na;show iC zw zx (bh 0 (dp A d)) (((dp A d).length:Int).toNat) _=_
 rw[a8];refine L0 (Rp _) fun b p q=>⟨rfl,?_⟩
 have hpn:p.length≤1000:=by
  have:=q.length_eq;rw[sF]at this;have:(dp A d).length≤A.length:=U;omega
 have v:((p.map fun r=>gJ A B ac d off (pZ r)).flatten).Perm (fy A B ac d off):=by
  unfold fy;rw[←GR (fun k=>gJ A B ac d off k) 0 (dp A d)];exact(q.map _).flatten
 have hall:(fy A B ac d off).length≤1000:=by
  have M:((fy A B ac d off).map fun r=>(gi r 0).int.toNat).Nodup:=by
   unfold HL;rw[s8];refine(Ak h ac d off).imp_of_mem fun {x y} g V N he=>N ?_;obtain⟨i,k,rfl,_⟩:=vY h x g;obtain⟨I,k',rfl,_⟩:=vY h y V;have he:((i:Int)).toNat=((I:Int)).toNat:=he;show (i:Int)=(I:Int)
   omega
  have J:((fy A B ac d off).map fun r=>(gi r 0).int.toNat) ⊆ dG A.length:=by
   intro x g;obtain⟨r,u,rfl⟩:=dF.1 g;obtain⟨k,i,j,rfl,h1,_⟩:=Aj h u;rw[eu];exact(lE.1 h1).1
  have:=vZ A.length _ M fun x g=>eu.1 (J g);rw[dz]at this;omega
 refine⟨_,Rr h ac d off (dp B ac).length b p [] (fun r u=>q.mem_iff.1 u) (by simp; omega),?_⟩;rw[jG];refine aa.toEq ?_;unfold zx
 (dsimp +instances only[Aa,Ab,Ac,Ad,Ae,Af,Ag])
 have W:=v.length_eq;refine aa.iD (aa.eq (Rm h ac d off v (by omega))) (by simp) ?_;rintro _ rfl
 (dsimp +instances only[Aa,Ab,Ac,Ad,Ae,Af,Ag])
 refine aa.pos ?_ (aa.some rfl);rw[W];unfold ig;rw[uY,oH];rfl
theorem afZ{A B:List (List G)}(h:fm A B)(ac d:ByteArray)(off:Int):zy [.l [[.s ac,.l A]],.l [[.s d,.l B]],.i off]=some [.l (ig A B ac d off)]:=by
 have na:=h.na;have nb:=h.nb;refine aa.toEq ?_;unfold zy
 (dsimp +instances only[Aa,Ab,Ac,Ad,Ae,Af,Ag])
 refine aa.cE (Ai A (by omega) d) ?_
 (dsimp +instances only[Aa,Ab,Ac,Ad,Ae,Af,Ag])
 refine aa.cE (Ai B (by omega) ac) ?_
 (dsimp +instances only[Aa,Ab,Ac,Ad,Ae,Af,Ag])
 simp only[a8];refine aa.tail (P:=fun u g=>u=0∧g=[.l (ig A B ac d off)]) ⟨_,afY h ac d off,0,rfl,rfl,rfl⟩ (by first|rfl|simp) ?_;rintro _ _ ⟨rfl,rfl⟩
 (dsimp +instances only[Aa,Ab,Ac,Ad,Ae,Af,Ag])
 exact aa.pos (by simp) (aa.some rfl)
/-! ### g sorted d -/
theorem Rs(A B:List (List G))(ac d:ByteArray)(off:Int):(ig A B ac d off).Perm (fy A B ac d off):=rI (lt:=bE kQ) _
theorem af0{A B:List (List G)}(h:fm A B)(ac d:ByteArray)(off:Int):(ig A B ac d off).Pairwise fun a b=>(gi a 0).int<(gi b 0).int:=by
 have h1:=u_ (lt:=bE kQ) GO (l:=fy A B ac d off) (fun _ _=>trivial);have k:(ig A B ac d off).Pairwise fun a b=>(gi a 0).int≠(gi b 0).int:=(Ak h ac d off).perm (Rs A B ac d off).symm (fun g e=>g e.symm);refine h1.imp₂ (fun {a b} g1 g2=>?_) k;unfold bE kQ at g1;rw[dY,decide_eq_false_iff_not,sx]at g1;omega
theorem Al{A B:List (List G)}(h:fm A B){ac d:ByteArray}{off:Int}{r:List G}(q:r∈ig A B ac d off) :
  ∃ i j:Nat,r=[.i (i:Int),.i (j:Int)]∧i<A.length∧j<B.length∧kP A d i=true∧kP B ac j=true∧sA off (A.getD i []) (B.getD j [])=true:=by
 obtain⟨k,i,j,rfl,h1,u,v⟩:=Aj h ((Rs A B ac d off).mem_iff.1 q);have g:=lE.1 h1;have a2:=lE.1 u;exact⟨i,j,rfl,g.1,a2.1,g.2.1,a2.2.1,v⟩
theorem Rt{A B:List (List G)}(h:fm A B)(ac d:ByteArray)(off:Int):(ig A B ac d off).length≤A.length:=by
 have k:((ig A B ac d off).map fun r=>(gi r 0).int.toNat).Nodup:=by
  unfold HL;rw[s8];refine((af0 h ac d off).imp_of_mem ?_);intro a b ha hb q e;obtain⟨i,j,rfl,_⟩:=Al h ha;obtain⟨g,y,rfl,_⟩:=Al h hb;have I:((i:Int)).toNat=((g:Int)).toNat:=e;have e':i=g:=by omega
  subst e';exact absurd q (Int.lt_irrefl _)
 have:=vZ A.length _ k fun x u=>by
  obtain⟨r,v,rfl⟩:=dF.1 u;obtain⟨i,j,rfl,hi,_⟩:=Al h v;show ((i:Int).toNat)<_
  rwa [a8]
 simpa using this
theorem og(ks:List Kd)(r:List G)(rs:List (List G))(key:List G):cu ks (r::rs) key=bif a_ ks key (gi r 0).row then jR r else cu ks rs key:=by
 unfold cu;simp only[bW];cases a_ ks key (gi r 0).row with
 |true=>rfl
 | false =>
  simp only[cond_false];rw[mu ks key rs (0+1)];cases bW ks key rs 0<;>rfl
theorem oh(ks:List Kd)(r:List G)(rs:List (List G))(key:List G):ed ks (r::rs) key=bif a_ ks key (gi r 0).row then (gi r 3).bool else ed ks rs key:=by
 unfold ed;simp only[bW];cases a_ ks key (gi r 0).row with
 |true=>rfl
 | false =>
  simp only[cond_false];rw[mu ks key rs (0+1)];cases bW ks key rs 0<;>rfl
theorem Ru(ks:List Kd)(r:List G)(rs:List (List G))(key:List G):gl ks (r::rs) key=bif a_ ks key (gi r 0).row then [gi r 0,gi r 1,gi r 2,.t false]::rs else r::gl ks rs key:=by
 unfold gl;simp only[bW];cases a_ ks key (gi r 0).row with
 |true=>rfl
 | false =>
  simp only[cond_false];rw[mu ks key rs (0+1)];cases bW ks key rs 0<;>rfl
theorem Rv(ks:List Kd)(r:List G)(rs:List (List G))(key:List G)(v:List (List G))(c:Nat):kF ks (r::rs) key v c=bif a_ ks key (gi r 0).row then [.l [key],.l [[.l v]],.i (gi r 2).int,.t true]::rs else r::kF ks rs key v c:=by
 unfold kF;simp only[bW];cases a_ ks key (gi r 0).row with
 |true=>rfl
 | false =>
  simp only[cond_false];rw[mu ks key rs (0+1)];cases bW ks key rs 0<;>rfl
theorem GS(ks:List Kd)(k key:List G):∀ rows:List (List G),cu ks (gl ks rows k) key=cu ks rows key
 | []=>rfl
 | r::rs=>by
  rw[Ru];cases h:a_ ks k (gi r 0).row with
  | true =>
   rw[cond_true,og,og];rfl
  |false=>rw[cond_false,og,og,GS ks k key rs]
theorem GU(ks:List Kd){k key:List G}(d:a_ ks key k=false):∀ rows:List (List G),ed ks (gl ks rows k) key=ed ks rows key
 | []=>rfl
 | r::rs=>by
  rw[Ru];cases h:a_ ks k (gi r 0).row with
  | true =>
   have e:a_ ks key (gi r 0).row=false:=by rw[←uW h]; exact d
   rw[cond_true,oh,oh,e];show (bif a_ ks key (gi r 0).row then _ else _)=_
   rw[e];rfl
  |false=>rw[cond_false,oh,oh,GU ks d rs]
theorem Rw(ks:List Kd)(k key:List G)(v:List (List G))(c:Nat):∀ rows:List (List G),cu ks (kF ks rows k v c) key=bif a_ ks key k then v else cu ks rows key
 | []=>by
  show cu ks [[.l [k],.l [[.l v]],.i (c:Int),.t true]] key=_
  rw[og];rfl
 | r::rs=>by
  rw[Rv,og];cases h:a_ ks k (gi r 0).row with
  | true =>
   rw[cond_true,og];have e:a_ ks key (gi r 0).row=a_ ks key k:=(uW h).symm;rw[e];show (bif a_ ks key k then _ else _)=_
   cases a_ ks key k<;>rfl
  | false =>
   rw[cond_false,og,Rw ks k key v c rs];cases d:a_ ks key (gi r 0).row with
   |false=>rfl
   | true =>
    cases g:a_ ks key k with
    |false=>rfl
    | true =>
     have:a_ ks k (gi r 0).row=true:=rF (by rw[pE]; exact g) d;rw[this]at h;cases h
theorem Rx(ks:List Kd)(k key:List G)(v:List (List G))(c:Nat):∀ rows:List (List G),ed ks (kF ks rows k v c) key=bif a_ ks key k then true else ed ks rows key
 | []=>by
  show ed ks [[.l [k],.l [[.l v]],.i (c:Int),.t true]] key=_
  rw[oh];rfl
 | r::rs=>by
  rw[Rv,oh];cases h:a_ ks k (gi r 0).row with
  | true =>
   rw[cond_true,oh];have e:a_ ks key (gi r 0).row=a_ ks key k:=(uW h).symm;rw[e];show (bif a_ ks key k then _ else _)=_
   cases a_ ks key k<;>rfl
  | false =>
   rw[cond_false,oh,Rx ks k key v c rs];cases d:a_ ks key (gi r 0).row with
   |false=>rfl
   | true =>
    cases g:a_ ks key k with
    |false=>rfl
    | true =>
     have:a_ ks k (gi r 0).row=true:=rF (by rw[pE]; exact g) d;rw[this]at h;cases h
theorem v7(s k:ByteArray):a_ [.str] [.s s] [.s k]=decide (s=k):=by
 show ((s.toList==k.toList)&&true)=_
 rw[fC,Gp]
structure fV (Q:List G→Prop) (m:List (List G)) (n:ByteArray→Nat):Prop where
 ed:∀ k,ed [.str] m [.s k]=true
 get:∀ k,(cu [.str] m [.s k]).length≤n k∧∀ z∈cu [.str] m [.s k],Q z
theorem fV.nil(Q:List G→Prop):fV Q [] fun _=>0:=⟨fun _=>rfl,fun _=>⟨aG _,by intro z d; cases d⟩⟩
theorem fV.add{Q:List G→Prop}{m:List (List G)}{n:ByteArray→Nat}(h:fV Q m n)(k:ByteArray){x:List G}(q:Q x)(c:Nat) :
  fV Q (kF [.str] (gl [.str] m [.s k]) [.s k] (cu [.str] m [.s k]++[x]) c) fun s=>if s=k then n s+1 else n s:=by
 refine⟨fun s=>?_,fun s=>?_⟩
 ·rw [Rx, v7]
  by_cases e:s=k
  ·rw[decide_eq_true e]; rfl
  ·rw [decide_eq_false e, cond_false, GU _ (by rw [v7]; exact decide_eq_false e)]
   exact h.ed s
 ·rw [Rw, v7]
  obtain⟨h1,g⟩:=h.get s;by_cases e:s=k
  ·subst e
   rw[decide_eq_true rfl,cond_true];simp only[if_true];refine⟨by rw[e9]; simp; omega,fun z d=>?_⟩;rcases cS.1 d with d|d
   ·exact g z d
   ·rw[wE.1 d]; exact q
  ·rw [decide_eq_false e, cond_false, GS]
   simp only[if_neg e];exact⟨h1,g⟩
theorem fV.mono{Q:List G→Prop}{m:List (List G)}{n d:ByteArray→Nat}(h:fV Q m n)(g:∀ k,n k≤d k):fV Q m d :=
 ⟨h.ed,fun k=>⟨lG (h.get k).1 (g k),(h.get k).2⟩⟩
def jb(r:List G):Prop:=c9 r∧0≤(gi r 0).int∧(gi r 0).int≤1000000
theorem af1{t m s h:Int}{b c x y:ByteArray}(d:0≤t∧t≤1000000)(hm:0≤m∧m≤10)(hb:b∈mz)(g:c∈calls)(u:0≤s∧s≤1000)(v:0≤h∧h≤1000)(k:x∈names)(q:y∈names) :
  jb [.i t,.i m,.s b,.s c,.i s,.i h,.s x,.s y] :=
 ⟨⟨t,m,b,c,s,h,x,y,rfl,by unfold small; omega,by unfold small; omega,by unfold small; omega,by unfold small; omega,hb,g,k,q⟩,d⟩
def jd(m:List (List G))(B:Int):Prop:=∀ k,0≤(gi (az [.str] m [.s k] [.i 0]) 0).int∧(gi (az [.str] m [.s k] [.i 0]) 0).int≤B
theorem jd.add{m:List (List G)}{B:Int}(h:jd m B)(k:ByteArray)(c:Nat):jd (aL [.str] m [.s k] [.i ((gi (az [.str] m [.s k] [.i 0]) 0).int+1)] c) (B+1):=fun s=>by
 have h1:=h k;have d:=h s;rw[Dc,v7];by_cases e:s=k
 ·rw [decide_eq_true e, cond_true]
  show 0≤(gi (az [.str] m [.s k] [.i 0]) 0).int+1∧(gi (az [.str] m [.s k] [.i 0]) 0).int+1≤B+1
  omega
 ·rw [decide_eq_false e, cond_false]
  omega
theorem Ry{Q:List G→Prop}{l aI ser cs:List (List G)}{clk c2:Nat}{n:ByteArray→Nat}(d:fV Q aI n){a t nn i:Int}{b:ByteArray}(O:n b≤1000){g h q u:Int}{v y B I:ByteArray}(N:Q [.i g,.i h,.s v,.s y,.i q,.i u,.s B,.s I])(f:Bool) :
  ∃(J:List (List G)) (M:Nat),rQ [.l l,.i a,.l aI,.i (clk:Int),.l ser,.i (c2:Int),.l cs,.i t,.s b,.l [[.i g,.i h,.s v,.s y,.i q,.i u,.s B,.s I]],.i nn,.i i,.t f] =
   some (some 0,[.l l,.i a,.l J,.i (M:Int),.l ser,.i (c2:Int),.l cs,.i t,.i nn,.i i])∧fV Q J (fun s=>if s=b then n s+1 else n s):=by
 have U:=(d.get b).1;cases f with
 | false =>
  refine⟨aI,clk,aa.toEq ?_,d.mono fun k=>by split<;>omega⟩;unfold rQ
  (dsimp +instances only[Aa,Ab,Ac,Ad,Ae,Af,Ag])
  simp only[a8];exact aa.neg rfl (aa.some rfl)
 | true =>
  refine⟨kF [.str] (gl [.str] aI [.s b]) [.s b] (cu [.str] aI [.s b]++[[.i g,.i h,.s v,.s y,.i q,.i u,.s B,.s I]]) clk,bz [.str] (gl [.str] aI [.s b]) [.s b] clk,aa.toEq ?_,d.add b N clk⟩;unfold rQ
  (dsimp +instances only[Aa,Ab,Ac,Ad,Ae,Af,Ag])
  simp only[a8];exact aa.pos rfl (aa.pos (d.ed b) (aa.pos (by simp; omega) (aa.pos (by simp) (aa.some rfl))))
theorem Rz{Q:List G→Prop}{l aI ser cs:List (List G)}{clk c2:Nat}{n:ByteArray→Nat}(y:fV Q aI n){a t nn i:Int}(ha:0≤a)(ha1:a≤100000){b:ByteArray}(B:n b≤1000){I J M N:Int}{O k U V:ByteArray}(W:Q [.i I,.i J,.s O,.s k,.i M,.i N,.s U,.s V]) :
  ∃(d:List (List G)) (h:Nat) (q:Int),a≤q∧q≤a+1∧rR [.l l,.i a,.l aI,.i (clk:Int),.l ser,.i (c2:Int),.l cs,.i t,.s b,.l [[.i I,.i J,.s O,.s k,.i M,.i N,.s U,.s V]],.i nn,.i i] =
   some (some 0,[.l l,.i q,.l d,.i (h:Int),.l ser,.i (c2:Int),.l cs,.i t,.i nn,.i i])∧fV Q d (fun s=>if s=b then n s+1 else n s):=by
 cases hb : !(k.toList==b.toList)with
 | false =>
  obtain⟨d,h,h1,v⟩:=Ry (l:=l) (ser:=ser) (cs:=cs) (clk:=clk) (c2:=c2) y (a:=a) (t:=t) (nn:=nn) (i:=i) (b:=b) B W false;refine⟨d,h,a,s9 _,by omega,aa.toEq ?_,v⟩;unfold rR
  (dsimp +instances only[Aa,Ab,Ac,Ad,Ae,Af,Ag])
  simp only[a8];refine aa.neg hb ?_;refine aa.tail (P:=fun u g=>u=0∧g=[.l l,.i a,.l d,.i (h:Int),.l ser,.i (c2:Int),.l cs,.i t,.i nn,.i i]) ⟨_,h1,0,rfl,rfl,rfl⟩ (by first|rfl|simp) ?_;rintro _ _ ⟨rfl,rfl⟩
  (dsimp +instances only[Aa,Ab,Ac,Ad,Ae,Af,Ag])
  simp only[a8];exact aa.some rfl
 | true =>
  obtain⟨_,hf,f,rfl⟩:=afy l a 8 ha (by omega) (by omega) (by omega);obtain⟨d,h,h1,v⟩:=Ry (l:=l) (ser:=ser) (cs:=cs) (clk:=clk) (c2:=c2) y (a:=a+1) (t:=t) (nn:=nn) (i:=i) (b:=b) B W (!f);refine⟨d,h,a+1,by omega,s9 _,aa.toEq ?_,v⟩;unfold rR
  (dsimp +instances only[Aa,Ab,Ac,Ad,Ae,Af,Ag])
  simp only[a8];refine aa.pos hb ?_;refine aa.cE hf ?_
  (dsimp +instances only[Aa,Ab,Ac,Ad,Ae,Af,Ag])
  refine aa.tail (P:=fun u g=>u=0∧g=[.l l,.i (a+1),.l d,.i (h:Int),.l ser,.i (c2:Int),.l cs,.i t,.i nn,.i i]) ⟨_,h1,0,rfl,rfl,rfl⟩ (by first|rfl|simp) ?_;rintro _ _ ⟨rfl,rfl⟩
  (dsimp +instances only[Aa,Ab,Ac,Ad,Ae,Af,Ag])
  simp only[a8];exact aa.some rfl
theorem sH{Q:List G→Prop}{l aI ser cs:List (List G)}{clk c2:Nat}{n:Nat}(y:fV Q aI fun _=>n){a t nn i:Int}(ha:0≤a)(M:a≤100000){q b:ByteArray}(hab:q≠b)(hn:n≤999){N O U V:Int}{W B x6 x7:ByteArray}(hx:Q [.i N,.i O,.s W,.s B,.i U,.i V,.s x6,.s x7]){y0 y1 y4 y5:Int}{y2 y3 y6 y7:ByteArray}(hy:Q [.i y0,.i y1,.s y2,.s y3,.i y4,.i y5,.s y6,.s y7]) :
  ∃(h:List (List G)) (v:Nat) (d:Int),a≤d∧d≤a+1∧lz [.l l,.i a,.l aI,.i (clk:Int),.l ser,.i (c2:Int),.i N,.i O,.s W,.s B,.i U,.i V,.s x6,.s x7,.l cs,.i t,.s q,.s b,.l [[.i y0,.i y1,.s y2,.s y3,.i y4,.i y5,.s y6,.s y7]],.i nn,.i i] =
   some (some 0,[.l l,.i d,.l h,.i (v:Int),.l ser,.i (c2:Int),.l cs,.i t,.i nn,.i i])∧fV Q h (fun _=>n+1):=by
 have hl:=(y.get q).1;cases hc : !(B.toList==q.toList)with
 | false =>
  obtain⟨h,v,d,g1,g2,h1,I⟩:=Rz (l:=l) (ser:=ser) (cs:=cs) (clk:=clk) (c2:=c2) y (a:=a) (t:=t) (nn:=nn) (i:=i) ha M (b:=b) (by omega) hy;refine⟨h,v,d,g1,g2,aa.toEq ?_,I.mono fun k=>by split<;>omega⟩;unfold lz
  (dsimp +instances only[Aa,Ab,Ac,Ad,Ae,Af,Ag])
  simp only[a8];refine aa.neg hc ?_;refine aa.tail (P:=fun u g=>u=0∧g=[.l l,.i d,.l h,.i (v:Int),.l ser,.i (c2:Int),.l cs,.i t,.i nn,.i i]) ⟨_,h1,0,rfl,rfl,rfl⟩ (by first|rfl|simp) ?_;rintro _ _ ⟨rfl,rfl⟩
  (dsimp +instances only[Aa,Ab,Ac,Ad,Ae,Af,Ag])
  simp only[a8];exact aa.some rfl
 | true =>
  obtain⟨h,v,d,g1,g2,h1,I⟩:=Rz (l:=l) (ser:=ser) (cs:=cs) (clk:=bz [.str] (gl [.str] aI [.s q]) [.s q] clk) (c2:=c2) (y.add q hx clk) (a:=a) (t:=t) (nn:=nn) (i:=i) ha M (b:=b) (by split<;>omega) hy;refine⟨h,v,d,g1,g2,aa.toEq ?_,I.mono fun k=>?_⟩
  ·unfold lz
   (dsimp +instances only[Aa,Ab,Ac,Ad,Ae,Af,Ag])
   simp only[a8];refine aa.pos hc (aa.pos (y.ed q) (aa.pos (by simp; omega) (aa.pos (by simp) ?_)));refine aa.tail (P:=fun u g=>u=0∧g=[.l l,.i d,.l h,.i (v:Int),.l ser,.i (c2:Int),.l cs,.i t,.i nn,.i i]) ⟨_,h1,0,rfl,rfl,rfl⟩ (by first|rfl|simp) ?_;rintro _ _ ⟨rfl,rfl⟩
   (dsimp +instances only[Aa,Ab,Ac,Ad,Ae,Af,Ag])
   simp only[a8];exact aa.some rfl
  ·by_cases J : k = b
   ·rw [if_pos J, if_neg (fun e => hab (e.symm.trans J))]
    exact aG _
   ·rw [if_neg J]
    split<;>omega
theorem jd.mono{m:List (List G)}{B d:Int}(h:jd m B)(hb:B≤d):jd m d:=fun k=>⟨(h k).1,HK (h k).2 hb⟩
theorem jd.nil:jd [] 0:=fun k=>⟨s9 0,s9 0⟩
theorem sI{X:Option (Option Nat × List G)}{l d ser cs:List (List G)}{k t nn i:Int}{h c2:Nat}
  (hX:X=some (some 0,[.l l,.i k,.l d,.i (h:Int),.l ser,.i (c2:Int),.l cs,.i t,.i nn,.i i])) (hi:aq (i+1)=true) :
  aa (aM true (bV X) fun v g17=>(aM true (bV (iY [.l (gi g17 0).rows,.i (gi g17 1).int,.l (gi g17 2).rows,.i (((gi g17 3).int.toNat:Nat):Int),.l (gi g17 4).rows,.i (((gi g17 5).int.toNat:Nat):Int),.l (gi g17 6).rows,.i (gi g17 7).int,.i (gi g17 8).int,.i (gi g17 9).int])) fun y g18=>some ((none:Option Nat),([.l (gi g18 0).rows,.i (gi g18 1).int,.l (gi g18 2).rows,.i (((gi g18 3).int.toNat:Nat):Int),.l (gi g18 4).rows,.i (((gi g18 5).int.toNat:Nat):Int),.l (gi g18 6).rows,.i (gi g18 7).int,.i (gi g18 8).int,.i (gi g18 9).int]:List G))))
   fun o=>o=(none,[.l l,.i k,.l d,.i (h:Int),.l ser,.i (c2:Int),.l cs,.i t,.i nn,.i (i+1)]):=by
 refine aa.tail (P:=fun u g=>u=0∧g=[.l l,.i k,.l d,.i (h:Int),.l ser,.i (c2:Int),.l cs,.i t,.i nn,.i i]) ⟨_,hX,0,rfl,rfl,rfl⟩ (by first|rfl|simp) ?_;rintro _ _ ⟨rfl,rfl⟩
 (dsimp +instances only[Aa,Ab,Ac,Ad,Ae,Af,Ag])
 simp only[a8];have q:iY [.l l,.i k,.l d,.i (h:Int),.l ser,.i (c2:Int),.l cs,.i t,.i nn,.i i]=some (some 0,[.l l,.i k,.l d,.i (h:Int),.l ser,.i (c2:Int),.l cs,.i t,.i nn,.i (i+1)]):=by
  refine aa.toEq ?_;unfold iY
  (dsimp +instances only[Aa,Ab,Ac,Ad,Ae,Af,Ag])
  simp only[a8];exact aa.pos hi (aa.some rfl)
 refine aa.tail (P:=fun u g=>u=0∧g=[.l l,.i k,.l d,.i (h:Int),.l ser,.i (c2:Int),.l cs,.i t,.i nn,.i (i+1)]) ⟨_,q,0,rfl,rfl,rfl⟩ (by first|rfl|simp) ?_;rintro _ _ ⟨rfl,rfl⟩
 (dsimp +instances only[Aa,Ab,Ac,Ad,Ae,Af,Ag])
 simp only[a8];exact aa.some rfl
theorem af2{l d ser cs:List (List G)}{k t nn i:Int}{h c2:Nat}(hi:aq (i+1)=true) :
  aa (aM true (bV (iY [.l l,.i k,.l d,.i (h:Int),.l ser,.i (c2:Int),.l cs,.i t,.i nn,.i i])) fun v g18=>some ((none:Option Nat),([.l (gi g18 0).rows,.i (gi g18 1).int,.l (gi g18 2).rows,.i (((gi g18 3).int.toNat:Nat):Int),.l (gi g18 4).rows,.i (((gi g18 5).int.toNat:Nat):Int),.l (gi g18 6).rows,.i (gi g18 7).int,.i (gi g18 8).int,.i (gi g18 9).int]:List G)))
   fun o=>o=(none,[.l l,.i k,.l d,.i (h:Int),.l ser,.i (c2:Int),.l cs,.i t,.i nn,.i (i+1)]):=by
 have q:iY [.l l,.i k,.l d,.i (h:Int),.l ser,.i (c2:Int),.l cs,.i t,.i nn,.i i]=some (some 0,[.l l,.i k,.l d,.i (h:Int),.l ser,.i (c2:Int),.l cs,.i t,.i nn,.i (i+1)]):=by
  refine aa.toEq ?_;unfold iY
  (dsimp +instances only[Aa,Ab,Ac,Ad,Ae,Af,Ag])
  simp only[a8];exact aa.pos hi (aa.some rfl)
 refine aa.tail (P:=fun u g=>u=0∧g=[.l l,.i k,.l d,.i (h:Int),.l ser,.i (c2:Int),.l cs,.i t,.i nn,.i (i+1)]) ⟨_,q,0,rfl,rfl,rfl⟩ (by first|rfl|simp) ?_;rintro _ _ ⟨rfl,rfl⟩
 (dsimp +instances only[Aa,Ab,Ac,Ad,Ae,Af,Ag])
 simp only[a8];exact aa.some rfl
theorem af3{l aI ser cs:List (List G)}{clk c2 n:Nat}{B:Int}(N:fV jb aI fun _=>n)(hS:jd ser B)(hc0:(dH 1 cs.length&&dH cs.length 1000000)=true) (hcs:(cs.all fun x=>n3 calls (gi x 0).str)=true)
  (hB:0≤B) (hB1:B≤900) {a t nn i:Int} (ha:0≤a) (ha1:a≤90000) (ht:0≤t) (ht1:t≤900000) (hn:n≤900) (hi0:0≤i) (hi:i<nn) (hnn:nn≤100000) :
  aa (rS [.l l,.i a,.l aI,.i (clk:Int),.l ser,.i (c2:Int),.l cs,.i t,.i nn,.i i]) fun o=>∃(b:Int) (g:List (List G)) (J:Nat) (ser':List (List G)) (c2':Nat) (t':Int),o=(none,[.l l,.i b,.l g,.i (J:Int),.l ser',.i (c2':Int),.l cs,.i t',.i nn,.i (i+1)]) ∧
   a≤b∧b≤a+10∧fV jb g (fun _=>n+1)∧jd ser' (B+2)∧t≤t'∧t'≤t+1000:=by
 have M:aq (i+1)=true:=by simp only[aq,sl]<;>omega
 unfold rS
 (dsimp +instances only[Aa,Ab,Ac,Ad,Ae,Af,Ag])
 (repeat first|refine aa.p ?_|refine aa.n ?_)
 refine aa.call (Gk 0 1000 l a _ ha (by omega) (by kernel_rfl) (by kernel_rfl)) ?_;rintro _ ⟨v,rfl,hd0,hd1⟩
 (dsimp +instances only[Aa,Ab,Ac,Ad,Ae,Af,Ag])
 (repeat first|refine aa.p ?_|refine aa.n ?_)
 refine aa.call (sv calls l (a+1) cs (by omega) (by omega) hc0 hcs) ?_;rintro _ ⟨I,rfl,hca⟩
 (dsimp +instances only[Aa,Ab,Ac,Ad,Ae,Af,Ag])
 refine aa.call (sv calls l (a+1+1) _ (by omega) (by omega) (by kernel_rfl) (by kernel_rfl)) ?_;rintro _ ⟨b,rfl,hb⟩
 (dsimp +instances only[Aa,Ab,Ac,Ad,Ae,Af,Ag])
 simp only[a8];by_cases k:I=b
 ·refine aa.pos (by rw [k, Gp]; exact decide_eq_true rfl) ?_
  refine(af2 M).mono ?_;rintro _ rfl;exact⟨_,_,_,_,_,_,rfl,by omega,by omega,N.mono fun _=>by omega,hS.mono (by omega),by omega,by omega⟩
 refine aa.neg (by rw[Gp]; exact decide_eq_false k) ?_;obtain⟨s1,e1⟩:∃ z,z=aL [.str] ser [.s I] [.i ((gi (az [.str] ser [.s I] [.i 0]) 0).int+1)] c2:=⟨_,rfl⟩
 have hS1:jd s1 (B+1):=e1▸hS.add I c2;obtain⟨k1,f1⟩:∃ z,z=bz [.str] ser [.s I] c2:=⟨_,rfl⟩
 obtain⟨s2,e2⟩:∃ z,z=aL [.str] s1 [.s b] [.i ((gi (az [.str] s1 [.s b] [.i 0]) 0).int+1)] k1:=⟨_,rfl⟩
 have u:jd s2 (B+2):=by
  have:=hS1.add b k1;rw[←e2]at this;exact this.mono (by omega)
 obtain⟨V,f2⟩:∃ z,z=bz [.str] s1 [.s b] k1:=⟨_,rfl⟩
 simp only[←f1,←e1];simp only[←f2,←e2];have v1:=hS I;have v2:=hS1 b;obtain⟨p,ep⟩:∃ p,p=(gi (az [.str] s2 [.s I] [.i 0]) 0).int:=⟨_,rfl⟩
 obtain⟨q,eq⟩:∃ p,p=(gi (az [.str] s2 [.s b] [.i 0]) 0).int:=⟨_,rfl⟩
 simp only[←ep,←eq];have v3:0≤p∧p≤B+2:=ep▸u I;have v4:0≤q∧q≤B+2:=eq▸u b
 (repeat first|refine aa.p ?_|refine aa.n ?_)
 refine aa.call (sv mz l (a+1+1+1) _ (by omega) (by omega) (by kernel_rfl) (by kernel_rfl)) ?_;rintro _ ⟨bd,rfl,O⟩
 (dsimp +instances only[Aa,Ab,Ac,Ad,Ae,Af,Ag])
 refine aa.call (Gk 1 2 l (a+1+1+1+1) _ (by omega) (by omega) (by kernel_rfl) (by kernel_rfl)) ?_;rintro _ ⟨m,rfl,hm0,hm1⟩
 (dsimp +instances only[Aa,Ab,Ac,Ad,Ae,Af,Ag])
 refine aa.call (Gk 0 200 l (a+1+1+1+1+1) _ (by omega) (by omega) (by kernel_rfl) (by kernel_rfl)) ?_;rintro _ ⟨d2,rfl,hd2,hd3⟩
 (dsimp +instances only[Aa,Ab,Ac,Ad,Ae,Af,Ag])
 (repeat first|refine aa.p ?_|refine aa.n ?_)
 refine aa.call (vU l (a+1+1+1+1+1+1) 8 (by omega) (by omega) (by omega) (by omega)) ?_;rintro _ ⟨cs',rfl,hc3,hc4⟩
 (dsimp +instances only[Aa,Ab,Ac,Ad,Ae,Af,Ag])
 have hb':b∈calls:=hb;have hx0:(⟨#[]⟩:ByteArray)∈names:=zV (by kernel_rfl);have U:(⟨#[120]⟩:ByteArray)∈names:=zV (by kernel_rfl);have mk:∀{t' m' s h:Int} {b' c x y:ByteArray},0≤t'∧t'≤1000000→0≤m'∧m'≤10→b'∈mz→c∈calls→0≤s∧s≤1000→0≤h∧h≤1000→x∈names→y∈names→jb [.i t',.i m',.s b',.s c,.i s,.i h,.s x,.s y]:=fun h1 d h3 h4 h5 h6 h7 h8=>af1 h1 d h3 h4 h5 h6 h7 h8;have W:∀{c:ByteArray} {h:Int} {y:ByteArray},c∈calls→0≤h∧h≤1000→y∈names→jb [.i (t+v),.i m,.s bd,.s c,.i p,.i h,.s ⟨#[]⟩,.s y]:=fun h1 d h3=>mk (by omega) (by omega) O h1 (by omega) d hx0 h3;have hy:∀{b' c:ByteArray},b'∈mz→c∈calls→jb [.i (t+v+d2),.i m,.s b',.s c,.i q,.i p,.s ⟨#[120]⟩,.s ⟨#[]⟩]:=fun h0 h1=>mk (by omega) (by omega) h0 h1 (by omega) (by omega) U hx0;by_cases c0:cs'=0
 ·refine aa.pos (by simp [c0]) ?_
  refine aa.call (sv calls l (a+1+1+1+1+1+1+1) _ (by omega) (by omega) (by kernel_rfl) (by kernel_rfl)) ?_;rintro _ ⟨w,rfl,hw⟩
  (dsimp +instances only[Aa,Ab,Ac,Ad,Ae,Af,Ag])
  obtain⟨g,J,a',g1,g2,h1,d⟩:=sH (l:=l) (ser:=s2) (cs:=cs) (clk:=clk) (c2:=V) N (a:=a+1+1+1+1+1+1+1+1) (t:=t+v) (nn:=nn) (i:=i) (by omega) (by omega) k (by omega) (W hw (h:=q) (by omega) U) (hy O hca);refine(sI h1 M).mono ?_;rintro _ rfl;exact⟨_,_,_,_,_,_,rfl,by omega,by omega,d,u,by omega,by omega⟩
 refine aa.neg (by simp[c0]) ?_;by_cases c1:cs'=1
 ·refine aa.pos (by simp [c1]) ?_
  refine aa.call (sv calls l (a+1+1+1+1+1+1+1) _ (by omega) (by omega) (by kernel_rfl) (by kernel_rfl)) ?_;rintro _ ⟨w,rfl,hw⟩
  (dsimp +instances only[Aa,Ab,Ac,Ad,Ae,Af,Ag])
  obtain⟨g,J,a',g1,g2,h1,d⟩:=sH (l:=l) (ser:=s2) (cs:=cs) (clk:=clk) (c2:=V) N (a:=a+1+1+1+1+1+1+1+1) (t:=t+v) (nn:=nn) (i:=i) (by omega) (by omega) k (by omega) (W hb (h:=q) (by omega) U) (hy O hw);refine(sI h1 M).mono ?_;rintro _ rfl;exact⟨_,_,_,_,_,_,rfl,by omega,by omega,d,u,by omega,by omega⟩
 refine aa.neg (by simp[c1]) ?_;by_cases c2':cs'=2
 ·refine aa.pos (by simp [c2']) ?_
  (repeat first|refine aa.p ?_|refine aa.n ?_)
  obtain⟨g,J,a',g1,g2,h1,d⟩:=sH (l:=l) (ser:=s2) (cs:=cs) (clk:=clk) (c2:=V) N (a:=a+1+1+1+1+1+1+1) (t:=t+v) (nn:=nn) (i:=i) (by omega) (by omega) k (by omega) (W hb (h:=q+1) (by omega) U) (hy O hca);refine(sI h1 M).mono ?_;rintro _ rfl;exact⟨_,_,_,_,_,_,rfl,by omega,by omega,d,u,by omega,by omega⟩
 refine aa.neg (by simp[c2']) ?_;by_cases c3:cs'=3
 ·refine aa.pos (by simp [c3]) ?_
  obtain⟨g,J,a',g1,g2,h1,d⟩:=sH (l:=l) (ser:=s2) (cs:=cs) (clk:=clk) (c2:=V) N (a:=a+1+1+1+1+1+1+1) (t:=t+v) (nn:=nn) (i:=i) (by omega) (by omega) k (by omega) (W hb (h:=q) (by omega) hx0) (hy O hca);refine(sI h1 M).mono ?_;rintro _ rfl;exact⟨_,_,_,_,_,_,rfl,by omega,by omega,d,u,by omega,by omega⟩
 refine aa.neg (by simp[c3]) ?_;by_cases c4:cs'=4
 ·refine aa.pos (by simp [c4]) ?_
  refine aa.call (sv mz l (a+1+1+1+1+1+1+1) _ (by omega) (by omega) (by kernel_rfl) (by kernel_rfl)) ?_;rintro _ ⟨w,rfl,hw⟩
  (dsimp +instances only[Aa,Ab,Ac,Ad,Ae,Af,Ag])
  obtain⟨g,J,a',g1,g2,h1,d⟩:=sH (l:=l) (ser:=s2) (cs:=cs) (clk:=clk) (c2:=V) N (a:=a+1+1+1+1+1+1+1+1) (t:=t+v) (nn:=nn) (i:=i) (by omega) (by omega) k (by omega) (W hb (h:=q) (by omega) U) (hy hw hca);refine(sI h1 M).mono ?_;rintro _ rfl;exact⟨_,_,_,_,_,_,rfl,by omega,by omega,d,u,by omega,by omega⟩
 refine aa.neg (by simp[c4]) ?_;obtain⟨g,J,a',g1,g2,h1,d⟩:=sH (l:=l) (ser:=s2) (cs:=cs) (clk:=clk) (c2:=V) N (a:=a+1+1+1+1+1+1+1) (t:=t+v) (nn:=nn) (i:=i) (by omega) (by omega) k (by omega) (W hb (h:=q) (by omega) U) (hy O hca);refine(sI h1 M).mono ?_;rintro _ rfl;exact⟨_,_,_,_,_,_,rfl,by omega,by omega,d,u,by omega,by omega⟩
theorem RA{l cs:List (List G)}(v:(dH 1 cs.length&&dH cs.length 1000000)=true) (y:(cs.all fun x=>n3 calls (gi x 0).str)=true) {n:Nat} (W:n≤14):∀(k i:Nat) (aI ser:List (List G)) (clk c2:Nat) (a t:Int),i+k=n→0≤a→a≤1000+10*i→0≤t→t≤1000*i→fV jb aI (fun _=>i)→jd ser (2*i) →
  aT rS [.l l,.i a,.l aI,.i (clk:Int),.l ser,.i (c2:Int),.l cs,.i t,.i (n:Int),.i (i:Int)] (k+1) fun c g=>c=0∧∃(b:Int) (d:List (List G)) (q:Nat),g=[.l l,.i b,.l d,.i (q:Int),.l cs]∧a≤b∧b≤a+10*k∧fV jb d (fun _=>n)
 | 0,i,aI,ser,clk,c2,a,t,hi,ha,O,B,U,u,I=>by
  refine aT.stop (x:=0) (aa.toEq ?_) ⟨rfl,a,aI,clk,rfl,by omega,by omega,u.mono fun _=>by omega⟩;unfold rS
  (dsimp +instances only[Aa,Ab,Ac,Ad,Ae,Af,Ag])
  simp only[a8]
  (repeat first|refine aa.p ?_|refine aa.n ?_)
  exact aa.some rfl
 | k+1,i,aI,ser,clk,c2,a,t,hi,ha,O,B,U,u,I=>by
  obtain⟨_,h,b,d,q,M,V,t',rfl,g1,g2,g3,g4,g5,g6⟩:=af3 (l:=l) (clk:=clk) (c2:=c2) u I v y (by omega) (by omega) (a:=a) (t:=t) (nn:=n) (i:=i) ha (by omega) B (by omega) (by omega) (by omega) (by omega) (by omega);have ih:=RA (l:=l) v y W k (i+1) d M q V b t' (by omega) (by omega) (by omega) (by omega) (by omega) g3 (g4.mono (by omega));refine aT.next h (ih.mono ?_)
  rintro c g ⟨rfl,b',J,N,rfl,q1,q2,q3⟩;exact⟨rfl,b',J,N,rfl,by omega,by omega,q3⟩
def om(r s:List G):Bool:=bT r s==0
theorem af4:uZ [.int .i64,.int .i64,.str,.str,.int .i64,.int .i64,.str,.str] vr c9 om:=⟨fun r s d g=>by
 refine aa.toEq ?_;unfold vr
 (dsimp +instances only[Aa,Ab,Ac,Ad,Ae,Af,Ag])
 simp only[d.eta,g.eta];refine aa.cE (QR d g) ?_;exact aa.some rfl,fun _ h=>h.eta⟩
def zS:List G:=[.i 0,.i 0,.s (⟨#[]⟩:ByteArray),.s (⟨#[]⟩:ByteArray),.i 0,.i 0,.s (⟨#[]⟩:ByteArray),.s (⟨#[]⟩:ByteArray)]
def GV(c:ByteArray)(r:List G):Prop:=∃ L:List (List G),r=[.s c,.l L]∧(∀ z∈L,jb z)∧L.length≤14
def j8(c:ByteArray):List G:=[.s c]
theorem RB{l:List (List G)}{a:Int}:∀(q p:List ByteArray) (aI acc:List (List G)) (clk:Nat),(∀ c∈q,ed [.str] aI [.s c]=true∧(cu [.str] aI [.s c]).length≤14∧∀ z∈cu [.str] aI [.s c],jb z)→q.Pairwise (·≠·)→acc.length=p.length→p.length+q.length≤100 →
  aT rT [.l l,.i a,.l aI,.i (clk:Int),.l acc,.l ((p++q).map j8),.i ((p.length+q.length:Nat):Int),.i (p.length:Int)] (q.length+1) fun c g=>c=0∧∃ L:List (List G),g=[.l l,.i a,.l (acc++L)]∧L.length=q.length∧∀ i,i<q.length→GV (q.getD i ⟨#[]⟩) (L.getD i [])
 | [],p,aI,acc,clk,k,u,I,N=>by
  refine aT.stop (x:=0) (aa.toEq ?_) ⟨rfl,[],rfl,rfl,fun i hi=>by cases hi⟩;unfold rT
  (dsimp +instances only[Aa,Ab,Ac,Ad,Ae,Af,Ag])
  (repeat first|refine aa.p ?_|refine aa.n ?_)
  exact aa.some (by simp)
 | c::q,p,aI,acc,clk,k,u,I,N=>by
  simp only[cz]at N;obtain⟨h1,h2,v⟩:=k c (by simp);have g1:((p++c::q).map j8).getD (p.length:Int).toNat []=j8 c:=by
   rw[kf,dw];exact iW _ _ _ _ _ (by simp)
  have hc:((p++c::q).map j8).length=p.length+(q.length+1):=by simp
  obtain⟨M,O⟩:∃ M,M=cu [.str] aI [.s c]:=⟨_,rfl⟩
  rw[←O]at h2 v;have U:=LI (lt:=bE bT) v;have hsl:=uY (bE bT) M;have hle:(eV om (cP (bE bT) M)).length≤(cP (bE bT) M).length:=LO _ _;have V:=RB (l:=l) (a:=a) q (p++[c]) (gl [.str] aI [.s c]) (acc++[[.s c,.l (eV om (cP (bE bT) M))]]) clk (by
   intro x W;obtain⟨y,B,q3⟩:=k x (cY _ W);have hne:x≠c:=fun e=>(kW.1 u).1 x W e.symm;rw[GS,GU _ (by rw[v7]; exact decide_eq_false hne)];exact⟨y,B,q3⟩) (kW.1 u).2 (by simp[I]) (by simp; omega)
  have key:aa (rT [.l l,.i a,.l aI,.i (clk:Int),.l acc,.l ((p++c::q).map j8),.i ((p.length+(c::q).length:Nat):Int),.i (p.length:Int)]) fun o=>o=(none,[.l l,.i a,.l (gl [.str] aI [.s c]),.i (clk:Int),.l (acc++[[.s c,.l (eV om (cP (bE bT) M))]]),.l ((p++c::q).map j8),.i ((p.length+(c::q).length:Nat):Int),.i ((p.length:Int)+1)]):=by
   unfold rT
   (dsimp +instances only[Aa,Ab,Ac,Ad,Ae,Af,Ag])
   simp only[g1,hc,j8,cz]
   (dsimp +instances only[Aa,Ab,Ac,Ad,Ae,Af,Ag])
   simp only[a8,←O]
   (repeat first|refine aa.p ?_|refine aa.n ?_)
   refine aa.iD (aa.eq (LL afz M (fun z d=>(v z d).1) (by omega))) (by simp) ?_;rintro _ rfl
   (dsimp +instances only[Aa,Ab,Ac,Ad,Ae,Af,Ag])
   refine aa.iD (P:=fun g=>∃ J,g=[.l (eV om (cP (bE bT) M)++J),.i ((eV om (cP (bE bT) M)).length:Int)]∧(eV om (cP (bE bT) M)++J).length=(cP (bE bT) M).length)
    (LQ (Z:=zS) af4 (cP (bE bT) M) (fun z d=>(U z d).1) (by omega)) (by simp[hsl]) ?_
   rintro _ ⟨J,rfl,hJ⟩
   (dsimp +instances only[Aa,Ab,Ac,Ad,Ae,Af,Ag])
   simp only[a8,List.take_left'];refine aa.pos (by simp) (aa.pos (by simp; omega) (aa.p (aa.pos (by simp) (aa.some ?_))));rfl
  obtain⟨_,h,rfl⟩:=key;have e:((p++[c])++q).map j8=(p++c::q).map j8:=by simp
  have e2:(((p++[c]).length+q.length:Nat):Int)=((p.length+(c::q).length:Nat):Int):=by simp; omega
  have e3:(((p++[c]).length:Nat):Int)=(p.length:Int)+1:=by simp
  rw[e,e2,e3]at V;refine aT.next h (V.mono ?_)
  rintro x g ⟨rfl,L,rfl,y,B⟩;refine⟨rfl,[.s c,.l (eV om (cP (bE bT) M))]::L,by simp,by simp[y],fun i hi=>?_⟩;cases i with
  |zero=>exact⟨_,rfl,fun z d=>U z (Dh d),by omega⟩
  |succ i=>exact B i (by simpa using hi)
def C4:List ByteArray:=[⟨#[107,49,97,98]⟩,⟨#[111,104,50,97,98,99]⟩,⟨#[111,104,50,97,98,100]⟩,⟨#[119,49,97,119]⟩]
theorem af5(l:List (List G)):aa (vt [.l l,.i 0]) fun g=>∃(b:Int) (L:List (List G)) (m:Nat),g=[.l l,.i b,.l L]∧0≤b∧b≤1000∧1≤m∧m≤4∧L.length=m∧∀ i,i<m→GV (C4.getD i ⟨#[]⟩) (L.getD i []):=by
 unfold vt
 (dsimp +instances only[Aa,Ab,Ac,Ad,Ae,Af,Ag])
 refine aa.call (QM l 0 1 4 (by omega) (by omega) (by omega) (by omega) (by omega)) ?_;rintro _ ⟨m,rfl,O,U⟩;obtain⟨m,rfl⟩:=ah' (by omega:0≤m)
 (dsimp +instances only[Aa,Ab,Ac,Ad,Ae,Af,Ag])
 (repeat first|refine aa.p ?_|refine aa.n ?_)
 refine aa.call (QM l (0+1) 0 14 (by omega) (by omega) (by omega) (by omega) (by omega)) ?_;rintro _ ⟨n,rfl,v,V⟩;obtain⟨n,rfl⟩:=ah' v
 (dsimp +instances only[Aa,Ab,Ac,Ad,Ae,Af,Ag])
 obtain⟨cs,k⟩:∃ cs,cs=C4.take m:=⟨_,rfl⟩
 have y:cs.length=m:=by
  rw[k,List.length_take];show min m 4=m
  omega
 have B:([[.s (⟨#[107,49,97,98]⟩:ByteArray)],[.s (⟨#[111,104,50,97,98,99]⟩:ByteArray)],[.s (⟨#[111,104,50,97,98,100]⟩:ByteArray)],[.s (⟨#[119,49,97,119]⟩:ByteArray)]]:List (List G)).take ((m:Int).toNat)=cs.map j8:=by
  rw[k,List.map_take];rfl
 simp only[B];have I:=RA (l:=l) (cs:=cs.map j8) (by rw[dz,y]; simp; omega) (by
  rw[List.all_map,cR];intro c q;rw[k]at q;have:c∈C4:=List.mem_of_mem_take q;have d:C4.all (fun c=>n3 calls c)=true:=by kernel_rfl
  exact cR.1 d c this) (by omega:n≤14) n 0 [] [] 0 0 (0+1+1) 0 (by omega) (by omega) (by omega) (by omega) (by omega) (fV.nil _) (by exact jd.nil)
 refine aa.loop (I.to (by omega)) (by(first|rfl|assumption|(simp only[aq,sl]<;>omega))) ?_;rintro c g ⟨rfl,b,aI,clk,rfl,W,h3,d⟩
 (dsimp +instances only[Aa,Ab,Ac,Ad,Ae,Af,Ag])
 simp only[a8];have J:cs.Pairwise (·≠·):=by
  rw[k];refine ais ?_;have d:(decide (C4.Pairwise fun a b=>a.data.toList≠b.data.toList))=true:=by kernel_rfl
  exact(of_decide_eq_true d).imp fun h e=>h (by rw[e])
 have u:=RB (l:=l) (a:=b) cs [] aI [] clk (fun c _=>⟨d.ed c,lG (d.get c).1 (by omega),(d.get c).2⟩) J rfl (by simp; omega);simp only[jG,kV,cF]at u;have M:((cs.map j8).length:Int)=(cs.length:Int):=by rw[dz]
 simp only[M];refine aa.loop (u.to (by omega)) (by(first|rfl|assumption|(simp only[aq,sl]<;>omega))) ?_;rintro c g ⟨rfl,L,rfl,q1,N⟩
 (dsimp +instances only[Aa,Ab,Ac,Ad,Ae,Af,Ag])
 refine aa.pos (by simp) (aa.some ⟨b,L,m,rfl,by omega,by omega,by omega,by omega,by omega,fun i hi=>?_⟩);have:=N i (by omega)
 rwa [k,cr,List.getElem?_take,if_pos hi,←cr]at this
def v8(K:List Kd)(C:List G→Option (List G))(d:List G):Option (Option Nat × List G) :=
 (bif (aj (gi d 3).int (gi d 2).int) then (bif ((aw (gi d 3).int)&&(aj (gi d 3).int (((gi d 0).rows.length:Nat):Int))) then (aB (C [.l [(aD K ((gi d 0).rows.getD (((gi d 3).int).toNat) []))],.l [(aD [.str,.list K] (gi d 1).row)]]) fun g1=>(bif (gi g1 0).bool then some (some 0,[.i (gi d 3).int]) else (bif (aq ((gi d 3).int+1)) then some (none,[.l (gi d 0).rows,.l [(aD [.str,.list K] (gi d 1).row)],.i (gi d 2).int,.i ((gi d 3).int+1)]) else none))) else none) else some (some 1,[]))
def RC(K:List Kd)(C:List G→Option (List G))(d:List G):Option (List G) :=
 (aB (aM true (bD (v8 K C) [.l (gi d 0).rows,.l [(aD [.str,.list K] (aD [.str,.list K] (gi d 1).row))],.i (((gi d 0).rows.length:Nat):Int),.i 0]) fun g g2=>(bif ad g 0 then some [.i (gi g2 0).int] else some [.i (-1)])) fun g1=>some [.t (bl 0 (gi g1 0).int)])
def jC(c:ByteArray)(L:List (List G)):Bool:=L.any fun z=>(gi z 3).str.toList==c.toList
section
variable {C:List G→Option (List G)} {c:ByteArray} {A:List (List G)} (hC:∀ z,c9 z→C [.l [z],.l [[.s c,.l A]]]=some [.t ((gi z 3).str.toList==c.toList)])
include hC
theorem RD:∀(q p:List (List G)),(∀ z∈p++q,c9 z)→p.length+q.length<100000 →
  aT (v8 [.int .i64,.int .i64,.str,.str,.int .i64,.int .i64,.str,.str] C) [.l (p++q),.l [[.s c,.l A]],.i ((p.length+q.length:Nat):Int),.i (p.length:Int)] (q.length+1) fun x g=>(x=0∧jC c q=true∧∃ v:Int,0≤v∧g=[.i v])∨x=1∧jC c q=false
 | [],p,k,u=>by
  refine aT.stop (x:=1) (d':=[]) (aa.toEq ?_) (.inr ⟨rfl,rfl⟩);unfold v8
  (dsimp +instances only[Aa,Ab,Ac,Ad,Ae,Af,Ag])
  (repeat first|refine aa.p ?_|refine aa.n ?_)
  exact aa.some rfl
 | x::q,p,k,u=>by
  simp only[cz]at u;have d:c9 x:=k x (by simp);have g1:(p++x::q).getD (p.length:Int).toNat []=x:=iW _ _ _ _ _ (by simp);have hlen:(p++x::q).length=p.length+q.length+1:=by simp; omega
  cases h:(gi x 3).str.toList==c.toList with
  | true =>
   refine aT.stop (x:=0) (d':=[.i (p.length:Int)]) (aa.toEq ?_) (.inl ⟨rfl,by simp only[jC,S0,h,Bool.true_or],_,by omega,rfl⟩);unfold v8
   (dsimp +instances only[Aa,Ab,Ac,Ad,Ae,Af,Ag])
   simp only[g1,hlen,cz,d.eta]
   (repeat first|refine aa.p ?_|refine aa.n ?_)
   refine aa.cE (hC x d) ?_
   (dsimp +instances only[Aa,Ab,Ac,Ad,Ae,Af,Ag])
   exact aa.pos h (aa.some rfl)
  | false =>
   have y:=RD q (p++[x]) (by simpa using k) (by simp; omega);have B:(p++[x])++q=p++x::q:=by simp
   have I:(((p++[x]).length+q.length:Nat):Int)=((p.length+(x::q).length:Nat):Int):=by simp; omega
   have J:(((p++[x]).length:Nat):Int)=(p.length:Int)+1:=by simp
   rw[B,I,J]at y;have M:jC c (x::q)=jC c q:=by simp only[jC,S0,h,Bool.false_or]
   rw[M];refine aT.next (aa.toEq ?_) y
   unfold v8
   (dsimp +instances only[Aa,Ab,Ac,Ad,Ae,Af,Ag])
   simp only[g1,hlen,cz,d.eta]
   (repeat first|refine aa.p ?_|refine aa.n ?_)
   refine aa.cE (hC x d) ?_
   (dsimp +instances only[Aa,Ab,Ac,Ad,Ae,Af,Ag])
   refine aa.neg h (aa.p (aa.some rfl))
theorem GW(L:List (List G))(h:∀ z∈L,c9 z)(k:L.length<100000):RC [.int .i64,.int .i64,.str,.str,.int .i64,.int .i64,.str,.str] C [.l L,.l [[.s c,.l A]]]=some [.t (jC c L)]:=by
 refine aa.toEq ?_;unfold RC
 (dsimp +instances only[Aa,Ab,Ac,Ad,Ae,Af,Ag])
 have h1:=RD hC L [] (by simpa using h) (by simpa using k);have h0:((0:Nat):Int)=0:=rfl;simp only[jG,kV,cF,h0]at h1;refine aa.call (P:=fun g=>∃ v:Int,g=[.i v]∧bl 0 v=jC c L) ?_ ?_
 ·refine aa.loop (h1.to (by omega)) (by (first|rfl|assumption|(simp only [aq,sl]<;>omega))) ?_
  rintro x g (⟨rfl,d,v,q,rfl⟩|⟨rfl,d⟩)
  ·exact aa.some ⟨v,rfl,by rw[d,ff]; exact decide_eq_true q⟩
  ·exact aa.some ⟨-1,rfl,by rw[d]; rfl⟩
 ·rintro _ ⟨v, rfl, d⟩
  exact aa.some (congrArg (fun b=>[G.t b]) d)
end
def je(c:ByteArray)(L:List (List G)):Int:=bif !j6 c then 3 else bif iH L != 0 then iH L else bif jC c L then 6 else 0
theorem RE{c:ByteArray}{L:List (List G)}(h:je c L=0):iH L=0:=by
 unfold je at h;cases h1:j6 c with
 |false=>rw[h1]at h; cases h
 | true =>
  rw[h1]at h;cases d:iH L != 0 with
  |false=>simpa using d
  | true =>
   rw[d]at h;simp only[Hu,cond_false,cond_true]at h;exact h
theorem jb.m{z:List G}(h:jb z):fM z:=by
 obtain⟨h,h0,h1⟩:=h;exact⟨h.eta,by unfold fL; omega,by unfold fL; omega⟩
def fA(k:Nat):List Nat→Option Nat
 | []=>none
 |a::l=>bif a==k then some 0 else (fA k l).map (·+1)
theorem GX{k:Nat}:∀{l:List Nat},fA k l=none↔k∉l
 | []=>by simp[fA]
 | a::l=>by
  unfold fA;cases h:a==k with
  |true=>simp at h; simp[h]
  | false =>
   simp at h;simp only[cond_false,Option.map_eq_none_iff,GX,bZ,not_or];exact⟨fun g=>⟨fun e=>h e.symm,g⟩,fun g=>g.2⟩
theorem Am{k:Nat}:∀{l:List Nat} {n:Nat},fA k l=some n→n<l.length∧l.getD n 0=k
 | [],n,h=>by cases h
 | a::l,n,h=>by
  unfold fA at h;cases e:a==k with
  | true =>
   rw[e]at h;cases h;simp at e;exact⟨by simp,by simpa using e⟩
  | false =>
   rw[e]at h;simp only[cond_false,Option.map_eq_some_iff]at h;obtain⟨m,h1,rfl⟩:=h;obtain⟨g,d⟩:=Am h1;exact⟨by simp; omega,by simpa using d⟩
theorem GY{k:Nat}:∀{l:List Nat},k∉l→fA k (l++[k])=some l.length
 | [],_=>by simp[fA]
 | a::l,h=>by
  simp only[bZ,not_or]at h;have e:(a==k)=false:=by simp; exact fun e=>h.1 e.symm
  show (bif a==k then some 0 else (fA k (l++[k])).map (·+1))=_
  rw[e,GY h.2];rfl
theorem GZ(a b:Int):a_ [.int .i64] [.i a] [.i b]=decide (a=b):=by
 show ((a==b)&&true)=decide (a=b)
 rw[fC];exact Bool.beq_eq_decide_eq a b
def bf:Nat→List Nat→List (List G)
 |_,[]=>[]
 |i,k::ks=>[.l [[.i (k:Int)]],.i (i:Int),.i (i:Int)]::bf (i+1) ks
theorem RF:∀(i:Nat) (A B:List Nat),bf i (A++B)=bf i A++bf (i+A.length) B
 |i,[],B=>by simp[bf]
 | i,a::A,B=>by
  show _::bf (i+1) (A++B)=_::(bf (i+1) A++bf (i+(A.length+1)) B)
  rw[RF (i+1) A B,show i+1+A.length=i+(A.length+1) by omega]
theorem G0(k:Nat):∀(ks:List Nat) (i j:Nat),bW [.int .i64] [.i (k:Int)] (bf i ks) j=(fA k ks).map fun n=>(j+n,([.l [[.i (k:Int)]],.i ((i+n:Nat):Int),.i ((i+n:Nat):Int)]:List G))
 | [],_,_=>rfl
 | a::ks,i,j=>by
  have d:=G0 k ks (i+1) (j+1);have e:a_ [.int .i64] [.i (k:Int)] ((gi [.l [[.i (a:Int)]],.i (i:Int),.i (i:Int)] 0).row)=(a==k):=by
   show a_ [.int .i64] [.i (k:Int)] [.i (a:Int)]=_
   rw[GZ];by_cases h:a=k
   ·subst h; simp
   ·have g : ¬ (k : Int) = (a : Int) := fun e => h (by omega)
    simp[h,g]
  show (bif _ then some (j,_) else bW _ _ (bf (i+1) ks) (j+1))=_
  rw[e,d];show _=Option.map _ (bif a==k then some 0 else (fA k ks).map (·+1))
  cases h:a==k with
  | true =>
   simp at h;subst h;rfl
  | false =>
   simp only[cond_false,Option.map_map];congr 1
   funext n
   simp only[HA];rw[show j+1+n=j+(n+1) by omega,show i+1+n=i+(n+1) by omega]
theorem af6(k:Nat)(ks:List Nat):dO [.int .i64] (bf 0 ks) [.i (k:Int)]=(fA k ks).isSome:=by
 unfold dO;rw[G0,Option.isSome_map]
theorem An(k:Nat)(ks:List Nat):fp [.int .i64] (bf 0 ks) [.i (k:Int)]=fA k ks:=by
 unfold fp;rw[G0];cases h:fA k ks with
 |none=>rfl
 | some n =>
  show (bif bl 0 ((0+n:Nat):Int) then some ((0+n:Nat):Int).toNat else none)=some n
  rw[ff,decide_eq_true (by omega:(0:Int)≤((0+n:Nat):Int))];simp
theorem G1(r:List G):∀(ks:List Nat) (i j c:Nat),i+ks.length≤c→eT (c:Int) (bf i ks++[r]) j=eT (c:Int) [r] (j+ks.length)
 | [],i,j,c,_=>rfl
 | a::ks,i,j,c,h=>by
  simp only[cz]at h;have d:=G1 r ks (i+1) (j+1) c (by omega);show (bif ((i:Int).toNat:Int)==(c:Int) then _ else eT (c:Int) (bf (i+1) ks++[r]) (j+1))=_
  have e:(((i:Int).toNat:Int)==(c:Int))=false:=by
   rw[a8];simp;omega
  rw[e,d,show j+1+ks.length=j+(ks.length+1) by omega];rfl
theorem RG:∀(i:Nat) (ks:List Nat),(bf i ks).length=ks.length
 |_,[]=>rfl
 |i,_::ks=>by simp[bf,RG (i+1) ks]
def sJ(k c:Nat):List G:=[.l [[.i (k:Int)]],.i (-1),.i (c:Int)]
theorem RH(k c j:Nat):eT (c:Int) [sJ k c] j=some (j,sJ k c):=by
 show (bif ((c:Int).toNat:Int)==(c:Int) then _ else _)=_
 rw[a8];simp
theorem af7(k:Nat)(ks:List Nat):qV (bf 0 ks++[sJ k ks.length]) (ks.length:Int)=true:=by
 unfold qV;rw[G1 _ _ _ _ _ (by omega),RH];rfl
theorem af8(k:Nat)(ks:List Nat):qW (bf 0 ks++[sJ k ks.length]) (ks.length:Int) ks.length=bf 0 (ks++[k]):=by
 unfold qW;rw[G1 _ _ _ _ _ (by omega),RH,RF];show (bf 0 ks++[sJ k ks.length]).set (0+ks.length) _=_
 rw[vX (bf 0 ks) _ _ [] _ (by rw[RG,cF])];rw[cF];rfl
def fW(d:List G→List G × List G)(q:List (List G))(a:List (List G) × Nat):List (List G) × Nat :=
 q.foldl (fun a r=>(aL [.int .i64] a.1 (d r).1 (d r).2 a.2,bz [.int .i64] a.1 (d r).1 a.2)) a
def lF(a:List (List G) × Nat):List G:=[.l a.1,.i (a.2:Int)]
def sK(r:List G):List G × List G:=([.i (gi r 0).int],[.i (gi r 1).int])
def RI(r:List G):List G × List G:=([.i (gi r 1).int],[.t true])
def dm(p:List (List G)):List G:=lF (fW sK p ([],0))
def dn(p:List (List G)):List G:=lF (fW RI p ([],0))
theorem RJ(d:List G→List G × List G)(p:List (List G))(r:List G)(a:List (List G) × Nat) :
  fW d (p++[r]) a=(aL [.int .i64] (fW d p a).1 (d r).1 (d r).2 (fW d p a).2,bz [.int .i64] (fW d p a).1 (d r).1 (fW d p a).2):=by
 unfold fW;rw[ah8];rfl
theorem RL(M:List (List G))(a:List (List G) × Nat)(key val:List G) :
  qU (M++[lF a]) (some M.length) [.int .i64] key val=M++[lF (aL [.int .i64] a.1 key val a.2,bz [.int .i64] a.1 key a.2)]:=by
 unfold qU;have e:gn (M++[lF a]) (some M.length)=lF a:=by
  show (M++[lF a]).getD M.length []=_
  rw[cr];simp
 rw[e];show (M++[lF a]).set M.length _=_
 rw[vX M _ _ [] _ rfl];show M++[[.l (aL [.int .i64] a.1 key val (a.2:Int).toNat),.i ((bz [.int .i64] a.1 key (a.2:Int).toNat:Nat):Int)]]=_
 rw[a8];rfl
theorem RM(M:List (List G))(x:List G):kG (M++[x]) (some M.length)=true:=by
 show fa M.length (M++[x]).length=true
 simp
theorem RN(d:List G→List G × List G)(key:List G):∀(q:List (List G)) (a:List (List G) × Nat),dO [.int .i64] (fW d q a).1 key=(q.any (fun r=>a_ [.int .i64] key (d r).1)||dO [.int .i64] a.1 key)
 | [],a=>rfl
 | r::q,a=>by
  show dO [.int .i64] (fW d q (_,_)).1 key=_
  rw[RN d key q];simp only[S0];rw[LC];cases a_ [.int .i64] key (d r).1<;>cases dO [.int .i64] a.1 key<;>simp
theorem RO(d:List G→List G × List G)(key z:List G):∀(q:List (List G)) (a:List (List G) × Nat),(∃ r∈q,a_ [.int .i64] key (d r).1=true∧az [.int .i64] (fW d q a).1 key z=(d r).2) ∨
  (∀ r∈q,a_ [.int .i64] key (d r).1=false)∧az [.int .i64] (fW d q a).1 key z=az [.int .i64] a.1 key z
 | [],a=>.inr ⟨fun _ h=>(by cases h),rfl⟩
 | r::q,a=>by
  show (∃ _,_∧_∧az [.int .i64] (fW d q (aL [.int .i64] a.1 (d r).1 (d r).2 a.2,_)).1 key z=_)∨_∧az [.int .i64] (fW d q (aL [.int .i64] a.1 (d r).1 (d r).2 a.2,_)).1 key z=_
  rcases RO d key z q (aL [.int .i64] a.1 (d r).1 (d r).2 a.2,bz [.int .i64] a.1 (d r).1 a.2)with⟨s,h1,g,u⟩|⟨h1,g⟩
  ·exact .inl ⟨s,cY _ h1,g,u⟩
  ·rw [g, Dc]
   cases e:a_ [.int .i64] key (d r).1 with
   |true=>exact .inl ⟨r,by simp,e,rfl⟩
   | false =>
    refine .inr ⟨fun s k=>?_,rfl⟩;rcases bZ.1 k with rfl|k
    ·exact e
    ·exact h1 s k
structure fB (m i:Nat) (r:List (List G)):Prop where
 len:r.length=m
 val:∀ j,j<m→∃ v:Int,r.getD j []=[.i v]∧0≤v∧v≤(i:Int)+(j:Int)
theorem fB.set{m i k:Nat}{r:List (List G)}(h:fB m i r){v:Int}(h0:0≤v)(h1:v≤(i:Int)+(k:Int)):fB m i (r.set k [.i v]):=by
 refine⟨by rw[j_,h.len],fun j d=>?_⟩;by_cases e:k=j
 ·subst e
  refine⟨v,?_,h0,h1⟩;rw[cr,bB (by rw[h.len]; exact d)];rfl
 ·obtain ⟨w, g1, g2⟩ := h.val j d
  refine⟨w,?_,g2⟩;rw[cr,List.getElem?_set_ne e,←cr,g1]
theorem fB.zero(m i:Nat):fB m i (bL m [.i 0]):=by
 refine⟨wy ..,fun j d=>⟨0,?_,s9 0,by omega⟩⟩;rw[cr,ah7,if_pos d];rfl
def G2(r0 r1 r2:List (List G))(a b:ByteArray)(i m:Nat)(h k q u:Int)(x:Nat)(g:List G):Prop :=
 x=0∧∃ d:List (List G),g=[.l r0,.l r1,.l r2,.l d,.s a,.s b,.i (i:Int),.i h,.i k,.i q,.i u]∧fB m i d
def af9(r:List G)(x:Nat)(g:List G):Prop:=x=0∧g=r
theorem af_{r0 r1 r2 row:List (List G)}{a b:ByteArray}{i k m:Nat}{g q u y:Int}{f:Bool}(hk:k<m)(d:fB m i row)(I:f=true→2≤i∧2≤k∧fB m (i-2) r1)(hi:i≤1000)(hm:m≤1000) :
  aa (nT [.l r0,.l r1,.l r2,.l row,.s a,.s b,.i (i:Int),.i (k:Int),.i g,.i q,.i u,.i y,.t f]) fun o=>∃ x,o.1=some x∧G2 r0 r1 r2 a b i m g q u y x o.2:=by
 unfold nT
 (dsimp +instances only[Aa,Ab,Ac,Ad,Ae,Af,Ag])
 refine aa.test (fun h=>?_) fun h=>?_
 ·obtain ⟨h1, O, B⟩ := I h
  obtain⟨v,J,v0,v1⟩:=d.val k hk;obtain⟨w,hw,U,V⟩:=B.val (k-2) (by omega);have M:((k:Int)).toNat=k:=a8 k;have N:((k:Int)-2).toNat=k-2:=by omega
  have W:=d.len;have l2:=B.len;simp only[M,N,cF,J,hw,sE]
  (dsimp +instances only[Aa,Ab,Ac,Ad,Ae,Af,Ag])
  refine aa.p (aa.p (aa.p (aa.p (aa.p (aa.p (aa.p (aa.p ?_)))))));refine aa.some ⟨0,rfl,rfl,_,rfl,d.set ?_ ?_⟩<;>split<;>omega
 ·exact aa.p (aa.some ⟨0,rfl,rfl,_,rfl,d⟩)
theorem af'{r0 r1 r2 row:List (List G)}{a b:ByteArray}{i k m:Nat}{c d q u v:Int}(hk1:1≤k)(hk:k<m)(hb:m=b.size+1)(hi1:1≤i)(ha:i≤a.size)(y:fB m i row)(B:fB m (i-1) r2)(h1:2≤i→fB m (i-2) r1)(c0:0≤c)(c1:c≤1)(hi:i≤1000)(hm:m≤1000) :
  aa (sa [.l r0,.l r1,.l r2,.l row,.s a,.s b,.i (i:Int),.i (k:Int),.i c,.i d,.i q,.i u,.i v]) fun o=>∃ x,o.1=some x∧G2 r0 r1 r2 a b i m d q u v x o.2:=by
 unfold sa
 (dsimp +instances only[Aa,Ab,Ac,Ad,Ae,Af,Ag])
 obtain⟨v1,N,v10,v11⟩:=B.val k hk;obtain⟨v2,O,v20,v21⟩:=y.val (k-1) (by omega);obtain⟨v3,U,v30,v31⟩:=B.val (k-1) (by omega);have n1:((k:Int)).toNat=k:=a8 k;have n2:((k:Int)-1).toNat=k-1:=by omega
 have l1:=y.len;have l2:=B.len;simp only[n1,n2,cF,N,O,U,sE]
 (dsimp +instances only[Aa,Ab,Ac,Ad,Ae,Af,Ag])
 obtain⟨V,hV,V0,V1⟩:∃ V:Int,(if v3+c<(if v2+1<v1+1 then v2+1 else v1+1) then v3+c else (if v2+1<v1+1 then v2+1 else v1+1))=V∧0≤V∧V≤(i:Int)+(k:Int):=by
  refine⟨_,rfl,?_,?_⟩<;>split<;>(try split)<;>omega
 simp only[hV];have J:=y.set V0 V1;refine aa.p (aa.p (aa.p (aa.p (aa.p (aa.p (aa.p (aa.p (aa.p (aa.p (aa.p ?_))))))))));have fin:∀(f:Bool),(f=true→2≤i∧2≤k)→aa (aM (ad row.length (row.set k [.i V]).length&&true) (bV (nT [.l r0,.l r1,.l r2,.l (row.set k [.i V]),.s a,.s b,.i (i:Int),.i (k:Int),.i d,.i q,.i u,.i v,.t f])) fun cg g=>(bif (ad (gi g 3).rows.length (gi g 3).rows.length)&&true then some ((some 0:Option Nat),[G.l (gi g 0).rows,.l (gi g 1).rows,.l (gi g 2).rows,.l (gi g 3).rows,.s (gi g 4).str,.s (gi g 5).str,.i (gi g 6).int,.i (gi g 7).int,.i (gi g 8).int,.i (gi g 9).int,.i (gi g 10).int]) else none))
   fun o=>∃ x,o.1=some x∧G2 r0 r1 r2 a b i m d q u v x o.2:=fun f I=>by
  refine aa.tail (af_ hk J (fun h=>⟨(I h).1,(I h).2,h1 (I h).1⟩) hi hm) (by(first|rfl|assumption|(simp only[aq,sl]<;>omega))) ?_;rintro _ _ ⟨rfl,M,rfl,W⟩
  (dsimp +instances only[Aa,Ab,Ac,Ad,Ae,Af,Ag])
  exact aa.p (aa.some ⟨0,rfl,rfl,M,rfl,W⟩)
 refine aa.test (fun g1=>?_) fun g1=>fin false (fun h=>by cases h);rw[dY,decide_eq_true_eq]at g1;refine aa.test (fun g2=>?_) fun g2=>fin false (fun h=>by cases h);rw[dY,decide_eq_true_eq]at g2;refine aa.p (aa.p (aa.p (aa.p ?_)));refine aa.test (fun g3=>?_) fun g3=>fin false (fun h=>by cases h);refine aa.p (aa.p (aa.p (aa.p ?_)));exact fin _ fun _=>⟨by omega,by omega⟩
theorem G3{r0 r1 r2 row:List (List G)}{a b:ByteArray}{d g h q:Int}{k:Nat}(hk:k≤1000) :
  aa (nS [.l r0,.l r1,.l r2,.l row,.s a,.s b,.i d,.i g,.i h,.i q,.i (k:Int)]) fun o=>∃ x,o.1=some x∧af9 [.l r0,.l r1,.l r2,.l row,.s a,.s b,.i d,.i g,.i h,.i q,.i ((k:Int)+1)] x o.2:=by
 unfold nS
 (dsimp +instances only[Aa,Ab,Ac,Ad,Ae,Af,Ag])
 exact aa.p (aa.p (aa.some ⟨0,rfl,rfl,rfl⟩))
theorem RP{r0 r1 r2:List (List G)}{a b:ByteArray}{i m:Nat}{n:Int}(hb:m=b.size+1)(ha:i≤a.size)(v:1≤i→fB m (i-1) r2)(h1:2≤i→fB m (i-2) r1)(hi:i≤1000)(hm:m≤1000):∀(t k:Nat) (row:List (List G)),k+t=m→fB m i row →
  aT sb [.l r0,.l r1,.l r2,.l row,.s a,.s b,.i (i:Int),.i n,.i (i:Int),.i (m:Int),.i (k:Int)] (t+1) fun x g=>x=0∧∃ d,g=[.l r0,.l r1,.l r2,.l d,.s a,.s b,.i n,.i (i:Int)]∧fB m i d
 | 0,k,row,hk,q=>by
  refine aT.stop (x:=0) (aa.toEq ?_) ⟨rfl,row,rfl,q⟩;unfold sb
  (dsimp +instances only[Aa,Ab,Ac,Ad,Ae,Af,Ag])
  exact aa.n (aa.p (aa.some rfl))
 | t+1,k,row,hk,q=>by
  have step:aa (sb [.l r0,.l r1,.l r2,.l row,.s a,.s b,.i (i:Int),.i n,.i (i:Int),.i (m:Int),.i (k:Int)]) fun o=>∃ d,o=(none,[.l r0,.l r1,.l r2,.l d,.s a,.s b,.i (i:Int),.i n,.i (i:Int),.i (m:Int),.i ((k:Int)+1)])∧fB m i d:=by
   unfold sb
   (dsimp +instances only[Aa,Ab,Ac,Ad,Ae,Af,Ag])
   have M:=q.len;have y:((k:Int)).toNat=k:=a8 k;simp only[y,cF,sE];refine aa.p (aa.test (fun g0=>?_) fun g0=>aa.test (fun g1=>?_) fun g1=>?_)
   ·refine aa.p (aa.p ?_)
    refine aa.tail (G3 (k:=k) (by omega)) (by(first|rfl|assumption|(simp only[aq,sl]<;>omega))) ?_;rintro _ _ ⟨rfl,rfl⟩
    (dsimp +instances only[Aa,Ab,Ac,Ad,Ae,Af,Ag])
    exact aa.p (aa.some ⟨_,rfl,q.set (by omega) (by omega)⟩)
   ·refine aa.p (aa.p ?_)
    refine aa.tail (G3 (k:=k) (by omega)) (by(first|rfl|assumption|(simp only[aq,sl]<;>omega))) ?_;rintro _ _ ⟨rfl,rfl⟩
    (dsimp +instances only[Aa,Ab,Ac,Ad,Ae,Af,Ag])
    exact aa.p (aa.some ⟨_,rfl,q.set (by omega) (by omega)⟩)
   ·have i1:1≤i:=by
     have:¬ ((i:Int)=0):=by simpa using g0
     omega
    have B:1≤k:=by
     have:¬ ((k:Int)=0):=by simpa using g1
     omega
    have fin:∀ c:Int,0≤c→c≤1→aa (aM (ad row.length row.length&&true) (bV (sa [.l r0,.l r1,.l r2,.l row,.s a,.s b,.i (i:Int),.i (k:Int),.i c,.i n,.i (i:Int),.i (m:Int),.i (k:Int)])) fun I g=>aM (ad (gi g 3).rows.length (gi g 3).rows.length&&true) (bV (nS [.l (gi g 0).rows,.l (gi g 1).rows,.l (gi g 2).rows,.l (gi g 3).rows,.s (gi g 4).str,.s (gi g 5).str,.i (gi g 6).int,.i (gi g 7).int,.i (gi g 8).int,.i (gi g 9).int,.i (gi g 10).int])) fun I g=>(bif (ad (gi g 3).rows.length (gi g 3).rows.length)&&true then some ((none:Option Nat),[G.l (gi g 0).rows,.l (gi g 1).rows,.l (gi g 2).rows,.l (gi g 3).rows,.s (gi g 4).str,.s (gi g 5).str,.i (gi g 6).int,.i (gi g 7).int,.i (gi g 8).int,.i (gi g 9).int,.i (gi g 10).int]) else none))
      fun o=>∃ d,o=(none,[.l r0,.l r1,.l r2,.l d,.s a,.s b,.i (i:Int),.i n,.i (i:Int),.i (m:Int),.i ((k:Int)+1)])∧fB m i d:=fun c J c1=>by
     refine aa.tail (af' B (by omega) hb i1 ha q (v i1) h1 J c1 hi hm) (by(first|rfl|assumption|(simp only[aq,sl]<;>omega))) ?_;rintro _ _ ⟨rfl,d,rfl,u⟩
     (dsimp +instances only[Aa,Ab,Ac,Ad,Ae,Af,Ag])
     refine aa.tail (G3 (k:=k) (by omega)) (by(first|rfl|assumption|(simp only[aq,sl]<;>omega))) ?_;rintro _ _ ⟨rfl,rfl⟩
     (dsimp +instances only[Aa,Ab,Ac,Ad,Ae,Af,Ag])
     exact aa.p (aa.some ⟨d,rfl,u⟩)
    refine aa.p (aa.p (aa.p (aa.p ?_)));exact aa.test (fun _=>fin 0 (by omega) (by omega)) fun _=>fin 1 (by omega) (by omega)
  obtain⟨o,h,d,rfl,u⟩:=step;exact aT.next h (RP hb ha v h1 hi hm t (k+1) d (by omega) u)
theorem RQ{a b:ByteArray}{m:Nat}(hb:m=b.size+1)(ha:a.size≤100)(hm:m≤1000):∀(t i:Nat) (r0 r1 r2:List (List G)),i+t=a.size+1→(1≤i→fB m (i-1) r2)→(2≤i→fB m (i-2) r1) →
  aT sc [.l r0,.l r1,.l r2,.s a,.s b,.i ((a.size:Nat)+1:Int),.i (i:Int)] (t+1) fun x g=>x=0∧∃ r0 r1 r2,g=[.l r0,.l r1,.l r2,.s b]∧r2.length=m
 | 0,i,r0,r1,r2,hi,d,h1=>by
  refine aT.stop (x:=0) (aa.toEq ?_) ⟨rfl,r0,r1,r2,rfl,(d (by omega)).len⟩;unfold sc
  (dsimp +instances only[Aa,Ab,Ac,Ad,Ae,Af,Ag])
  exact aa.n (aa.some rfl)
 | t+1,i,r0,r1,r2,hi,d,h1=>by
  have step:aa (sc [.l r0,.l r1,.l r2,.s a,.s b,.i ((a.size:Nat)+1:Int),.i (i:Int)]) fun o=>∃ row,o=(none,[.l r1,.l r2,.l row,.s a,.s b,.i ((a.size:Nat)+1:Int),.i ((i:Int)+1)])∧fB m i row:=by
   unfold sc
   (dsimp +instances only[Aa,Ab,Ac,Ad,Ae,Af,Ag])
   have q:(((b.size:Nat):Int)+1).toNat=m:=by omega
   simp only[q];refine aa.p (aa.p (aa.p ?_));refine aa.loop ((RP hb (by omega) d h1 (by omega) hm m 0 _ (by omega) (fB.zero m i)).to (by omega)) (by(first|rfl|assumption|(simp only[aq,sl]<;>omega))) ?_;rintro _ _ ⟨rfl,row,rfl,k⟩
   (dsimp +instances only[Aa,Ab,Ac,Ad,Ae,Af,Ag])
   exact aa.p (aa.p (aa.some ⟨row,rfl,k⟩))
  obtain⟨o,h,row,rfl,k⟩:=step;exact aT.next h (RQ hb ha hm t (i+1) r1 r2 row (by omega) (fun _=>k) (fun h=>d (by omega)))
theorem aga{a b:ByteArray}(ha:a.size≤100)(hb:b.size≤100):aa (zz [.s a,.s b]) fun g=>∃ v:Int,g=[.i v]:=by
 unfold zz
 (dsimp +instances only[Aa,Ab,Ac,Ad,Ae,Af,Ag])
 refine aa.p ?_;refine aa.loop ((RQ (m:=b.size+1) rfl ha (by omega) (a.size+1) 0 [] [] [] (by omega) (fun h=>by omega) (fun h=>by omega)).to (by omega)) (by(first|rfl|assumption|(simp only[aq,sl]<;>omega))) ?_;rintro _ _ ⟨rfl,r0,r1,r2,rfl,d⟩
 (dsimp +instances only[Aa,Ab,Ac,Ad,Ae,Af,Ag])
 exact aa.p (aa.some ⟨_,rfl⟩)
structure kR (L:List (List G)) (C:Nat→ByteArray) (A:Nat→List (List G)):Prop where
 get:∀ i,i<L.length→L.getD i []=[.s (C i),.l (A i)]
 n:L.length≤4
 fX:∀ i,i<L.length→∀ z∈A i,fM z∧(gi z 3).str.size≤100
 na:∀ i,i<L.length→(A i).length≤14
 cs:∀ i,i<L.length→(C i).size≤100
 mE:∀ i j,i<j→j<L.length→dD (C i) (C j)<0
theorem agb:((dG 8).all fun n=>dT .u64 (IntKind.u64.wrap ((n:Nat):Int)) 1==((n / 2:Nat):Int))=true:=by kernel_rfl
theorem agc(i j:Nat)(h:i+j<8):dT .u64 (IntKind.u64.wrap ((i:Int)+(j:Int))) 1=(((i+j) / 2:Nat):Int):=by
 have:=cR.1 agb (i+j) (eu.2 h);rw[beq_iff_eq]at this;rw[←this];congr 2
section
variable {L:List (List G)} {C:Nat→ByteArray} {A:Nat→List (List G)} (S:kR L C A)
include S
theorem kR.two{i k:Nat}(hi:i<L.length)(hk:k<L.length):fm (A i) (A k) :=
 ⟨fun z d=>(S.fX i hi z d).1,fun z d=>(S.fX k hk z d).1,by have:=S.na i hi; omega,by have:=S.na k hk; omega⟩
theorem kR.mem{i j:Nat}(hi:i<L.length)(d:j<(A i).length):fM ((A i).getD j [])∧(gi ((A i).getD j []) 3).str.size≤100 :=
 S.fX i hi _ (by rw[cr,bO d]; exact mP d)
theorem kR.key{i:Nat}(hi:i<L.length):(gi (L.getD i []) 0).str=C i:=by rw[S.get i hi]; rfl
theorem G4(s:ByteArray):∀(m i j:Nat),j≤i+m→i≤j→j≤L.length→(∀ t,t<i→dD (C t) s<0)→(∀ t,j≤t→t<L.length→¬ dD (C t) s<0) →
  aT rX [.l L,.s s,.i (L.length:Int),.i (i:Int),.i (j:Int)] (m+1) fun x g=>x=0∧∃ p:Nat,g=[.l L,.s s,.i (L.length:Int),.i (p:Int)]∧p≤L.length∧(∀ t,t<p→dD (C t) s<0)∧(∀ t,p≤t→t<L.length→¬ dD (C t) s<0)
 | m,i,j,hm,M,u,h1,v=>by
  have N:=S.n;by_cases he:i=j
  ·subst he
   refine aT.stop (x:=0) (aa.toEq ?_) ⟨rfl,i,rfl,u,h1,v⟩;unfold rX
   (dsimp +instances only[Aa,Ab,Ac,Ad,Ae,Af,Ag])
   exact aa.n (aa.some rfl)
  ·obtain ⟨m', rfl⟩ : ∃ m', m = m' + 1 := ⟨m - 1, by omega⟩
   have I:=agc i j (by omega);have q:(i+j) / 2<L.length:=by omega
   have y:=S.get _ q;have step:∀ o,(bif aj (dD (C ((i+j) / 2)) s) 0 then some ((none:Option Nat),[G.l L,.s s,.i (L.length:Int),.i (((i+j) / 2+1:Nat):Int),.i (j:Int)]) else some (none,[.l L,.s s,.i (L.length:Int),.i (i:Int),.i (((i+j) / 2:Nat):Int)]))=some o →
     rX [.l L,.s s,.i (L.length:Int),.i (i:Int),.i (j:Int)]=some o:=fun o ho=>by
    refine aa.toEq ?_;unfold rX
    (dsimp +instances only[Aa,Ab,Ac,Ad,Ae,Af,Ag])
    simp only[I,a8,y];refine aa.p (aa.p (aa.p (aa.p ?_)));refine aa.call (P:=fun g=>g=[.i (dD (C ((i+j) / 2)) s)]) (aa.eq rfl) ?_;rintro _ rfl
    (dsimp +instances only[Aa,Ab,Ac,Ad,Ae,Af,Ag])
    refine aa.test (fun h=>?_) fun h=>?_
    ·rw [h, cond_true] at ho
     refine aa.p (aa.some ?_);cases ho;rfl
    ·rw [h, cond_false] at ho
     refine aa.some ?_;cases ho;rfl
   by_cases d:dD (C ((i+j) / 2)) s<0
   ·refine aT.next (step _ (by rw [dY, decide_eq_true d]; rfl)) (G4 s m' _ j (by omega) (by omega) u (fun t J => ?_) v)
    rcases jg t ((i+j) / 2)with h|h
    ·exact n_.tr _ _ _ (S.mE t _ h q) d
    ·rw [show t = (i + j) / 2 by omega]
     exact d
   ·refine aT.next (step _ (by rw [dY, decide_eq_false d]; rfl)) (G4 s m' i _ (by omega) (by omega) (by omega) h1 (fun t J B k => ?_))
    rcases jg ((i+j) / 2) t with h|h
    ·exact d (n_.tr _ _ _ (S.mE _ t h B) k)
    ·rw [show t = (i + j) / 2 by omega] at k
     exact d k
theorem Ao(s:ByteArray):aa (pQ [.l L,.s s]) fun g=>∃(p:Nat) (b:Bool),g=[.i (p:Int),.t b]∧(b=true→p<L.length∧C p=s)∧(b=false→∀ k,k<L.length→C k≠s):=by
 have I:=S.n;unfold pQ
 (dsimp +instances only[Aa,Ab,Ac,Ad,Ae,Af,Ag])
 refine aa.call (P:=fun g=>∃(p:Nat) (b:Bool),g=[.i (p:Int),.t b]∧(b=true→p<L.length∧C p=s)∧(b=false→∀ k,k<L.length→C k≠s)) ?_ ?_
 ·unfold EO
  (dsimp +instances only[Aa,Ab,Ac,Ad,Ae,Af,Ag])
  refine aa.loop ((G4 S s L.length 0 L.length (by omega) (by omega) (aG _) (fun t v=>by omega) (fun t h1 d=>by omega)).to (by omega)) rfl ?_;rintro _ _ ⟨rfl,p,rfl,J,y,B⟩
  (dsimp +instances only[Aa,Ab,Ac,Ad,Ae,Af,Ag])
  have q:∀ t,t<L.length→C t=s→t=p:=fun t v e=>by
   have h0:dD (C t) s=0:=pX.2 e;have h1:p≤t:=aia fun h=>by have:=y t h; omega
   refine Nat.le_antisymm (aia fun h=>?_) h1;have d:=S.mE p t h v;rw[e]at d;exact B p (aG _) (by omega) d
  refine aa.test (fun h=>?_) fun h=>?_
  ·simp only [dY, decide_eq_true_eq] at h
   have u:p<L.length:=by omega
   simp only[a8,S.get p u];refine aa.p ?_;refine aa.call (P:=fun g=>g=[.i (dD (C p) s)]) (aa.eq rfl) ?_;rintro _ rfl;refine aa.some ⟨p,_,rfl,fun hb=>⟨u,?_⟩,fun hb k hk e=>?_⟩
   ·have hb : (dD (C p) s == 0) = true := hb
    rw[beq_iff_eq]at hb;exact pX.1 hb
   ·have := q k hk e
    subst this;have hb:(dD (C k) s==0)=false:=hb;rw[pX.2 e]at hb;cases hb
  ·simp only [dY, decide_eq_false_iff_not] at h
   exact aa.some ⟨p,false,rfl,fun hb=>(by cases hb),fun _ k hk e=>by have:=q k hk e; omega⟩
 ·rintro _ ⟨p, b, rfl, h⟩
  exact aa.some ⟨p,b,rfl,h⟩
end
def bk(A:Nat→List (List G))(C:Nat→ByteArray)(own:Nat)(off:Int)(k:Nat):List (List G):=ig (A own) (A k) (C own) (C k) off
def jf(k:Nat)(ks:List Nat):List Nat:=match fA k ks with
 |some _=>ks
 |none=>ks++[k]
theorem RR(k:Nat)(ks:List Nat):∃ n,fA k (jf k ks)=some n:=by
 unfold jf;cases h:fA k ks with
 |some n=>exact⟨n,h⟩
 |none=>exact⟨_,GY (GX.1 h)⟩
theorem RS{L R1 R2 M T:List (List G)}{own off k:Int}{c1 c2:Nat}(h1:fp [.int .i64] R1 [.i k]=some M.length)(d:fp [.int .i64] R2 [.i k]=some T.length):∀(q p:List (List G)),p.length+q.length≤100000 →
  aT vF [.l L,.i own,.i off,.l R1,.l (M++[lF (fW sK p ([],0))]),.i (c1:Int),.l R2,.l (T++[lF (fW RI p ([],0))]),.i (c2:Int),.i k,.l (p++q),.i ((p.length+q.length:Nat):Int),.i (p.length:Int)] (q.length+1) fun x g =>
   x=0∧g=[.l L,.i own,.i off,.l R1,.l (M++[dm (p++q)]),.i (c1:Int),.l R2,.l (T++[dn (p++q)]),.i (c2:Int)]
 | [],p,h=>by
  refine aT.stop (x:=0) (aa.toEq ?_) ⟨rfl,rfl⟩;unfold vF
  (dsimp +instances only[Aa,Ab,Ac,Ad,Ae,Af,Ag])
  refine aa.n (aa.some ?_);rw[c_];rfl
 | r::q,p,h=>by
  simp only[cz]at h;have u:=RS (L:=L) (own:=own) (off:=off) (c1:=c1) (c2:=c2) h1 d q (p++[r]) (by simp; omega);have g1:(p++r::q).getD (p.length:Int).toNat []=r:=iW _ _ _ _ _ (by simp);rw[a8]at g1;have hlen:(p++r::q).length=p.length+q.length+1:=by simp; omega
  have v:(p++[r])++q=p++r::q:=by simp
  have y:(((p++[r]).length+q.length:Nat):Int)=((p.length+(r::q).length:Nat):Int):=by simp; omega
  have B:(((p++[r]).length:Nat):Int)=(p.length:Int)+1:=by simp
  rw[v,y,B]at u;refine aT.next (aa.toEq ?_) u
  unfold vF
  (dsimp +instances only[Aa,Ab,Ac,Ad,Ae,Af,Ag])
  simp only[g1,hlen,cz,a8,h1,d];refine aa.p (aa.p (aa.pos rfl (aa.pos (RM _ _) (aa.pos rfl (aa.pos (RM _ _) (aa.p (aa.some ?_)))))));rw[RL,RL,RJ,RJ];rfl
section
variable {L:List (List G)} {C:Nat→ByteArray} {A:Nat→List (List G)} (S:kR L C A) {own:Nat} (ho:own<L.length) (off:Int)
include S ho
theorem RT{k:Nat}(hk:k<L.length)(ks:List Nat):vG [G.l L,.i (own:Int),.i off,.l (bf 0 ks),.l (ks.map fun k=>dm (bk A C own off k)),.i ((ks.length:Nat):Int),.l (bf 0 ks),.l (ks.map fun k=>dn (bk A C own off k)),.i ((ks.length:Nat):Int),.i (k:Int)]=some [G.l L,.i (own:Int),.i off,.l (bf 0 (jf k ks)),.l ((jf k ks).map fun k=>dm (bk A C own off k)),.i (((jf k ks).length:Nat):Int),.l (bf 0 (jf k ks)),.l ((jf k ks).map fun k=>dn (bk A C own off k)),.i (((jf k ks).length:Nat):Int)]:=by
 refine aa.toEq ?_;unfold vG
 (dsimp +instances only[Aa,Ab,Ac,Ad,Ae,Af,Ag])
 simp only[An,af6,a8];unfold jf;cases h:fA k ks with
 |some n=>exact aa.pos rfl (aa.some rfl)
 | none =>
  have d:=af7 k ks;have g:=af8 k ks;unfold sJ at d g;refine aa.pos rfl (aa.neg rfl (aa.pos rfl (aa.pos d (aa.pos rfl (aa.pos d (aa.p (aa.p ?_)))))));simp only[S.get own ho,S.get k hk];refine aa.cE (afZ (S.two ho hk) (C own) (C k) off) ?_
  (dsimp +instances only[Aa,Ab,Ac,Ad,Ae,Af,Ag])
  simp only[dz];rw[g];have hb:=Rt (S.two ho hk) (C own) (C k) off;have v:=S.na own ho;have q:fp [.int .i64] (bf 0 (ks++[k])) [.i (k:Int)]=some ks.length:=by rw[An]; exact GY (GX.1 h)
  have u:=RS (L:=L) (own:=(own:Int)) (off:=off) (k:=(k:Int)) (R1:=bf 0 (ks++[k])) (R2:=bf 0 (ks++[k])) (M:=ks.map fun k=>dm (bk A C own off k)) (T:=ks.map fun k=>dn (bk A C own off k)) (c1:=ks.length+1) (c2:=ks.length+1)
   (by rw[dz]; exact q) (by rw[dz]; exact q) (bk A C own off k) [] (by unfold bk; simp; omega)
  simp only[jG,kV,cF]at u;refine aa.loop (u.to (by unfold bk; omega)) rfl ?_;rintro _ _ ⟨rfl,rfl⟩
  (dsimp +instances only[Aa,Ab,Ac,Ad,Ae,Af,Ag])
  refine aa.some ?_;simp only[a8,kf,dw,sW,e9,S1]
def Ap(x y:List G):Bool:=(gi x 4).int==(gi y 5).int&&(gi x 6).str.toList==(gi y 7).str.toList
omit S ho in
theorem RU(x y:List G):vH [.l [x],.l [y]]=some [.t (Ap x y)]:=by
 refine aa.toEq ?_;unfold vH Ap
 (dsimp +instances only[Aa,Ab,Ac,Ad,Ae,Af,Ag])
 refine aa.test (fun h=>aa.some ?_) fun h=>aa.some ?_<;>rw[h]<;>rfl
theorem RV{k:Nat}(hk:k<L.length){t m s h:Int}{b c x y:ByteArray}(u:fM [.i t,.i m,.s b,.s c,.i s,.i h,.s x,.s y]){ks:List Nat}{n:Nat}(q:fA k ks=some n):∀(d i:Nat),i+d=(A k).length →
  aT sd [G.l L,.i (own:Int),.i off,.l (bf 0 ks),.l (ks.map fun k=>dm (bk A C own off k)),.i ((ks.length:Nat):Int),.l (bf 0 ks),.l (ks.map fun k=>dn (bk A C own off k)),.i ((ks.length:Nat):Int),.i t,.i m,.s b,.s c,.i s,.i h,.s x,.s y,.i (k:Int),.l (A k),.i ((A k).length:Int),.i (i:Int)] (d+1) fun e g =>
   (e=0∧∃ v:Nat,v<(A k).length∧g=[G.l L,.i (own:Int),.i off,.l (bf 0 ks),.l (ks.map fun k=>dm (bk A C own off k)),.i ((ks.length:Nat):Int),.l (bf 0 ks),.l (ks.map fun k=>dn (bk A C own off k)),.i ((ks.length:Nat):Int),.i (v:Int)])∨e=1∧g=[G.l L,.i (own:Int),.i off,.l (bf 0 ks),.l (ks.map fun k=>dm (bk A C own off k)),.i ((ks.length:Nat):Int),.l (bf 0 ks),.l (ks.map fun k=>dn (bk A C own off k)),.i ((ks.length:Nat):Int)]
 | 0,i,hi=>by
  refine aT.stop (x:=1) (aa.toEq ?_) (.inr ⟨rfl,rfl⟩);unfold sd
  (dsimp +instances only[Aa,Ab,Ac,Ad,Ae,Af,Ag])
  refine aa.n (aa.some ?_);simp only[a8]
 | d+1,i,hi=>by
  have N:=S.na k hk;have M:=RV hk u q d (i+1) (by omega);obtain⟨B,O⟩:=S.mem (i:=k) (j:=i) hk (by omega);have step:aa (sd [G.l L,.i (own:Int),.i off,.l (bf 0 ks),.l (ks.map fun k=>dm (bk A C own off k)),.i ((ks.length:Nat):Int),.l (bf 0 ks),.l (ks.map fun k=>dn (bk A C own off k)),.i ((ks.length:Nat):Int),.i t,.i m,.s b,.s c,.i s,.i h,.s x,.s y,.i (k:Int),.l (A k),.i ((A k).length:Int),.i (i:Int)]) fun o =>
    o=(some 0,[G.l L,.i (own:Int),.i off,.l (bf 0 ks),.l (ks.map fun k=>dm (bk A C own off k)),.i ((ks.length:Nat):Int),.l (bf 0 ks),.l (ks.map fun k=>dn (bk A C own off k)),.i ((ks.length:Nat):Int),.i (i:Int)])∨o=(none,[G.l L,.i (own:Int),.i off,.l (bf 0 ks),.l (ks.map fun k=>dm (bk A C own off k)),.i ((ks.length:Nat):Int),.l (bf 0 ks),.l (ks.map fun k=>dn (bk A C own off k)),.i ((ks.length:Nat):Int),.i t,.i m,.s b,.s c,.i s,.i h,.s x,.s y,.i (k:Int),.l (A k),.i ((A k).length:Int),.i ((i:Int)+1)]):=by
   unfold sd
   (dsimp +instances only[Aa,Ab,Ac,Ad,Ae,Af,Ag])
   have I:=(Am q).1;have J:kG (ks.map fun k=>dn (bk A C own off k)) (some n)=true:=by
    show fa n (ks.map fun k=>dn (bk A C own off k)).length=true
    rw[dz];simpa using I
   simp only[a8,An,q,B.1];refine aa.p (aa.p (aa.p ?_));have out:aa (bif aq ((i:Int)+1) then some ((none:Option Nat),[G.l L,.i (own:Int),.i off,.l (bf 0 ks),.l (ks.map fun k=>dm (bk A C own off k)),.i ((ks.length:Nat):Int),.l (bf 0 ks),.l (ks.map fun k=>dn (bk A C own off k)),.i ((ks.length:Nat):Int),.i t,.i m,.s b,.s c,.i s,.i h,.s x,.s y,.i (k:Int),.l (A k),.i ((A k).length:Int),.i ((i:Int)+1)]) else none) fun o =>
    o=(some 0,[G.l L,.i (own:Int),.i off,.l (bf 0 ks),.l (ks.map fun k=>dm (bk A C own off k)),.i ((ks.length:Nat):Int),.l (bf 0 ks),.l (ks.map fun k=>dn (bk A C own off k)),.i ((ks.length:Nat):Int),.i (i:Int)])∨o=(none,[G.l L,.i (own:Int),.i off,.l (bf 0 ks),.l (ks.map fun k=>dm (bk A C own off k)),.i ((ks.length:Nat):Int),.l (bf 0 ks),.l (ks.map fun k=>dn (bk A C own off k)),.i ((ks.length:Nat):Int),.i t,.i m,.s b,.s c,.i s,.i h,.s x,.s y,.i (k:Int),.l (A k),.i ((A k).length:Int),.i ((i:Int)+1)]):=aa.p (aa.some (.inr rfl))
   refine aa.test (fun _=>?_) fun _=>out;refine aa.cE (GB off u B) ?_;refine aa.test (fun _=>?_) fun _=>out;refine aa.pos rfl (aa.pos J (aa.test (fun _=>?_) fun _=>out));refine aa.cE (RU _ _) ?_;exact aa.test (fun _=>aa.some (.inl rfl)) fun _=>out
  obtain⟨o,h,rfl|rfl⟩:=step
  ·exact aT.stop h (.inl ⟨rfl,i,by omega,rfl⟩)
  ·exact aT.next h M
theorem agd{k:Nat}(hk:k<L.length){t m s h:Int}{b c x y:ByteArray}(u:fM [.i t,.i m,.s b,.s c,.i s,.i h,.s x,.s y])(q:c.size≤100)(ks:List Nat) :
  aa (zA [G.l L,.i (own:Int),.i off,.l (bf 0 ks),.l (ks.map fun k=>dm (bk A C own off k)),.i ((ks.length:Nat):Int),.l (bf 0 ks),.l (ks.map fun k=>dn (bk A C own off k)),.i ((ks.length:Nat):Int),.l [[.i t,.i m,.s b,.s c,.i s,.i h,.s x,.s y]],.i (k:Int)]) fun g=>∃(d:List Nat) (v:Int),g=[G.l L,.i (own:Int),.i off,.l (bf 0 d),.l (d.map fun k=>dm (bk A C own off k)),.i ((d.length:Nat):Int),.l (bf 0 d),.l (d.map fun k=>dn (bk A C own off k)),.i ((d.length:Nat):Int),.i v]∧(0≤v→v<((A k).length:Int)):=by
 have I:=S.na k hk;unfold zA
 (dsimp +instances only[Aa,Ab,Ac,Ad,Ae,Af,Ag])
 simp only[a8,S.get k hk];refine aa.p ?_;refine aa.call (aga (S.cs k hk) q) ?_;rintro _ ⟨v,rfl⟩
 (dsimp +instances only[Aa,Ab,Ac,Ad,Ae,Af,Ag])
 refine aa.test (fun _=>aa.some ⟨ks,-1,rfl,fun h=>by omega⟩) fun _=>?_;refine aa.cE (RT S ho off hk ks) ?_
 (dsimp +instances only[Aa,Ab,Ac,Ad,Ae,Af,Ag])
 simp only[a8,S.get k hk];refine aa.p ?_;obtain⟨n,B⟩:=RR k ks;refine aa.loop ((RV S ho off hk u B (A k).length 0 (by omega)).to (by omega)) rfl ?_;rintro _ _ (⟨rfl,v,J,rfl⟩|⟨rfl,rfl⟩)
 ·(dsimp +instances only [Aa,Ab,Ac,Ad,Ae,Af,Ag])
  simp only[a8];exact aa.pos rfl (aa.some ⟨jf k ks,(v:Int),rfl,fun _=>by omega⟩)
 ·(dsimp +instances only [Aa,Ab,Ac,Ad,Ae,Af,Ag])
  simp only[a8];exact aa.neg rfl (aa.some ⟨jf k ks,-1,rfl,fun h=>by omega⟩)
def Aq(L:List (List G))(A:Nat→List (List G))(s v:Int):Prop:=0≤s→∃ k:Nat,s=(k:Int)∧k<L.length∧0≤v∧v<((A k).length:Int)
theorem RW{t m s h:Int}{b c x y:ByteArray}(M:fM [.i t,.i m,.s b,.s c,.i s,.i h,.s x,.s y])(J:c.size≤100):∀(d i:Nat) (ks:List Nat) (u v:Int),i+d=L.length→Aq L A u v →
  aT se [G.l L,.i (own:Int),.i off,.l (bf 0 ks),.l (ks.map fun k=>dm (bk A C own off k)),.i ((ks.length:Nat):Int),.l (bf 0 ks),.l (ks.map fun k=>dn (bk A C own off k)),.i ((ks.length:Nat):Int),.i t,.i m,.s b,.s c,.i s,.i h,.s x,.s y,.i u,.i v,.l L,.i (L.length:Int),.i (i:Int)] (d+1) fun e g =>
   (e=0∨e=1)∧∃(q:List Nat) (u v:Int),g=[G.l L,.i (own:Int),.i off,.l (bf 0 q),.l (q.map fun k=>dm (bk A C own off k)),.i ((q.length:Nat):Int),.l (bf 0 q),.l (q.map fun k=>dn (bk A C own off k)),.i ((q.length:Nat):Int),.i u,.i v]∧Aq L A u v
 | 0,i,ks,u,v,hi,B=>by
  refine aT.stop (x:=1) (aa.toEq ?_) ⟨.inr rfl,ks,u,v,rfl,B⟩;unfold se
  (dsimp +instances only[Aa,Ab,Ac,Ad,Ae,Af,Ag])
  refine aa.n (aa.some ?_);simp only[a8]
 | d+1,i,ks,u,v,hi,B=>by
  have V:=S.n;have I:i<L.length:=by omega
  have step:aa (se [G.l L,.i (own:Int),.i off,.l (bf 0 ks),.l (ks.map fun k=>dm (bk A C own off k)),.i ((ks.length:Nat):Int),.l (bf 0 ks),.l (ks.map fun k=>dn (bk A C own off k)),.i ((ks.length:Nat):Int),.i t,.i m,.s b,.s c,.i s,.i h,.s x,.s y,.i u,.i v,.l L,.i (L.length:Int),.i (i:Int)]) fun o =>
    (∃ q:List Nat,o=(some 0,[G.l L,.i (own:Int),.i off,.l (bf 0 q),.l (q.map fun k=>dm (bk A C own off k)),.i ((q.length:Nat):Int),.l (bf 0 q),.l (q.map fun k=>dn (bk A C own off k)),.i ((q.length:Nat):Int),.i (-1),.i (-1)]))∨∃(q:List Nat) (u v:Int),o=(none,[G.l L,.i (own:Int),.i off,.l (bf 0 q),.l (q.map fun k=>dm (bk A C own off k)),.i ((q.length:Nat):Int),.l (bf 0 q),.l (q.map fun k=>dn (bk A C own off k)),.i ((q.length:Nat):Int),.i t,.i m,.s b,.s c,.i s,.i h,.s x,.s y,.i u,.i v,.l L,.i (L.length:Int),.i ((i:Int)+1)])∧Aq L A u v:=by
   unfold se
   (dsimp +instances only[Aa,Ab,Ac,Ad,Ae,Af,Ag])
   simp only[a8,S.get i I];refine aa.p (aa.p ?_);refine aa.test (fun _=>aa.p (aa.some (.inr ⟨ks,u,v,rfl,B⟩))) fun _=>?_;refine aa.test (fun _=>aa.p (aa.some (.inr ⟨ks,u,v,rfl,B⟩))) fun _=>?_;refine aa.call (agd S ho off I M J ks) ?_;rintro _ ⟨q,w,rfl,hw⟩
   (dsimp +instances only[Aa,Ab,Ac,Ad,Ae,Af,Ag])
   simp only[a8];refine aa.test (fun h0=>?_) fun _=>aa.p (aa.some (.inr ⟨q,u,v,rfl,B⟩));rw[ff,decide_eq_true_eq]at h0;refine aa.test (fun _=>aa.some (.inl ⟨q,rfl⟩)) fun _=>?_;exact aa.p (aa.some (.inr ⟨q,(i:Int),w,rfl,fun _=>⟨i,rfl,I,h0,hw h0⟩⟩))
  obtain⟨o,h,⟨q,rfl⟩|⟨q,O,U,rfl,N⟩⟩:=step
  ·exact aT.stop h ⟨.inl rfl,q,-1,-1,rfl,fun h=>by omega⟩
  ·exact aT.next h (RW M J d (i+1) q O U (by omega) N)
theorem age{t m s h:Int}{b c x y:ByteArray}(I:fM [.i t,.i m,.s b,.s c,.i s,.i h,.s x,.s y])(B:c.size≤100)(ks:List Nat) :
  aa (sf [G.l L,.i (own:Int),.i off,.l (bf 0 ks),.l (ks.map fun k=>dm (bk A C own off k)),.i ((ks.length:Nat):Int),.l (bf 0 ks),.l (ks.map fun k=>dn (bk A C own off k)),.i ((ks.length:Nat):Int),.l [[.i t,.i m,.s b,.s c,.i s,.i h,.s x,.s y]]]) fun g=>∃(d:List Nat) (u v:Int),g=[G.l L,.i (own:Int),.i off,.l (bf 0 d),.l (d.map fun k=>dm (bk A C own off k)),.i ((d.length:Nat):Int),.l (bf 0 d),.l (d.map fun k=>dn (bk A C own off k)),.i ((d.length:Nat):Int),.i u,.i v]∧Aq L A u v:=by
 have J:=S.n;unfold sf
 (dsimp +instances only[Aa,Ab,Ac,Ad,Ae,Af,Ag])
 simp only[a8];refine aa.loop ((RW S ho off I B L.length 0 ks (-1) 0 (by omega) (fun h=>by omega)).to (by omega)) rfl ?_;rintro _ _ ⟨rfl|rfl,d,u,v,rfl,q⟩
 ·(dsimp +instances only [Aa,Ab,Ac,Ad,Ae,Af,Ag])
  simp only[a8];exact aa.pos rfl (aa.some ⟨d,u,v,rfl,q⟩)
 ·(dsimp +instances only [Aa,Ab,Ac,Ad,Ae,Af,Ag])
  simp only[a8];exact aa.neg rfl (aa.some ⟨d,u,v,rfl,q⟩)
end
theorem agf(f:Nat→List G){ks:List Nat}{n k:Nat}(h:fA k ks=some n):gn (ks.map f) (some n)=f k:=by
 obtain⟨h1,d⟩:=Am h;show (ks.map f).getD n []=_
 rw[cr,cd];rw[cr]at d;rw[bO h1]at d⊢;simp only[lP]at d;simp only[eF,lP,d]
theorem agh(f:Nat→List G){ks:List Nat}{n k:Nat}(h:fA k ks=some n):kG (ks.map f) (some n)=true:=by
 obtain⟨h1,d⟩:=Am h;show fa n (ks.map f).length=true
 rw[dz];simpa using h1
section
variable {L:List (List G)} {C:Nat→ByteArray} {A:Nat→List (List G)} (S:kR L C A)
include S
theorem kR.inj{i j:Nat}(hi:i<L.length)(g:j<L.length)(h:C i=C j):i=j:=by
 rcases ah_ i j with d|d|d
 ·have := S.mE i j d g
  rw[pX.2 h]at this;omega
 ·exact d
 ·have := S.mE j i d hi
  rw[pX.2 h.symm]at this;omega
end
def RX(L:List (List G))(C:Nat→ByteArray)(A:Nat→List (List G))(own:Nat)(off:Int)(i:Nat):Prop :=
 ∃ k j:Nat,k<L.length∧C k=(gi ((A own).getD i []) 3).str∧[G.i (i:Int),.i (j:Int)]∈bk A C own off k
def G5(L:List (List G))(C:Nat→ByteArray)(A:Nat→List (List G))(own:Nat)(off:Int)(i:Nat)(row:List G):Prop :=
 ∃ (d:Int) (w:ByteArray) (v:Int),row=[.i (i:Int),.i d,.s w,.i v] ∧
  ((∃ k j : Nat, k < L.length ∧ j < (A k).length ∧ C k = (gi ((A own).getD i []) 3).str ∧ w = C k ∧ v = (j : Int) ∧ [G.i (i : Int), .i (j : Int)] ∈ bk A C own off k ∧
    ((d=1∧Ap ((A k).getD j []) ((A own).getD i [])=true)∨(d=3∧Ap ((A k).getD j []) ((A own).getD i [])=false))) ∨
   (¬ RX L C A own off i∧((d=2∧∃ k:Nat,k<L.length∧w=C k∧0≤v∧v<((A k).length:Int))∨((d=4∨d=5)∧w=⟨#[]⟩∧v = -1))))
def v_(L:List (List G))(C:Nat→ByteArray)(A:Nat→List (List G))(own:Nat)(off:Int)(i:Nat)(row:List G):Prop :=
 row=[.i (i:Int),.i 6,.s ⟨#[]⟩,.i (-1)]∨G5 L C A own off i row
def jD(L:List (List G))(C:Nat→ByteArray)(A:Nat→List (List G))(own:Nat)(off:Int)(d:List (List G)):Prop :=
 ∀ j,j<d.length→v_ L C A own off j (d.getD j [])
section
variable {L:List (List G)} {C:Nat→ByteArray} {A:Nat→List (List G)} (S:kR L C A) {own:Nat} (ho:own<L.length) (off:Int)
include S ho
theorem agi{k:Nat}(hk:k<L.length)(i:Nat):(dO [.int .i64] (fW sK (bk A C own off k) ([],0)).1 [.i (i:Int)]=true→∃ j:Nat,j<(A k).length∧[G.i (i:Int),.i (j:Int)]∈bk A C own off k∧az [.int .i64] (fW sK (bk A C own off k) ([],0)).1 [.i (i:Int)] [.i 0]=[.i (j:Int)]) ∧
  (dO [.int .i64] (fW sK (bk A C own off k) ([],0)).1 [.i (i:Int)]=false→∀ j:Nat,[G.i (i:Int),.i (j:Int)]∉bk A C own off k):=by
 have q:∀ r∈bk A C own off k,∃ a b:Nat,r=[.i (a:Int),.i (b:Int)]∧b<(A k).length:=fun r u=>by
  obtain⟨a,b,h1,_,d,_⟩:=Al (S.two ho hk) u;exact⟨a,b,h1,d⟩
 rw[RN,Lz,Bool.or_false];constructor
 ·intro h
  rcases RO sK [.i (i:Int)] [.i 0] (bk A C own off k) ([],0)with⟨r,h1,d,g⟩|⟨h1,_⟩
  ·obtain ⟨a, b, rfl, hb⟩ := q r h1
   have d:a_ [.int .i64] [.i (i:Int)] [.i (a:Int)]=true:=d;rw[GZ,decide_eq_true_eq]at d;have:i=a:=by omega
   subst this;exact⟨b,hb,h1,g⟩
  ·obtain ⟨r, d, g⟩ := jH.1 h
   rw[h1 r d]at g;cases g
 ·intro h j v
  have:=List.any_eq_false.1 h _ v;apply this;show a_ [.int .i64] [.i (i:Int)] [.i (i:Int)]=true
  rw[GZ];simp
theorem RY{i:Nat}(hi:i<(A own).length)(ks:List Nat):aa (vI [G.l L,.i (own:Int),.i off,.l (bf 0 ks),.l (ks.map fun k=>dm (bk A C own off k)),.i ((ks.length:Nat):Int),.l (bf 0 ks),.l (ks.map fun k=>dn (bk A C own off k)),.i ((ks.length:Nat):Int),.i (i:Int)]) fun g=>∃(d:List Nat) (row:List G),g=[G.l L,.i (own:Int),.i off,.l (bf 0 d),.l (d.map fun k=>dm (bk A C own off k)),.i ((d.length:Nat):Int),.l (bf 0 d),.l (d.map fun k=>dn (bk A C own off k)),.i ((d.length:Nat):Int),.l [row]]∧G5 L C A own off i row:=by
 obtain⟨J,U⟩:=S.mem ho hi;have hna:=S.na own ho;have B:=S.n;have V:fM (aD [.int .i64,.int .i64,.str,.str,.int .i64,.int .i64,.str,.str] ((A own).getD i [])):=by rw[J.1]; exact J
 unfold vI
 (dsimp +instances only[Aa,Ab,Ac,Ad,Ae,Af,Ag])
 simp only[a8,S.get own ho]
 (dsimp +instances only[Aa,Ab,Ac,Ad,Ae,Af,Ag])
 refine aa.p (aa.p ?_);refine aa.call (Ao S _) ?_;rintro _ ⟨p,b,rfl,hT,hF⟩
 (dsimp +instances only[Aa,Ab,Ac,Ad,Ae,Af,Ag])
 have last:∀(ks:List Nat) (b:Bool),¬ RX L C A own off i→aa (aB (sf [G.l L,.i (own:Int),.i off,.l (bf 0 ks),.l (ks.map fun k=>dm (bk A C own off k)),.i ((ks.length:Nat):Int),.l (bf 0 ks),.l (ks.map fun k=>dn (bk A C own off k)),.i ((ks.length:Nat):Int),.l [aD [.int .i64,.int .i64,.str,.str,.int .i64,.int .i64,.str,.str] ((A own).getD i [])]]) fun g=>(bif bl 0 (gi g 9).int then (bif (aw (gi g 9).int)&&(aj (gi g 9).int (((gi g 0).rows.length:Nat):Int)) then some [.l (gi g 0).rows,.i (gi g 1).int,.i (gi g 2).int,.l (gi g 3).rows,.l (gi g 4).rows,.i (((gi g 5).int.toNat:Nat):Int),.l (gi g 6).rows,.l (gi g 7).rows,.i (((gi g 8).int.toNat:Nat):Int),.l [[.i (i:Int),.i 2,.s (gi ((gi g 0).rows.getD ((gi g 9).int.toNat) []) 0).str,.i (gi g 10).int]]] else none) else (bif b then some [.l (gi g 0).rows,.i (gi g 1).int,.i (gi g 2).int,.l (gi g 3).rows,.l (gi g 4).rows,.i (((gi g 5).int.toNat:Nat):Int),.l (gi g 6).rows,.l (gi g 7).rows,.i (((gi g 8).int.toNat:Nat):Int),.l [[.i (i:Int),.i 4,.s ⟨#[]⟩,.i (-1)]]] else some [.l (gi g 0).rows,.i (gi g 1).int,.i (gi g 2).int,.l (gi g 3).rows,.l (gi g 4).rows,.i (((gi g 5).int.toNat:Nat):Int),.l (gi g 6).rows,.l (gi g 7).rows,.i (((gi g 8).int.toNat:Nat):Int),.l [[.i (i:Int),.i 5,.s ⟨#[]⟩,.i (-1)]]])))
   fun g=>∃(d:List Nat) (row:List G),g=[G.l L,.i (own:Int),.i off,.l (bf 0 d),.l (d.map fun k=>dm (bk A C own off k)),.i ((d.length:Nat):Int),.l (bf 0 d),.l (d.map fun k=>dn (bk A C own off k)),.i ((d.length:Nat):Int),.l [row]]∧G5 L C A own off i row:=fun ks b q=>by
  refine aa.call (age S ho off V U ks) ?_;rintro _ ⟨d,u,v,rfl,hm⟩
  (dsimp +instances only[Aa,Ab,Ac,Ad,Ae,Af,Ag])
  simp only[a8];refine aa.test (fun h0=>?_) fun _=>?_
  ·rw [ff, decide_eq_true_eq] at h0
   obtain⟨k,rfl,hk,W,hv1⟩:=hm h0;simp only[a8,S.get k hk];refine aa.p (aa.some ⟨d,_,rfl,2,C k,v,rfl,.inr ⟨q,.inl ⟨rfl,k,hk,rfl,W,hv1⟩⟩⟩)
  ·refine aa.test (fun _=>aa.some ⟨d,_,rfl,4,⟨#[]⟩,-1,rfl,.inr ⟨q,.inr ⟨.inl rfl,rfl,rfl⟩⟩⟩) fun _=>aa.some ⟨d,_,rfl,5,⟨#[]⟩,-1,rfl,.inr ⟨q,.inr ⟨.inr rfl,rfl,rfl⟩⟩⟩
 refine aa.test (fun hb=>?_) fun hb=>?_
 ·obtain ⟨h, y⟩ := hT hb
  refine aa.cE (RT S ho off h ks) ?_
  (dsimp +instances only[Aa,Ab,Ac,Ad,Ae,Af,Ag])
  obtain⟨n,B⟩:=RR p ks;simp only[a8,An,B,agf (fun k=>dm (bk A C own off k)) B];refine aa.pos rfl (aa.pos (agh _ B) ?_);obtain⟨j1,j2⟩:=agi S ho off h i;refine aa.test (fun hm=>?_) fun hm=>?_
  ·obtain ⟨j, q, N, hjg⟩ := j1 hm
   have hnk:=S.na p h;have hg:az [.int .i64] (gi (dm (bk A C own off p)) 0).rows [.i (i:Int)] [.i 0]=[.i (j:Int)]:=hjg;simp only[hg]
   (dsimp +instances only[Aa,Ab,Ac,Ad,Ae,Af,Ag])
   simp only[a8,S.get own ho,S.get p h]
   (dsimp +instances only[Aa,Ab,Ac,Ad,Ae,Af,Ag])
   obtain⟨hy,hys⟩:=S.mem h q;simp only[J.1,hy.1];refine aa.p (aa.p ?_);refine aa.cE (RU _ _) ?_
   (dsimp +instances only[Aa,Ab,Ac,Ad,Ae,Af,Ag])
   refine aa.test (fun M=>?_) fun M=>?_
   ·exact aa.some ⟨jf p ks,_,rfl,1,_,(j:Int),rfl,.inl ⟨p,j,h,q,y,y.symm,rfl,N,.inl ⟨rfl,M⟩⟩⟩
   ·exact aa.some ⟨jf p ks,_,rfl,3,_,(j:Int),rfl,.inl ⟨p,j,h,q,y,y.symm,rfl,N,.inr ⟨rfl,M⟩⟩⟩
  ·refine last (jf p ks) b ?_
   rintro⟨k,j,hk,I,O⟩;have:=S.inj hk h (I.trans y.symm);subst this;exact j2 hm j O
 ·refine last ks b ?_
  rintro⟨k,j,hk,I,O⟩;exact hF hb k hk I
theorem RZ{len:Nat}(hlen:len=(A own).length):∀(d i:Nat) (ks:List Nat) (seen:List (List G)) (clk:Nat) (out:List (List G)),i+d=len→out.length=i→jD L C A own off out →
  aT sg [G.l L,.i (own:Int),.i off,.l (bf 0 ks),.l (ks.map fun k=>dm (bk A C own off k)),.i ((ks.length:Nat):Int),.l (bf 0 ks),.l (ks.map fun k=>dn (bk A C own off k)),.i ((ks.length:Nat):Int),.l seen,.i (clk:Int),.l out,.l (A own),.i (len:Int),.i (i:Int)] (d+1) fun e g =>
   e=0∧∃(q:List Nat) (out:List (List G)),g=[G.l L,.i (own:Int),.i off,.l (bf 0 q),.l (q.map fun k=>dm (bk A C own off k)),.i ((q.length:Nat):Int),.l (bf 0 q),.l (q.map fun k=>dn (bk A C own off k)),.i ((q.length:Nat):Int),.l out]∧out.length=len∧jD L C A own off out
 | 0,i,ks,seen,clk,out,hi,M,I=>by
  refine aT.stop (x:=0) (aa.toEq ?_) ⟨rfl,ks,out,rfl,by omega,I⟩;unfold sg
  (dsimp +instances only[Aa,Ab,Ac,Ad,Ae,Af,Ag])
  refine aa.n (aa.p (aa.some ?_));simp only[a8]
 | d+1,i,ks,seen,clk,out,hi,M,I=>by
  have O:=S.na own ho;have add:∀ row,v_ L C A own off i row→jD L C A own off (out++[row]):=fun row u j N=>by
   rw[e9,S1]at N;by_cases e:j=i
   ·subst e
    rw[cr,gL (by omega),show j-out.length=0 by omega];exact u
   ·have := I j (by omega)
    rw[cr]at this⊢;rw[cK (by omega)];exact this
  have step:aa (sg [G.l L,.i (own:Int),.i off,.l (bf 0 ks),.l (ks.map fun k=>dm (bk A C own off k)),.i ((ks.length:Nat):Int),.l (bf 0 ks),.l (ks.map fun k=>dn (bk A C own off k)),.i ((ks.length:Nat):Int),.l seen,.i (clk:Int),.l out,.l (A own),.i (len:Int),.i (i:Int)]) fun o =>
    ∃(q:List Nat) (y:List (List G)) (B:Nat) (row:List G),o=(none,[G.l L,.i (own:Int),.i off,.l (bf 0 q),.l (q.map fun k=>dm (bk A C own off k)),.i ((q.length:Nat):Int),.l (bf 0 q),.l (q.map fun k=>dn (bk A C own off k)),.i ((q.length:Nat):Int),.l y,.i (B:Int),.l (out++[row]),.l (A own),.i (len:Int),.i ((i:Int)+1)])∧v_ L C A own off i row:=by
   unfold sg
   (dsimp +instances only[Aa,Ab,Ac,Ad,Ae,Af,Ag])
   simp only[a8];refine aa.p (aa.p ?_);refine aa.test (fun _=>?_) fun _=>?_
   ·exact aa.p (aa.p (aa.p (aa.some ⟨ks,_,_,_,rfl,.inl rfl⟩)))
   ·refine aa.call (RY S ho off (by omega) ks) ?_
    rintro _ ⟨q,row,rfl,u⟩;have J:aD cX row=row:=by
     obtain⟨U,w,v,rfl,_⟩:=u;rfl
    (dsimp +instances only[Aa,Ab,Ac,Ad,Ae,Af,Ag])
    simp only[a8,J];refine aa.test (fun _=>?_) fun _=>?_
    ·exact aa.p (aa.p (aa.p (aa.some ⟨q,_,_,row,rfl,.inr u⟩)))
    ·exact aa.p (aa.p (aa.p (aa.some ⟨q,_,_,row,rfl,.inr u⟩)))
  obtain⟨o,h,q,y,B,row,rfl,u⟩:=step;exact aT.next h (RZ hlen d (i+1) q y B (out++[row]) (by omega) (by simp; omega) (add row u))
theorem agj:aa (zB [.l L,.i (own:Int),.i off,.l [],.i 0,.l [],.i 0]) fun g=>∃ out,g=[.l [],.l [],.l [],.l out]∧out.length=(A own).length∧jD L C A own off out:=by
 have q:=S.na own ho;have v:=S.n;unfold zB
 (dsimp +instances only[Aa,Ab,Ac,Ad,Ae,Af,Ag])
 simp only[a8,S.get own ho]
 (dsimp +instances only[Aa,Ab,Ac,Ad,Ae,Af,Ag])
 refine aa.pos rfl (aa.p ?_);have d:=RZ S ho off (len:=(A own).length) rfl (A own).length 0 [] [] 0 [] (by omega) rfl (fun j h=>by cases h);refine aa.loop (d.to (by omega)) rfl ?_;rintro _ _ ⟨rfl,u,out,rfl,h1,k⟩
 (dsimp +instances only[Aa,Ab,Ac,Ad,Ae,Af,Ag])
 exact aa.p (aa.some ⟨out,rfl,h1,k⟩)
omit ho in
theorem R0(h0:0≤off)(h1:off≤300)(h:lA [.l L]=some [.i 0])(s:ByteArray):aa (nZ [.l L,.s s,.i off]) fun g =>
  (∃ own out,own<L.length∧C own=s∧g=[.l out,.i (own:Int),.i 0]∧out.length=(A own).length∧jD L C A own off out)∨(∀ k,k<L.length→C k≠s)∧g=[.l [],.i 0,.i 8]:=by
 unfold nZ
 (dsimp +instances only[Aa,Ab,Ac,Ad,Ae,Af,Ag])
 refine aa.cE h ?_;refine aa.neg rfl ?_;refine aa.call (P:=fun g=>g=[.i 0]) ?_ ?_
 ·unfold rW
  (dsimp +instances only[Aa,Ab,Ac,Ad,Ae,Af,Ag])
  refine aa.cE (sw off 0 3600000) ?_;refine aa.neg ?_ (aa.some rfl);show (!(bl 0 off&&bl off 3600000))=false
  rw[ff,ff,decide_eq_true h0,decide_eq_true (by omega:off≤3600000)];rfl
 rintro _ rfl;refine aa.neg rfl ?_;refine aa.call (Ao S s) ?_;rintro _ ⟨p,b,rfl,u,v⟩
 (dsimp +instances only[Aa,Ab,Ac,Ad,Ae,Af,Ag])
 refine aa.test (fun hb=>aa.some (.inr ⟨v (by simpa using hb),rfl⟩)) fun hb=>?_;obtain⟨d,q⟩:=u (by simpa using hb);refine aa.call (P:=fun g=>g=[.l L,.i (p:Int),.i off,.l [],.i 0,.l [],.i 0]) (aa.eq rfl) ?_;rintro _ rfl
 (dsimp +instances only[Aa,Ab,Ac,Ad,Ae,Af,Ag])
 refine aa.call (agj S d off) ?_;rintro _ ⟨out,rfl,y,B⟩;exact aa.some (.inl ⟨p,out,d,q,rfl,y,B⟩)
theorem R3(h0:0≤off)(h1:off≤300)(h:lA [.l L]=some [.i 0]):aa (nZ [.l L,.s (C own),.i off]) fun g =>
  ∃ out,g=[.l out,.i (own:Int),.i 0]∧out.length=(A own).length∧jD L C A own off out:=by
 refine(R0 S off h0 h1 h (C own)).mono ?_;rintro _ (⟨p,out,q,k,rfl,d,u⟩|⟨d,_⟩)
 ·have := S.inj q ho k
  subst this;exact⟨out,rfl,d,u⟩
 ·exact absurd rfl (d own ho)
end
theorem wa{r:List G}:gy r=0↔eW (gi r 0).int 0 345686399999=true∧eW (gi r 1).int 1 3=true∧pV (gi r 2).str=true∧j6 (gi r 3).str=true∧eW (gi r 4).int 0 99999=true∧eW (gi r 5).int 0 99999=true ∧
  kO (gi r 6).str=true∧kO (gi r 7).str=true:=by
 unfold gy;generalize eW (gi r 0).int 0 345686399999=b1;generalize eW (gi r 1).int 1 3=d;generalize pV (gi r 2).str=g;generalize j6 (gi r 3).str=h;generalize eW (gi r 4).int 0 99999=k;generalize eW (gi r 5).int 0 99999=q;generalize kO (gi r 6).str=u;generalize kO (gi r 7).str=v;cases b1<;>cases d<;>cases g<;>cases h<;>cases k<;>cases q<;>cases u<;>cases v<;>simp
theorem R4:∀{l:List (List G)} {o:Option (List G)},fw o l=0→∀ x∈l,gy x=0
 | [],_,_,_,h=>by cases h
 | y::q,o,h,x,d=>by
  have key:gy y=0∧fw (some y) q=0:=by
   cases o with
   | none =>
    simp only[fw]at h;split at h
    ·contradiction
    ·rename_i h1
     exact⟨by simpa using h1,h⟩
   | some z =>
    simp only[fw]at h;split at h
    ·contradiction
    ·rename_i h1
     split at h
     ·cases h
     ·exact⟨by simpa using h1,h⟩
  rcases bZ.1 d with rfl|d
  ·exact key.1
  ·exact R4 key.2 x d
theorem agk{l:List (List G)}(h:iH l=0):∀ x∈l,gy x=0:=by
 unfold iH at h;split at h
 ·cases h
 ·exact R4 h
theorem R5{c:ByteArray}{L:List (List G)}(h:je c L=0):j6 c=true∧jC c L=false:=by
 unfold je at h;cases h1:j6 c with
 |false=>rw[h1]at h; cases h
 | true =>
  rw[h1]at h;cases d:iH L != 0 with
  | true =>
   rw[d]at h;simp only[Hu,cond_false,cond_true]at h;rw[h]at d;cases d
  | false =>
   rw[d]at h;cases g:jC c L with
   |true=>rw[g]at h; cases h
   |false=>exact⟨rfl,rfl⟩
structure oq (L:List (List G)) (C:Nat→ByteArray) (A:Nat→List (List G)):Prop where
 get:∀ i,i<L.length→L.getD i []=[.s (C i),.l (A i)]
 n:L.length≤4
 fX:∀ i,i<L.length→∀ z∈A i,c9 z
 na:∀ i,i<L.length→(A i).length≤14
 call:∀ i,i<L.length→C i∈calls
 mE:∀ i j,i<j→j<L.length→dD (C i) (C j)<0
 less:∀ i,0<i→i<L.length→(lI (C i).toList (C (i-1)).toList||((C i).toList==(C (i-1)).toList))=false
 fault:∀ i,i<L.length→je (C i) (A i)=0
theorem R6{c:ByteArray}(h:c∈calls):c.size≤100:=by
 have d:calls.all (fun c=>dH c.size 100)=true:=by kernel_rfl
 simpa using cR.1 d c h
section
variable {L:List (List G)} {C:Nat→ByteArray} {A:Nat→List (List G)} (R:oq L C A)
include R
theorem oq.R7{i:Nat}(hi:i<L.length):∀ z∈A i,c9 z∧gy z=0:=fun z d=>⟨R.fX i hi z d,agk (RE (R.fault i hi)) z d⟩
theorem oq.sL:kR L C A:=by
 refine⟨R.get,R.n,fun i hi z g=>?_,R.na,fun i hi=>R6 (R.call i hi),R.mE⟩;obtain⟨h1,k⟩:=R.R7 hi z g;have d:=(wa.1 k).1;unfold eW at d;simp only[ff,aA,decide_eq_true_eq]at d;refine⟨⟨h1.eta,?_,?_⟩,?_⟩
 ·unfold fL; omega
 ·unfold fL; omega
 ·obtain ⟨t, m, b, c, s, h, x, y, rfl, _, _, _, _, _, q, _⟩ := h1
  exact R6 q
theorem agl{i:Nat}(hi:i<L.length):rU [.l [[.i (i:Int)]],.l [[.s (C i),.l (A i)]],.l [[.l L]]]=some [.i 0]:=by
 have k:=R.n;refine aa.toEq ?_;unfold rU
 (dsimp +instances only[Aa,Ab,Ac,Ad,Ae,Af,Ag])
 refine aa.test (fun h=>?_) fun _=>aa.some rfl;rw[dY,decide_eq_true_eq]at h;have e:((i:Int)-1).toNat=i-1:=by omega
 have d:=R.less i (by omega) hi;have g:=R.get (i-1) (by omega);simp only[e,g]
 (dsimp +instances only[Aa,Ab,Ac,Ad,Ae,Af,Ag])
 refine aa.p (aa.p (aa.neg ?_ (aa.some rfl)));exact d
theorem agm{i:Nat}(hi:i<L.length):rV [.l [[.s (C i),.l (A i)]],.l [[.i (i:Int)]],.l [[.s (C i),.l (A i)]],.l [[.l L]]]=some [.i 0]:=by
 have d:=R.fault i hi;obtain⟨h1,g⟩:=R5 d;have h:=RE d;have k:=R.na i hi;refine aa.toEq ?_;unfold rV
 (dsimp +instances only[Aa,Ab,Ac,Ad,Ae,Af,Ag])
 refine aa.cE (zX (R.call i hi)) ?_
 (dsimp +instances only[Aa,Ab,Ac,Ad,Ae,Af,Ag])
 refine aa.neg (by rw[h1]; rfl) ?_;refine aa.cE (agl R hi) ?_;refine aa.neg rfl ?_;refine aa.cE (Gn (A i) (R.fX i hi) (by omega)) ?_
 (dsimp +instances only[Aa,Ab,Ac,Ad,Ae,Af,Ag])
 rw[h];refine aa.neg rfl ?_;refine aa.call (aa.eq (GW (C:=nQ) (c:=C i) (A:=A i) (fun z q=>by
  refine aa.toEq ?_;unfold nQ
  (dsimp +instances only[Aa,Ab,Ac,Ad,Ae,Af,Ag])
  exact aa.some rfl) (A i) (R.fX i hi) (by omega))) ?_
 rintro _ rfl
 (dsimp +instances only[Aa,Ab,Ac,Ad,Ae,Af,Ag])
 exact aa.neg g (aa.some rfl)
theorem R8:∀(k i:Nat),i+k=L.length→aT my [.l L,.l L,.i (L.length:Int),.i (i:Int)] (k+1) fun x _=>x=1
 | 0,i,hi=>by
  refine aT.stop (x:=1) (d':=[]) (aa.toEq ?_) rfl;unfold my
  (dsimp +instances only[Aa,Ab,Ac,Ad,Ae,Af,Ag])
  exact aa.n (aa.some rfl)
 | k+1,i,hi=>by
  have d:=R.n;refine aT.next (d1:=[.l L,.l L,.i (L.length:Int),.i ((i:Int)+1)]) (aa.toEq ?_) (R8 k (i+1) (by omega))
  unfold my
  (dsimp +instances only[Aa,Ab,Ac,Ad,Ae,Af,Ag])
  simp only[a8,R.get i (by omega:i<L.length)];refine aa.p (aa.p ?_);refine aa.cE (agm R (i:=i) (by omega)) ?_;exact aa.neg rfl (aa.p (aa.some rfl))
theorem R9:lA [.l L]=some [.i 0]:=by
 have d:=R.n;refine aa.toEq ?_;unfold lA
 (dsimp +instances only[Aa,Ab,Ac,Ad,Ae,Af,Ag])
 refine aa.n ?_;refine aa.loop ((R8 R L.length 0 (by omega)).to (by omega)) rfl ?_;rintro x g rfl;exact aa.neg rfl (aa.some rfl)
end
/-! ### g order of d -/
theorem Ar(r s:List G):bT r s=i_ (fK (gi r 0).int (gi s 0).int) (i_ (dD (gi r 3).str (gi s 3).str) (i_ (dD (gi r 2).str (gi s 2).str) (fK (gi r 1).int (gi s 1).int))):=rfl
theorem j9(r s:List G):bT s r = - bT r s:=by
 rw[Ar,Ar];exact Gs (n9.flip _ _) (Gs (n_.flip _ _) (Gs (n_.flip _ _) (n9.flip _ _)))
theorem wb(a b d:List G)(h1:bT a b≤0)(g:bT b d≤0):bT a d≤0:=by
 rw[Ar]at *;exact Gq n9 _ _ _ _ _ _ h1 g fun g1 g2=>Gq n_ _ _ _ _ _ _ g1 g2 fun h k=>Gq n_ _ _ _ _ _ _ h k fun m1 m2=>n9.le _ _ _ m1 m2
theorem agn(a b d:List G)(h1:bT a b<0)(g:bT b d<0):bT a d<0:=by
 rw[Ar]at *;exact Gr n9 _ _ _ _ _ _ h1 g fun g1 g2=>Gr n_ _ _ _ _ _ _ g1 g2 fun h k=>Gr n_ _ _ _ _ _ _ h k fun m1 m2=>n9.tr _ _ _ m1 m2
theorem ago:eJ (bE bT) (fun _=>True):=Q0 (fun a b=>j9 a b) wb
theorem G6:∀(q:List (List G)) (y z:List G),bT z y≤0→0≤bT z y→(y::q).Pairwise (fun a b=>bT a b≤0)→(z::cW iZ y q).Pairwise (fun a b=>bT a b<0)
 | [],y,z,_,_,_=>by simp[cW]
 | x::q,y,z,h1,O,u=>by
  obtain⟨v,d⟩:=kW.1 u;obtain⟨U,I⟩:=kW.1 d;have g:=v x cT;have V:=j9 x y;show (z::(bif iZ x y then cW iZ x q else x::cW iZ x q)).Pairwise _
  cases e:iZ x y with
  | true =>
   unfold iZ at e;rw[beq_iff_eq]at e;have J:=j9 z y;have M:=j9 x z;have B:bT z x≤0:=wb _ _ _ h1 g;have a2:bT x z≤0:=wb x y z (by omega) (by omega);have a3:=j9 x z;exact G6 q x z B (by omega) d
  | false =>
   unfold iZ at e;have W:bT x y≠0:=by simpa using e
   have N:bT y x<0:=by omega
   have k:=G6 q x x (by have:=j9 x x; omega) (by have:=j9 x x; omega) d;have h:bT z x<0:=by
    have b1:bT z x≤0:=wb _ _ _ h1 g;have b2:bT z x≠0:=fun e3=>by
     have b3:=j9 z x;have b4:=j9 z y;have:bT x y≤0:=wb x z y (by omega) h1;omega
    omega
   refine kW.2 ⟨fun w hw=>?_,k⟩;rcases bZ.1 hw with rfl|hw
   ·exact h
   ·exact agn _ _ _ h ((kW.1 k).1 w hw)
theorem agp{l:List (List G)}(h:l.Pairwise fun a b=>bT a b≤0):(eV iZ l).Pairwise fun a b=>bT a b<0:=by
 cases l with
 |nil=>exact List.Pairwise.nil
 |cons x q=>exact G6 q x x (by have:=j9 x x; omega) (by have:=j9 x x; omega) h
theorem R_:∀{l:List (List G)} {y:List G},(∀ x∈l,gy x=0)→(y::l).Pairwise (fun a b=>bT a b<0)→fw (some y) l=0
 | [],_,_,_=>rfl
 | x::q,y,h0,h=>by
  obtain⟨h1,d⟩:=kW.1 h;have k:=h1 x cT;simp only[fw];rw[if_neg (by simpa using h0 x cT),if_neg (by omega)];exact R_ (fun z g=>h0 z (cY _ g)) d
theorem agq{l:List (List G)}(h0:∀ x∈l,gy x=0)(h:l.Pairwise (fun a b=>bT a b<0))(g:l.length≤2000):iH l=0:=by
 unfold iH;rw[if_neg (by omega)];cases l with
 |nil=>rfl
 | cons x q =>
  simp only[fw];rw[if_neg (by simpa using h0 x cT)];exact R_ (fun z d=>h0 z (cY _ d)) h
def Good(z:List G):Prop:=c9 z∧gy z=0
theorem R'{L:List (List G)}{C:Nat→ByteArray}{A:Nat→List (List G)}{own:Nat}{off:Int}{g:List (List G)}(u:jD L C A own off g){j:Nat}(y:j<g.length) :
  ∃(d:Int) (w:ByteArray) (v:Int),g.getD j []=[.i (j:Int),.i d,.s w,.i v]∧(d=2→∃ k:Nat,k<L.length∧w=C k)∧(d=3→∃ k i:Nat,k<L.length∧i<(A k).length∧w=C k∧v=(i:Int)):=by
 rcases u j y with h|⟨d,w,v,h,⟨k,i,h1,q,J,B,I,M,N⟩|⟨_,⟨rfl,k,h1,q,_⟩|⟨h1,rfl,rfl⟩⟩⟩
 ·exact⟨6,_,_,h,fun e=>(by omega),fun e=>(by omega)⟩
 ·exact⟨d,w,v,h,fun e=>(by omega),fun _=>⟨k,i,h1,q,B,I⟩⟩
 ·exact⟨2,w,v,h,fun _=>⟨k,h1,q⟩,fun e=>(by omega)⟩
 ·exact⟨d,_,_,h,fun e=>(by omega),fun e=>(by omega)⟩
section
variable {L:List (List G)} {C:Nat→ByteArray} {A:Nat→List (List G)} (R:oq L C A) {own:Nat} (ho:own<L.length) (off:Int)
include R ho
theorem oq.row{j:Nat}(d:j<(A own).length):Good ((A own).getD j []) :=
 R.R7 ho _ (by rw[cr,bO d]; exact mP d)
theorem Sa{k:List (List G)}(N:k.length=(A own).length)(y:jD L C A own off k):∀(d i:Nat) (out:List (List G)),i+d=k.length→out.length≤i→(∀ z∈out,Good z) →
  aT sk [.l out,.l L,.i (own:Int),.l k,.i (k.length:Int),.i (i:Int)] (d+1) fun x g=>x=0∧∃ v,g=[.l v]∧v.length≤k.length∧∀ z∈v,Good z
 | 0,i,out,hi,J,u=>by
  refine aT.stop (x:=0) (aa.toEq ?_) ⟨rfl,out,rfl,by omega,u⟩;unfold sk
  (dsimp +instances only[Aa,Ab,Ac,Ad,Ae,Af,Ag])
  exact aa.n (aa.p (aa.some rfl))
 | d+1,i,out,hi,J,u=>by
  have U:=R.na own ho;obtain⟨V,w,v,O,_,_⟩:=R' y (j:=i) (by omega);have B:=R.row ho (j:=i) (by omega);have step:aa (sk [.l out,.l L,.i (own:Int),.l k,.i (k.length:Int),.i (i:Int)]) fun o=>∃ q,o=(none,[.l q,.l L,.i (own:Int),.l k,.i (k.length:Int),.i ((i:Int)+1)])∧(q=out∨q=out++[(A own).getD i []]):=by
   unfold sk
   (dsimp +instances only[Aa,Ab,Ac,Ad,Ae,Af,Ag])
   simp only[a8,O,R.get own ho]
   (dsimp +instances only[Aa,Ab,Ac,Ad,Ae,Af,Ag])
   simp only[a8,B.1.eta];refine aa.p (aa.p ?_);refine aa.test (fun _=>?_) fun _=>aa.test (fun _=>?_) fun _=>?_
   ·exact aa.p (aa.p (aa.p (aa.p (aa.p (aa.some ⟨_,rfl,.inr rfl⟩)))))
   ·exact aa.p (aa.p (aa.p (aa.p (aa.p (aa.some ⟨_,rfl,.inr rfl⟩)))))
   ·exact aa.p (aa.p (aa.some ⟨_,rfl,.inl rfl⟩))
  obtain⟨o,h,q,rfl,I⟩:=step;refine aT.next h (Sa N y d (i+1) q (by omega) ?_ ?_)
  ·rcases I with rfl | rfl
   ·omega
   ·simp; omega
  ·rcases I with rfl | rfl
   ·exact u
   ·intro z M
    rcases cS.1 M with h|h
    ·exact u z h
    ·rw [wE.1 h]
     exact B
theorem agr(h0:0≤off)(h1:off≤300):aa (sn [.l L,.s (C own),.i off]) fun g=>∃ v,g=[.l v,.i 0]∧v.length≤(A own).length∧∀ z∈v,Good z:=by
 have y:=R.na own ho;unfold sn
 (dsimp +instances only[Aa,Ab,Ac,Ad,Ae,Af,Ag])
 refine aa.call (R3 R.sL ho off h0 h1 (R9 R)) ?_;rintro _ ⟨d,rfl,h,k⟩
 (dsimp +instances only[Aa,Ab,Ac,Ad,Ae,Af,Ag])
 refine aa.neg rfl ?_;refine aa.loop ((Sa R ho off h k d.length 0 [] (by omega) (aG _) (fun z q=>by cases q)).to (by omega)) rfl ?_;rintro _ _ ⟨rfl,v,rfl,B,u⟩
 (dsimp +instances only[Aa,Ab,Ac,Ad,Ae,Af,Ag])
 exact aa.p (aa.some ⟨v,rfl,by omega,u⟩)
def ags(L:List (List G))(own:Nat)(d out:List (List G))(len i:Int)(x:Nat)(g:List G):Prop :=
 (x = 0 ∧ g = [.l out, .l L, .i (own : Int), .l d, .i len, .i i]) ∨
  (x=1∧∃(t m:Int) (b c:ByteArray) (s h:Int) (y z:ByteArray),Good [.i t,.i m,.s b,.s c,.i s,.i h,.s y,.s z]∧g=[.l out,.i t,.i m,.s b,.s c,.i s,.i h,.s y,.s z,.l L,.i (own:Int),.l d,.i len,.i i])
omit ho in
theorem agt{N out:List (List G)}{ci d v len i t m s h:Int}{w b c y z:ByteArray}{f:Bool}(hg:Good [.i t,.i m,.s b,.s c,.i s,.i h,.s y,.s z])(O:d=2→∃ k:Nat,k<L.length∧w=C k)(h3:d=3→∃ k i:Nat,k<L.length∧i<(A k).length∧w=C k∧v=(i:Int)) :
  aa (vN [.l out,.i ci,.i d,.s w,.i v,.i t,.i m,.s b,.s c,.i s,.i h,.s y,.s z,.l L,.i (own:Int),.l N,.i len,.i i,.i d,.t f]) fun o=>∃ x,o.1=some x∧ags L own N out len i x o.2:=by
 unfold vN
 (dsimp +instances only[Aa,Ab,Ac,Ad,Ae,Af,Ag])
 refine aa.test (fun _=>aa.p (aa.some ⟨0,rfl,.inl ⟨rfl,rfl⟩⟩)) fun _=>?_;obtain⟨⟨t',m',b',c',s',h',y',z',e,g,q,u,U,B,V,I,W⟩,hf⟩:=hg;cases e;have J:eW t 0 345686399999=true∧eW m 1 3=true∧pV b=true∧j6 c=true∧eW s 0 99999=true∧eW h 0 99999=true∧kO y=true∧kO z=true:=wa.1 hf;refine aa.test (fun g2=>?_) fun _=>aa.test (fun g3=>?_) fun _=>?_
 ·obtain ⟨k, hk, rfl⟩ := O (by simpa using g2)
  refine aa.p (aa.some ⟨1,rfl,.inr ⟨rfl,_,_,_,_,_,_,_,_,⟨⟨_,_,_,_,_,_,_,_,rfl,g,q,u,U,B,R.call k hk,I,W⟩,?_⟩,rfl⟩⟩);obtain⟨f1,f2,f3,f4,f5,f6,f7,f8⟩:=J;exact wa.2 ⟨f1,f2,f3,(R5 (R.fault k hk)).1,f5,f6,f7,f8⟩
 ·obtain ⟨k, j, hk, hj, rfl, rfl⟩ := h3 (by simpa using g3)
  refine aa.call (Ao R.sL (C k)) ?_;rintro _ ⟨p,bb,rfl,hT,hF⟩
  (dsimp +instances only[Aa,Ab,Ac,Ad,Ae,Af,Ag])
  have hb:bb=true:=by
   cases bb with
   |true=>rfl
   |false=>exact absurd rfl (hF rfl k hk)
  obtain⟨hp,hpe⟩:=hT hb;have:=R.sL.inj hp hk hpe;subst this;obtain⟨hx,M⟩:=R.row hk hj;simp only[a8,R.get p hk]
  (dsimp +instances only[Aa,Ab,Ac,Ad,Ae,Af,Ag])
  refine aa.p (aa.p (aa.p (aa.some ⟨1,rfl,.inr ⟨rfl,_,_,_,_,_,_,_,_,?_,rfl⟩⟩)));obtain⟨t2,m2,b2,c2,s2,O,y2,z2,e2,q1,q2,q3,q4,q5,q6,q7,q8⟩:=hx;rw[e2]at M⊢;have hx2:=wa.1 M;obtain⟨f1,f2,f3,f4,f5,f6,f7,f8⟩:=J;obtain⟨x1,x2,x3,x4,x5,x6,x7,x8⟩:=hx2;exact⟨⟨_,_,_,_,_,_,_,_,rfl,g,q,u,q3,B,V,I,q7⟩,wa.2 ⟨f1,f2,f3,f4,f5,x5,f7,x7⟩⟩
 ·exact aa.p (aa.some ⟨1,rfl,.inr ⟨rfl,_,_,_,_,_,_,_,_,⟨⟨_,_,_,_,_,_,_,_,rfl,g,q,u,U,B,V,I,W⟩,hf⟩,rfl⟩⟩)
theorem Sb{k:List (List G)}(V:k.length=(A own).length)(J:jD L C A own off k):∀(d i:Nat) (out:List (List G)),i+d=k.length→out.length≤i→(∀ z∈out,Good z) →
  aT so [.l out,.l L,.i (own:Int),.l k,.i (k.length:Int),.i (i:Int)] (d+1) fun x g=>x=0∧∃ v,g=[.l v]∧v.length≤k.length∧∀ z∈v,Good z
 | 0,i,out,hi,N,B=>by
  refine aT.stop (x:=0) (aa.toEq ?_) ⟨rfl,out,rfl,by omega,B⟩;unfold so
  (dsimp +instances only[Aa,Ab,Ac,Ad,Ae,Af,Ag])
  exact aa.n (aa.p (aa.some rfl))
 | d+1,i,out,hi,N,B=>by
  have hna:=R.na own ho;obtain⟨kd,w,v,W,h2,h3⟩:=R' J (j:=i) (by omega);have I:=R.row ho (j:=i) (by omega);have step:aa (so [.l out,.l L,.i (own:Int),.l k,.i (k.length:Int),.i (i:Int)]) fun o=>∃ q,o=(none,[.l q,.l L,.i (own:Int),.l k,.i (k.length:Int),.i ((i:Int)+1)])∧(q=out∨∃ z,Good z∧q=out++[z]):=by
   unfold so
   (dsimp +instances only[Aa,Ab,Ac,Ad,Ae,Af,Ag])
   simp only[a8,W,R.get own ho]
   (dsimp +instances only[Aa,Ab,Ac,Ad,Ae,Af,Ag])
   simp only[a8];obtain⟨t,m,b,c,s,h,y,z,e,_⟩:=I.1;rw[e]at I;simp only[e]
   (dsimp +instances only[Aa,Ab,Ac,Ad,Ae,Af,Ag])
   refine aa.p (aa.p (aa.p (aa.p ?_)));refine aa.test (fun _=>?_) fun _=>?_
   all_goals
    refine aa.tail (agt R I h2 h3) (by(first|rfl|assumption|(simp only[aq,sl]<;>omega))) ?_;rintro x g (⟨rfl,rfl⟩|⟨rfl,t',m',b',c',s',h',y',z',O,rfl⟩)
    ·(dsimp +instances only [Aa,Ab,Ac,Ad,Ae,Af,Ag])
     exact aa.pos rfl (aa.p (aa.p (aa.some ⟨out,rfl,.inl rfl⟩)))
    ·(dsimp +instances only [Aa,Ab,Ac,Ad,Ae,Af,Ag])
     refine aa.neg rfl ?_;refine aa.tail (P:=fun x g=>x=0∧g=[.l (out++[[.i t',.i m',.s b',.s c',.i s',.i h',.s y',.s z']]),.l L,.i (own:Int),.l k,.i (k.length:Int),.i (i:Int)]) ?_ (by(first|rfl|assumption|(simp only[aq,sl]<;>omega))) ?_
     ·unfold zI
      (dsimp +instances only[Aa,Ab,Ac,Ad,Ae,Af,Ag])
      exact aa.p (aa.p (aa.some ⟨0,rfl,rfl,rfl⟩))
     ·rintro _ _ ⟨rfl, rfl⟩
      (dsimp +instances only[Aa,Ab,Ac,Ad,Ae,Af,Ag])
      exact aa.p (aa.p (aa.some ⟨_,rfl,.inr ⟨_,O,rfl⟩⟩))
  obtain⟨o,h,q,rfl,M⟩:=step;refine aT.next h (Sb V J d (i+1) q (by omega) ?_ ?_)
  ·rcases M with rfl | ⟨z, _, rfl⟩
   ·omega
   ·simp; omega
  ·rcases M with rfl | ⟨z, U, rfl⟩
   ·exact B
   ·intro u hu
    rcases cS.1 hu with h|h
    ·exact B u h
    ·rw [wE.1 h]
     exact U
omit R ho in
theorem agu:uZ [.int .i64,.int .i64,.str,.str,.int .i64,.int .i64,.str,.str] vL c9 iZ:=⟨fun r s d g=>by
 refine aa.toEq ?_;unfold vL
 (dsimp +instances only[Aa,Ab,Ac,Ad,Ae,Af,Ag])
 simp only[d.eta,g.eta];refine aa.cE (Gm d g) ?_;exact aa.some rfl,fun _ h=>h.eta⟩
theorem agv(h0:0≤off)(h1:off≤300):aa (sq [.l L,.s (C own),.i off]) fun g=>∃ m,g=[.l m,.i 0]∧m.length≤(A own).length∧(∀ z∈m,c9 z)∧iH m=0:=by
 have N:=R.na own ho;unfold sq
 (dsimp +instances only[Aa,Ab,Ac,Ad,Ae,Af,Ag])
 refine aa.call (R3 R.sL ho off h0 h1 (R9 R)) ?_;rintro _ ⟨y,rfl,B,I⟩
 (dsimp +instances only[Aa,Ab,Ac,Ad,Ae,Af,Ag])
 refine aa.neg rfl ?_;refine aa.loop ((Sb R ho off B I y.length 0 [] (by omega) (aG _) (fun z d=>by cases d)).to (by omega)) rfl ?_;rintro _ _ ⟨rfl,v,rfl,O,k⟩
 (dsimp +instances only[Aa,Ab,Ac,Ad,Ae,Af,Ag])
 have q:∀ z∈v,c9 z:=fun z d=>(k z d).1;refine aa.iD (aa.eq (afE v q (by omega))) (by(first|rfl|assumption|(simp only[aq,sl]<;>omega))) ?_;rintro _ rfl
 (dsimp +instances only[Aa,Ab,Ac,Ad,Ae,Af,Ag])
 have h:=LI (lt:=bE bT) k;have u:=uY (bE bT) v;refine aa.iD (P:=fun g=>∃ J,g=[.l (eV iZ (cP (bE bT) v)++J),.i ((eV iZ (cP (bE bT) v)).length:Int)]∧(eV iZ (cP (bE bT) v)++J).length=(cP (bE bT) v).length)
  (LQ (Z:=zC) agu (cP (bE bT) v) (fun z d=>(h z d).1) (by omega)) (by simp only[u]; (first|rfl|assumption|(simp only[aq,sl]<;>omega))) ?_
 rintro _ ⟨J,rfl,M⟩
 (dsimp +instances only[Aa,Ab,Ac,Ad,Ae,Af,Ag])
 have hle:(eV iZ (cP (bE bT) v)).length≤(cP (bE bT) v).length:=LO _ _;simp only[a8,M];refine aa.p (aa.some ⟨eV iZ (cP (bE bT) v),by rw[List.take_left],by omega,fun z d=>(h z (Dh d)).1,?_⟩);refine agq (fun z d=>(h z (Dh d)).2) (agp ?_) (by omega);refine(u_ (lt:=bE bT) ago (l:=v) (fun _ _=>trivial)).imp fun {a b} g=>?_;unfold bE at g;rw[dY,decide_eq_false_iff_not]at g;have:=j9 a b;omega
end
/-! ### h d g -/
def gK(i:Nat):ByteArray:=C4.getD i ⟨#[]⟩
def p6(X:List (List G))(i:Nat):List (List G):=(gi (X.getD i []) 1).rows
theorem agw:∀ i j,i<j→j<4→dD (gK i) (gK j)<0:=by
 have h:((dG 4).all fun j=>(dG j).all fun i=>aj (dD (gK i) (gK j)) 0)=true:=by kernel_rfl
 intro i j d g;have h1:=cR.1 (cR.1 h j (eu.2 g)) i (eu.2 d)
 rwa [dY,decide_eq_true_eq]at h1
theorem agx:∀ i,i<4→gK i∈calls:=by
 have h:((dG 4).all fun i=>n3 calls (gK i))=true:=by kernel_rfl
 exact fun i hi=>zV (cR.1 h i (eu.2 hi))
theorem agy:∀ i,0<i→i<4→(lI (gK i).toList (gK (i-1)).toList||((gK i).toList==(gK (i-1)).toList))=false:=by
 intro i h0 d;have e:∀ a b:ByteArray,(lI a.data.toList b.data.toList||pK a b)=false→(lI a.toList b.toList||(a.toList==b.toList))=false:=fun a b h=>by
  rw[wN,wN];exact h
 have h:((dG 4).all fun i=>ad i 0 || !(lI (gK i).data.toList (gK (i-1)).data.toList||pK (gK i) (gK (i-1))))=true:=by kernel_rfl
 have h1:=cR.1 h i (eu.2 d);refine e _ _ ?_;simp only[Bool.or_eq_true,mM,Ly]at h1;rcases h1 with h1|h1
 ·omega
 ·exact h1
theorem Sc{A B:List (List G)}(h:fm A B)(ac g:ByteArray)(off:Int)(clk ba:Nat):∀(q out:List (List G)),(∀ r∈q,r∈bh 0 (dp A g))→out.length+1000*q.length≤1000000 →
  cD zO (fun d=>(gi d 8).int.toNat) q [.s ac,.l A,.s g,.l B,.l (bh 0 (dp B ac)),.i (clk:Int),.l out,.i off,.i (ba:Int)] =
   some [.s ac,.l A,.s g,.l B,.l (bh 0 (dp B ac)),.i (clk:Int),.l (out++(q.map fun r=>gJ A B ac g off (pZ r)).flatten),.i off,.i (ba:Int)]
 | [],out,_,_=>by simp[cD]
 | r::q,out,k,u=>by
  simp only[cz]at u;obtain⟨j,e,he,rfl⟩:=GQ 0 _ r (k r cT);have v:=(GI.to A g A.length).oe e he;have hk:pZ (gz j e)=e.1:=rfl;have hX:e.2=fU A g e.1:=v.1;have J:=h.jc ac g e.1;have hlen:(gJ A B ac g off e.1).length≤1000:=by
   unfold gJ;rw[dz];exact lG (Rk _ _ _ _ _) J.nX
  have st:zO (gz j e) [.s ac,.l A,.s g,.l B,.l (bh 0 (dp B ac)),.i (clk:Int),.l out,.i off,.i (ba:Int)]=some [.s ac,.l A,.s g,.l B,.l (bh 0 (dp B ac)),.i (clk:Int),.l (out++gJ A B ac g off e.1),.i off,.i (ba:Int)]:=by
   have y:(gi (gi (gz j e) 1).row 0).rows=bF e.2:=rfl;have I:aD [.str,.int .i64] (gi (gz j e) 0).row=dj e.1:=rfl;refine aa.toEq ?_;unfold zO;rw[y,I]
   (dsimp +instances only[Aa,Ab,Ac,Ad,Ae,Af,Ag])
   rw[Ri,hX]
   (dsimp +instances only[Aa,Ab,Ac,Ad,Ae,Af,Ag])
   refine aa.cE (Q_ J off (Q2 _ _ _ _)) ?_
   (dsimp +instances only[Aa,Ab,Ac,Ad,Ae,Af,Ag])
   simp only[a8];exact aa.pos (by
    show ((ad out.length out.length)&&decide (out.length+(gJ A B ac g off e.1).length≤1048576))=true
    rw[oH,oB,decide_eq_true_eq];omega) (aa.pos (by rw[oH]; rfl) (aa.some rfl))
  rw[Rq st rfl,Sc h ac g off clk ba q _ (fun x M=>k x (cY _ M)) (by rw[e9]; omega)];rw[dw,oy,hk,fY]
theorem agz{A B:List (List G)}(h:fm A B)(ac d:ByteArray)(off:Int) :
  F5 [.s ac,.l A,.s d,.l B,.l (bh 0 (dp A d)),.i ((dp A d).length:Int),.l (bh 0 (dp B ac)),.i ((dp B ac).length:Int),.l [],.i off]=some (some 0,[.l (ig A B ac d off)]):=by
 have O:=GI.to A d A.length;have U:=O.len;have na:=h.na;show iC zP zQ (bh 0 (dp A d)) (((dp A d).length:Int).toNat) _=_
 rw[a8];refine L0 (Rp _) fun b p q=>⟨rfl,?_⟩
 have hpn:p.length≤1000:=by
  have:=q.length_eq;rw[sF]at this;have:(dp A d).length≤A.length:=U;omega
 have v:((p.map fun r=>gJ A B ac d off (pZ r)).flatten).Perm (fy A B ac d off):=by
  unfold fy;rw[←GR (fun k=>gJ A B ac d off k) 0 (dp A d)];exact(q.map _).flatten
 have hall:(fy A B ac d off).length≤1000:=by
  have M:((fy A B ac d off).map fun r=>(gi r 0).int.toNat).Nodup:=by
   unfold HL;rw[s8];refine(Ak h ac d off).imp_of_mem fun {x y} g V N he=>N ?_;obtain⟨i,k,rfl,_⟩:=vY h x g;obtain⟨I,k',rfl,_⟩:=vY h y V;have he:((i:Int)).toNat=((I:Int)).toNat:=he;show (i:Int)=(I:Int)
   omega
  have J:((fy A B ac d off).map fun r=>(gi r 0).int.toNat) ⊆ dG A.length:=by
   intro x g;obtain⟨r,u,rfl⟩:=dF.1 g;obtain⟨k,i,j,rfl,h1,_⟩:=Aj h u;rw[eu];exact(lE.1 h1).1
  have:=vZ A.length _ M fun x g=>eu.1 (J g);rw[dz]at this;omega
 refine⟨_,Sc h ac d off (dp B ac).length b p [] (fun r u=>q.mem_iff.1 u) (by simp; omega),?_⟩;rw[jG];refine aa.toEq ?_;unfold zQ
 (dsimp +instances only[Aa,Ab,Ac,Ad,Ae,Af,Ag])
 have W:=v.length_eq;refine aa.iD (aa.eq (Rm h ac d off v (by omega))) (by simp) ?_;rintro _ rfl
 (dsimp +instances only[Aa,Ab,Ac,Ad,Ae,Af,Ag])
 refine aa.pos ?_ (aa.some rfl);rw[W];unfold ig;rw[uY,oH];rfl
theorem agA{A B:List (List G)}(h:fm A B)(ac d:ByteArray)(off:Int):zR [.l [[.s ac,.l A]],.l [[.s d,.l B]],.i off]=some [.l (ig A B ac d off)]:=by
 have na:=h.na;have nb:=h.nb;refine aa.toEq ?_;unfold zR
 (dsimp +instances only[Aa,Ab,Ac,Ad,Ae,Af,Ag])
 refine aa.cE (Ai A (by omega) d) ?_
 (dsimp +instances only[Aa,Ab,Ac,Ad,Ae,Af,Ag])
 refine aa.cE (Ai B (by omega) ac) ?_
 (dsimp +instances only[Aa,Ab,Ac,Ad,Ae,Af,Ag])
 simp only[a8];refine aa.tail (P:=fun u g=>u=0∧g=[.l (ig A B ac d off)]) ⟨_,agz h ac d off,0,rfl,rfl,rfl⟩ (by first|rfl|simp) ?_;rintro _ _ ⟨rfl,rfl⟩
 (dsimp +instances only[Aa,Ab,Ac,Ad,Ae,Af,Ag])
 exact aa.pos (by simp) (aa.some rfl)
section
variable {L:List (List G)} {C:Nat→ByteArray} {A:Nat→List (List G)} (S:kR L C A) {own:Nat} (ho:own<L.length) (off:Int)
include S ho
theorem Sd{len:Nat}(hlen:len=(A own).length):∀(d i:Nat) (ks:List Nat) (seen:List (List G)) (clk:Nat) (out:List (List G)),i+d=len→out.length=i→jD L C A own off out →
  aT sr [G.l L,.i (own:Int),.i off,.l (bf 0 ks),.l (ks.map fun k=>dm (bk A C own off k)),.i ((ks.length:Nat):Int),.l (bf 0 ks),.l (ks.map fun k=>dn (bk A C own off k)),.i ((ks.length:Nat):Int),.l seen,.i (clk:Int),.l out,.l (A own),.i (len:Int),.i (i:Int)] (d+1) fun e g =>
   e=0∧∃(q:List Nat) (out:List (List G)),g=[G.l L,.i (own:Int),.i off,.l (bf 0 q),.l (q.map fun k=>dm (bk A C own off k)),.i ((q.length:Nat):Int),.l (bf 0 q),.l (q.map fun k=>dn (bk A C own off k)),.i ((q.length:Nat):Int),.l out]∧out.length=len∧jD L C A own off out
 | 0,i,ks,seen,clk,out,hi,M,I=>by
  refine aT.stop (x:=0) (aa.toEq ?_) ⟨rfl,ks,out,rfl,by omega,I⟩;unfold sr
  (dsimp +instances only[Aa,Ab,Ac,Ad,Ae,Af,Ag])
  refine aa.n (aa.p (aa.some ?_));simp only[a8]
 | d+1,i,ks,seen,clk,out,hi,M,I=>by
  have O:=S.na own ho;have add:∀ row,v_ L C A own off i row→jD L C A own off (out++[row]):=fun row u j N=>by
   rw[e9,S1]at N;by_cases e:j=i
   ·subst e
    rw[cr,gL (by omega),show j-out.length=0 by omega];exact u
   ·have := I j (by omega)
    rw[cr]at this⊢;rw[cK (by omega)];exact this
  have step:aa (sr [G.l L,.i (own:Int),.i off,.l (bf 0 ks),.l (ks.map fun k=>dm (bk A C own off k)),.i ((ks.length:Nat):Int),.l (bf 0 ks),.l (ks.map fun k=>dn (bk A C own off k)),.i ((ks.length:Nat):Int),.l seen,.i (clk:Int),.l out,.l (A own),.i (len:Int),.i (i:Int)]) fun o =>
    ∃(q:List Nat) (y:List (List G)) (B:Nat) (row:List G),o=(none,[G.l L,.i (own:Int),.i off,.l (bf 0 q),.l (q.map fun k=>dm (bk A C own off k)),.i ((q.length:Nat):Int),.l (bf 0 q),.l (q.map fun k=>dn (bk A C own off k)),.i ((q.length:Nat):Int),.l y,.i (B:Int),.l (out++[row]),.l (A own),.i (len:Int),.i ((i:Int)+1)])∧v_ L C A own off i row:=by
   unfold sr
   (dsimp +instances only[Aa,Ab,Ac,Ad,Ae,Af,Ag])
   simp only[a8];refine aa.p (aa.p ?_);refine aa.test (fun _=>?_) fun _=>?_
   ·exact aa.p (aa.p (aa.p (aa.some ⟨ks,_,_,_,rfl,.inl rfl⟩)))
   ·refine aa.call (RY S ho off (by omega) ks) ?_
    rintro _ ⟨q,row,rfl,u⟩;have J:aD cX row=row:=by
     obtain⟨U,w,v,rfl,_⟩:=u;rfl
    (dsimp +instances only[Aa,Ab,Ac,Ad,Ae,Af,Ag])
    simp only[a8,J];refine aa.test (fun _=>?_) fun _=>?_
    ·exact aa.p (aa.p (aa.p (aa.some ⟨q,_,_,row,rfl,.inr u⟩)))
    ·exact aa.p (aa.p (aa.p (aa.some ⟨q,_,_,row,rfl,.inr u⟩)))
  obtain⟨o,h,q,y,B,row,rfl,u⟩:=step;exact aT.next h (Sd hlen d (i+1) q y B (out++[row]) (by omega) (by simp; omega) (add row u))
theorem agB:aa (zJ [.l L,.i (own:Int),.i off,.l [],.i 0,.l [],.i 0]) fun g=>∃ out,g=[.l [],.l [],.l [],.l out]∧out.length=(A own).length∧jD L C A own off out:=by
 have q:=S.na own ho;have v:=S.n;unfold zJ
 (dsimp +instances only[Aa,Ab,Ac,Ad,Ae,Af,Ag])
 simp only[a8,S.get own ho]
 (dsimp +instances only[Aa,Ab,Ac,Ad,Ae,Af,Ag])
 refine aa.pos rfl (aa.p ?_);have d:=Sd S ho off (len:=(A own).length) rfl (A own).length 0 [] [] 0 [] (by omega) rfl (fun j h=>by cases h);refine aa.loop (d.to (by omega)) rfl ?_;rintro _ _ ⟨rfl,u,out,rfl,h1,k⟩
 (dsimp +instances only[Aa,Ab,Ac,Ad,Ae,Af,Ag])
 exact aa.p (aa.some ⟨out,rfl,h1,k⟩)
end
structure mF (L:List (List G)) (C:Nat→ByteArray) (A:Nat→List (List G)):Prop where
 get:∀ i,i<L.length→L.getD i []=[.s (C i),.l (A i)]
 n:L.length≤4
 fX:∀ i,i<L.length→∀ z∈A i,jb z
 na:∀ i,i<L.length→(A i).length≤14
 call:∀ i,i<L.length→C i∈calls
 mE:∀ i j,i<j→j<L.length→dD (C i) (C j)<0
 less:∀ i,0<i→i<L.length→(lI (C i).toList (C (i-1)).toList||((C i).toList==(C (i-1)).toList))=false
theorem agC{X:List (List G)}{m:Nat}(q:X.length=m)(hm:m≤4)(hX:∀ i,i<m→GV (C4.getD i ⟨#[]⟩) (X.getD i [])):mF X gK (p6 X):=by
 have d:∀ i,i<X.length→X.getD i []=[.s (gK i),.l (p6 X i)]∧(∀ z∈p6 X i,jb z)∧(p6 X i).length≤14:=fun i hi=>by
  obtain⟨L,h1,h,k⟩:=hX i (by omega);have e:p6 X i=L:=by unfold p6; rw[h1]; rfl
  rw[e];exact⟨h1,h,k⟩
 exact⟨fun i hi=>(d i hi).1,by omega,fun i hi=>(d i hi).2.1,fun i hi=>(d i hi).2.2,fun i hi=>agx i (by omega),fun i j g u=>agw i j g (by omega),fun i h0 hi=>agy i h0 (by omega)⟩
theorem agD{c:ByteArray}(k:c∈calls){M:List (List G)}(d:∀ z∈M,c9 z)(h:M.length<100000):zM [.l [[.s c,.l M]]]=some [.i (je c M)]:=by
 refine aa.toEq ?_;unfold zM je
 (dsimp +instances only[Aa,Ab,Ac,Ad,Ae,Af,Ag])
 refine aa.cE (zX k) ?_
 (dsimp +instances only[Aa,Ab,Ac,Ad,Ae,Af,Ag])
 cases j6 c with
 |false=>exact aa.some rfl
 | true =>
  refine aa.neg rfl ?_;refine aa.call (P:=fun g=>g=[.i 0]) (aa.some rfl) ?_;rintro _ rfl;refine aa.neg rfl ?_;refine aa.cE (Gn M d h) ?_
  (dsimp +instances only[Aa,Ab,Ac,Ad,Ae,Af,Ag])
  cases iH M != 0 with
  |true=>exact aa.some rfl
  | false =>
   refine aa.neg rfl ?_;refine aa.call (aa.eq (GW (C:=nQ) (c:=c) (A:=M) (fun z q=>by
    refine aa.toEq ?_;unfold nQ
    (dsimp +instances only[Aa,Ab,Ac,Ad,Ae,Af,Ag])
    exact aa.some rfl) M d h)) ?_
   rintro _ rfl
   (dsimp +instances only[Aa,Ab,Ac,Ad,Ae,Af,Ag])
   cases jC c M<;>exact aa.some rfl
section
variable {L:List (List G)} {C:Nat→ByteArray} {A:Nat→List (List G)} (R:mF L C A)
include R
theorem mF.right(h:∀ i,i<L.length→je (C i) (A i)=0):oq L C A:=⟨R.get,R.n,fun i hi z d=>(R.fX i hi z d).1,R.na,R.call,R.mE,R.less,h⟩
theorem agE{i:Nat}(hi:i<L.length):rU [.l [[.i (i:Int)]],.l [[.s (C i),.l (A i)]],.l [[.l L]]]=some [.i 0]:=by
 have k:=R.n;refine aa.toEq ?_;unfold rU
 (dsimp +instances only[Aa,Ab,Ac,Ad,Ae,Af,Ag])
 refine aa.test (fun h=>?_) fun _=>aa.some rfl;rw[dY,decide_eq_true_eq]at h;have e:((i:Int)-1).toNat=i-1:=by omega
 have d:=R.less i (by omega) hi;have g:=R.get (i-1) (by omega);simp only[e,g]
 (dsimp +instances only[Aa,Ab,Ac,Ad,Ae,Af,Ag])
 refine aa.p (aa.p (aa.neg ?_ (aa.some rfl)));exact d
theorem agF{i:Nat}(hi:i<L.length):rV [.l [[.s (C i),.l (A i)]],.l [[.i (i:Int)]],.l [[.s (C i),.l (A i)]],.l [[.l L]]]=some [.i (je (C i) (A i))]:=by
 have h:=R.na i hi;have d:∀ z∈A i,c9 z:=fun z g=>(R.fX i hi z g).1;refine aa.toEq ?_;unfold rV je
 (dsimp +instances only[Aa,Ab,Ac,Ad,Ae,Af,Ag])
 refine aa.cE (zX (R.call i hi)) ?_
 (dsimp +instances only[Aa,Ab,Ac,Ad,Ae,Af,Ag])
 cases j6 (C i)with
 |false=>exact aa.some rfl
 | true =>
  refine aa.neg rfl ?_;refine aa.cE (agE R hi) ?_;refine aa.neg rfl ?_;refine aa.cE (Gn (A i) d (by omega)) ?_
  (dsimp +instances only[Aa,Ab,Ac,Ad,Ae,Af,Ag])
  cases iH (A i) != 0 with
  |true=>exact aa.some rfl
  | false =>
   refine aa.neg rfl ?_;refine aa.call (aa.eq (GW (C:=nQ) (c:=C i) (A:=A i) (fun z g=>by
    refine aa.toEq ?_;unfold nQ
    (dsimp +instances only[Aa,Ab,Ac,Ad,Ae,Af,Ag])
    exact aa.some rfl) (A i) d (by omega))) ?_
   rintro _ rfl
   (dsimp +instances only[Aa,Ab,Ac,Ad,Ae,Af,Ag])
   cases jC (C i) (A i)<;>exact aa.some rfl
theorem Se:∀(k i:Nat),i+k=L.length→aT my [.l L,.l L,.i (L.length:Int),.i (i:Int)] (k+1) fun x g=>(x=0∧∃ e:Int,g=[.i e]∧e≠0)∨x=1∧∀ j,i≤j→j<L.length→je (C j) (A j)=0
 | 0,i,hi=>by
  refine aT.stop (x:=1) (d':=[]) (aa.toEq ?_) (.inr ⟨rfl,fun j h1 d=>by omega⟩);unfold my
  (dsimp +instances only[Aa,Ab,Ac,Ad,Ae,Af,Ag])
  exact aa.n (aa.some rfl)
 | k+1,i,hi=>by
  have y:=R.n;have q:=Se k (i+1) (by omega);have step:aa (my [.l L,.l L,.i (L.length:Int),.i (i:Int)]) fun o=>(o=(some 0,[.i (je (C i) (A i))])∧je (C i) (A i)≠0)∨o=(none,[.l L,.l L,.i (L.length:Int),.i ((i:Int)+1)])∧je (C i) (A i)=0:=by
   unfold my
   (dsimp +instances only[Aa,Ab,Ac,Ad,Ae,Af,Ag])
   simp only[a8,R.get i (by omega:i<L.length)];refine aa.p (aa.p ?_);refine aa.cE (agF R (i:=i) (by omega)) ?_
   (dsimp +instances only[Aa,Ab,Ac,Ad,Ae,Af,Ag])
   exact aa.test (fun h=>aa.some (.inl ⟨rfl,by simpa using h⟩)) fun h=>aa.p (aa.some (.inr ⟨rfl,by simpa using h⟩))
  obtain⟨o,h,⟨rfl,he⟩|⟨rfl,he⟩⟩:=step
  ·exact aT.stop h (.inl ⟨rfl,_,rfl,he⟩)
  ·refine aT.next h (q.mono ?_)
   rintro x g (d|⟨rfl,d⟩)
   ·exact .inl d
   ·refine .inr ⟨rfl, fun j B u => ?_⟩
    by_cases v:j=i
    ·rw[v]; exact he
    ·exact d j (by omega) u
theorem Sf:aa (lA [.l L]) fun g=>∃ e:Int,g=[.i e]∧(e=0→oq L C A):=by
 have d:=R.n;unfold lA
 (dsimp +instances only[Aa,Ab,Ac,Ad,Ae,Af,Ag])
 refine aa.n ?_;refine aa.loop ((Se R L.length 0 (by omega)).to (by omega)) rfl ?_;rintro x g (⟨rfl,e,rfl,he⟩|⟨rfl,h⟩)
 ·exact aa.pos rfl (aa.some ⟨e,rfl,fun h=>absurd h he⟩)
 ·exact aa.neg rfl (aa.some ⟨0,rfl,fun _=>R.right fun i hi=>h i (eh _) hi⟩)
end
def As(g:List G):Prop:=∃(v:List (List G)) (e:Int),g=[.l v,.i e]∧v.length≤1000
section
variable {L:List (List G)} {C:Nat→ByteArray} {A:Nat→List (List G)}
theorem agG(S:kR L C A)(off:Int)(h0:0≤off)(h1:off≤300)(h:lA [.l L]=some [.i 0])(s:ByteArray):aa (vO [.l L,.s s,.i off]) fun g=>∃(v:List (List G)) (n e:Int),g=[.l v,.i n,.i e]∧v.length≤1000:=by
 unfold vO
 (dsimp +instances only[Aa,Ab,Ac,Ad,Ae,Af,Ag])
 refine aa.cE h ?_;refine aa.neg rfl ?_;refine aa.call (P:=fun g=>g=[.i 0]) ?_ ?_
 ·unfold rW
  (dsimp +instances only[Aa,Ab,Ac,Ad,Ae,Af,Ag])
  refine aa.cE (sw off 0 3600000) ?_;refine aa.neg ?_ (aa.some rfl);show (!(bl 0 off&&bl off 3600000))=false
  rw[ff,ff,decide_eq_true h0,decide_eq_true (by omega:off≤3600000)];rfl
 rintro _ rfl;refine aa.neg rfl ?_;refine aa.call (Ao S s) ?_;rintro _ ⟨p,b,rfl,k,y⟩
 (dsimp +instances only[Aa,Ab,Ac,Ad,Ae,Af,Ag])
 refine aa.test (fun hb=>aa.some ⟨[],0,8,rfl,by simp⟩) fun hb=>?_;obtain⟨d,q⟩:=k (by simpa using hb);have u:=S.na p d;refine aa.call (P:=fun g=>g=[.l L,.i (p:Int),.i off,.l [],.i 0,.l [],.i 0]) (aa.eq rfl) ?_;rintro _ rfl
 (dsimp +instances only[Aa,Ab,Ac,Ad,Ae,Af,Ag])
 refine aa.call (agB S d off) ?_;rintro _ ⟨out,rfl,B,I⟩
 (dsimp +instances only[Aa,Ab,Ac,Ad,Ae,Af,Ag])
 exact aa.p (aa.some ⟨out,_,_,rfl,by omega⟩)
theorem agH(R:mF L C A)(s:ByteArray):aa (zK [.l L,.s s,.i 60]) As:=by
 unfold zK
 (dsimp +instances only[Aa,Ab,Ac,Ad,Ae,Af,Ag])
 obtain⟨_,d,e,rfl,he⟩:=Sf R;refine aa.call (P:=fun g=>∃(v:List (List G)) (n e:Int),g=[.l v,.i n,.i e]∧v.length≤1000) ?_ ?_
 ·by_cases h : e = 0
  ·subst h
   exact agG (he rfl).sL 60 (by omega) (by omega) d s
  ·unfold vO
   (dsimp +instances only[Aa,Ab,Ac,Ad,Ae,Af,Ag])
   refine aa.cE d ?_
   (dsimp +instances only[Aa,Ab,Ac,Ad,Ae,Af,Ag])
   exact aa.pos (by simpa using h) (aa.some ⟨[],0,e,rfl,by simp⟩)
 ·rintro _ ⟨v, n, e, rfl, k⟩
  (dsimp +instances only[Aa,Ab,Ac,Ad,Ae,Af,Ag])
  exact aa.p (aa.some ⟨v,e,rfl,k⟩)
theorem Sg(R:mF L C A)(s:ByteArray):(∃ e:Int,e≠0∧nZ [.l L,.s s,.i 60]=some [.l [],.i 0,.i e])∨(oq L C A∧∃ own,own<L.length∧C own=s):=by
 obtain⟨_,d,e,rfl,he⟩:=Sf R;by_cases h:e=0
 ·subst h
  have k:=he rfl;obtain⟨g,q,⟨own,out,ho,u,_⟩|⟨v,rfl⟩⟩:=R0 k.sL 60 (by omega) (by omega) d s
  ·exact .inr ⟨k,own,ho,u⟩
  ·exact .inl ⟨8,by decide,q⟩
 ·refine .inl ⟨e, h, aa.toEq ?_⟩
  unfold nZ
  (dsimp +instances only[Aa,Ab,Ac,Ad,Ae,Af,Ag])
  refine aa.cE d ?_
  (dsimp +instances only[Aa,Ab,Ac,Ad,Ae,Af,Ag])
  exact aa.pos (by simpa using h) (aa.some rfl)
theorem agI(R:mF L C A)(s:ByteArray):aa (sn [.l L,.s s,.i 60]) As:=by
 rcases Sg R s with⟨e,he,g⟩|⟨d,own,ho,rfl⟩
 ·unfold sn
  (dsimp +instances only[Aa,Ab,Ac,Ad,Ae,Af,Ag])
  refine aa.cE g ?_
  (dsimp +instances only[Aa,Ab,Ac,Ad,Ae,Af,Ag])
  exact aa.pos (by simpa using he) (aa.some ⟨[],e,rfl,by simp⟩)
 ·refine (agr d ho 60 (by omega) (by omega)).mono ?_
  rintro _ ⟨v,rfl,h,_⟩;have:=d.na own ho;exact⟨v,0,rfl,by omega⟩
theorem agJ(R:mF L C A)(s:ByteArray):aa (sq [.l L,.s s,.i 60]) As:=by
 rcases Sg R s with⟨e,he,g⟩|⟨d,own,ho,rfl⟩
 ·unfold sq
  (dsimp +instances only[Aa,Ab,Ac,Ad,Ae,Af,Ag])
  refine aa.cE g ?_
  (dsimp +instances only[Aa,Ab,Ac,Ad,Ae,Af,Ag])
  exact aa.pos (by simpa using he) (aa.some ⟨[],e,rfl,by simp⟩)
 ·refine (agv d ho 60 (by omega) (by omega)).mono ?_
  rintro _ ⟨v,rfl,h,_⟩;have:=d.na own ho;exact⟨v,0,rfl,by omega⟩
theorem agK{a b:ByteArray}(ha:a∈calls)(hb:b∈calls){U V:List (List G)}(d:∀ z∈U,c9 z)(k:∀ z∈V,c9 z)(q:U.length<100000)(u:V.length<100000):aa (zN [.l [[.s a,.l U]],.l [[.s b,.l V]],.i 60]) fun g=>∃ e:Int,g=[.i e]:=by
 unfold zN
 (dsimp +instances only[Aa,Ab,Ac,Ad,Ae,Af,Ag])
 have key:aT vQ [.s a,.l U,.s b,.l V,.i 60,.l [[.s a,.l U],[.s b,.l V]],.i 2,.i 0] 3 fun x g=>(x=0∧∃ e:Int,g=[.i e])∨x=1∧g=[.s a,.l U,.s b,.l V,.i 60]:=by
  have round:∀(i:Int) (c:ByteArray) (W:List (List G)),c∈calls→(∀ z∈W,c9 z)→W.length<100000→0≤i→i<2→([[.s a,.l U],[.s b,.l V]]:List (List G)).getD i.toNat []=[.s c,.l W] →
    aa (vQ [.s a,.l U,.s b,.l V,.i 60,.l [[.s a,.l U],[.s b,.l V]],.i 2,.i i]) fun o=>(∃ e:Int,o=(some 0,[.i e]))∨o=(none,[.s a,.l U,.s b,.l V,.i 60,.l [[.s a,.l U],[.s b,.l V]],.i 2,.i (i+1)]):=fun i c W v y B i0 i2 hi=>by
   unfold vQ
   (dsimp +instances only[Aa,Ab,Ac,Ad,Ae,Af,Ag])
   simp only[hi];refine aa.p (aa.p ?_);refine aa.cE (agD v y B) ?_
   (dsimp +instances only[Aa,Ab,Ac,Ad,Ae,Af,Ag])
   exact aa.test (fun _=>aa.some (.inl ⟨_,rfl⟩)) fun _=>aa.p (aa.some (.inr rfl))
  obtain⟨o,h,⟨e,rfl⟩|rfl⟩:=round 0 a U ha d q (by omega) (by omega) rfl
  ·exact aT.stop h (.inl ⟨rfl,e,rfl⟩)
  refine aT.next h ?_
  obtain⟨o,h,⟨e,rfl⟩|rfl⟩:=round 1 b V hb k u (by omega) (by omega) rfl
  ·exact aT.stop h (.inl ⟨rfl,e,rfl⟩)
  refine aT.next h ?_
  exact aT.stop (x:=1) (d':=[.s a,.l U,.s b,.l V,.i 60]) rfl (.inr ⟨rfl,rfl⟩)
 refine aa.loop (key.to (by omega)) rfl ?_;rintro x g (⟨rfl,e,rfl⟩|⟨rfl,rfl⟩)
 ·exact aa.pos rfl (aa.some ⟨e,rfl⟩)
 (dsimp +instances only[Aa,Ab,Ac,Ad,Ae,Af,Ag])
 refine aa.neg rfl (aa.test (fun _=>aa.some ⟨6,rfl⟩) fun _=>?_);refine aa.call (P:=fun g=>g=[.i 0]) ⟨_,by kernel_rfl,rfl⟩ ?_;rintro _ rfl;exact aa.some ⟨0,rfl⟩
theorem agL(R:mF L C A)(h:1<L.length):aa (zT [.l [[.s (C 0),.l (A 0)]],.l [[.s (C 1),.l (A 1)]],.i 60]) As:=by
 have k:=R.na 0 (by omega);have q:=R.na 1 (by omega);have g:fm (A 0) (A 1):=⟨fun z d=>⟨(R.fX 0 (by omega) z d).1.eta,by have:=(R.fX 0 (by omega) z d).2; unfold fL; omega,by have:=(R.fX 0 (by omega) z d).2; unfold fL; omega⟩,fun z d=>⟨(R.fX 1 (by omega) z d).1.eta,by have:=(R.fX 1 (by omega) z d).2; unfold fL; omega,by have:=(R.fX 1 (by omega) z d).2; unfold fL; omega⟩,by omega,by omega⟩
 unfold zT
 (dsimp +instances only[Aa,Ab,Ac,Ad,Ae,Af,Ag])
 refine aa.call (agK (U:=A 0) (V:=A 1) (R.call 0 (by omega)) (R.call 1 (by omega)) (fun z d=>(R.fX 0 (by omega) z d).1) (fun z d=>(R.fX 1 (by omega) z d).1) (by omega) (by omega)) ?_;rintro _ ⟨e,rfl⟩
 (dsimp +instances only[Aa,Ab,Ac,Ad,Ae,Af,Ag])
 refine aa.test (fun _=>aa.some ⟨[],e,rfl,by simp⟩) fun _=>?_;refine aa.cE (agA g (C 0) (C 1) 60) ?_
 (dsimp +instances only[Aa,Ab,Ac,Ad,Ae,Af,Ag])
 have:=Rt g (C 0) (C 1) 60;exact aa.pos (by simp) (aa.some ⟨_,0,rfl,by omega⟩)
end
/-! ### g is handed back is d -/
theorem Si(rows:List (List G))(h:rows.length≤1000):aa (pU [.l rows]) fun _=>True:=by
 unfold pU
 (dsimp +instances only[Aa,Ab,Ac,Ad,Ae,Af,Ag])
 refine aa.loop (P:=fun _ _=>True) (((uV (σ:=List (List G)) (fun s i=>[.l s,.i 0,.i 0,.s (⟨#[]⟩:ByteArray),.s (⟨#[]⟩:ByteArray),.i 0,.i 0,.s (⟨#[]⟩:ByteArray),.s (⟨#[]⟩:ByteArray),.i (rows.length:Int),.i (i:Int)]) rows.length (fun s=>(0,[.l s])) (fun s _=>s.length=rows.length) (fun _ _=>False) ?_ ?_ rows.length rows 0 (by omega) rfl).to (by omega)).mono fun _ _ _=>trivial) (by simp) ?_
 ·rintro s i d hi
  unfold zD
  (dsimp +instances only[Aa,Ab,Ac,Ad,Ae,Af,Ag])
  simp only[a8,cF];exact aa.p (aa.pos (by simp only[sl]; omega) (aa.pos (by simp; omega) (aa.p (aa.pos (by simp) (aa.some (.inl ⟨_,rfl,by rw[j_,d]⟩))))))
 ·rintro s _
  unfold zD
  (dsimp +instances only[Aa,Ab,Ac,Ad,Ae,Af,Ag])
  exact aa.n (aa.some rfl)
 ·intro c g _
  exact aa.some trivial
theorem agM(rows:List (List G))(h:rows.length≤1000):aa (vP [.l rows]) fun _=>True:=by
 unfold vP
 (dsimp +instances only[Aa,Ab,Ac,Ad,Ae,Af,Ag])
 refine aa.loop (P:=fun _ _=>True) (((uV (σ:=List (List G)) (fun s i=>[.l s,.i 0,.i 0,.s (⟨#[]⟩:ByteArray),.i 0,.i (rows.length:Int),.i (i:Int)]) rows.length (fun s=>(0,[.l s])) (fun s _=>s.length=rows.length) (fun _ _=>False) ?_ ?_ rows.length rows 0 (by omega) rfl).to (by omega)).mono fun _ _ _=>trivial) (by simp) ?_
 ·rintro s i d hi
  unfold zL
  (dsimp +instances only[Aa,Ab,Ac,Ad,Ae,Af,Ag])
  simp only[a8,cF];exact aa.p (aa.pos (by simp only[sl]; omega) (aa.pos (by simp; omega) (aa.p (aa.pos (by simp) (aa.some (.inl ⟨_,rfl,by rw[j_,d]⟩))))))
 ·rintro s _
  unfold zL
  (dsimp +instances only[Aa,Ab,Ac,Ad,Ae,Af,Ag])
  exact aa.n (aa.some rfl)
 ·intro c g _
  exact aa.some trivial
theorem agN(rows:List (List G))(h:rows.length≤1000):aa (vR [.l rows]) fun _=>True:=by
 unfold vR
 (dsimp +instances only[Aa,Ab,Ac,Ad,Ae,Af,Ag])
 refine aa.loop (P:=fun _ _=>True) (((uV (σ:=List (List G)) (fun s i=>[.l s,.i 0,.i 0,.i (rows.length:Int),.i (i:Int)]) rows.length (fun s=>(0,[.l s])) (fun s _=>s.length=rows.length) (fun _ _=>False) ?_ ?_ rows.length rows 0 (by omega) rfl).to (by omega)).mono fun _ _ _=>trivial) (by simp) ?_
 ·rintro s i d hi
  unfold zU
  (dsimp +instances only[Aa,Ab,Ac,Ad,Ae,Af,Ag])
  simp only[a8,cF];exact aa.p (aa.pos (by simp only[sl]; omega) (aa.pos (by simp; omega) (aa.p (aa.pos (by simp) (aa.some (.inl ⟨_,rfl,by rw[j_,d]⟩))))))
 ·rintro s _
  unfold zU
  (dsimp +instances only[Aa,Ab,Ac,Ad,Ae,Af,Ag])
  exact aa.n (aa.some rfl)
 ·intro c g _
  exact aa.some trivial
section
variable {L:List (List G)} {C:Nat→ByteArray} {A:Nat→List (List G)} (R:mF L C A)
include R
theorem Sj(Y:List (List G))(s:ByteArray)(cs:List (List G))(i:Int)(hi:cs.getD i.toNat []=[.s s])(i0:0≤i)(i2:i<2)(k:cs.length=2):su [.l L,.l Y,.l cs,.i 2,.i i]=some (none,[.l L,.l Y,.l cs,.i 2,.i (i+1)]):=by
 refine aa.toEq ?_;unfold su
 (dsimp +instances only[Aa,Ab,Ac,Ad,Ae,Af,Ag])
 simp only[hi]
 (dsimp +instances only[Aa,Ab,Ac,Ad,Ae,Af,Ag])
 refine aa.p (aa.p ?_);refine aa.call (agI R s) ?_;rintro _ ⟨v,e,rfl,h⟩
 (dsimp +instances only[Aa,Ab,Ac,Ad,Ae,Af,Ag])
 refine aa.iD (Si v h) (by first|rfl|(first|rfl|assumption|(simp only[aq,sl]<;>omega))|simp) ?_;rintro _ -;refine aa.call (agJ R s) ?_;rintro _ ⟨v2,q,rfl,d⟩
 (dsimp +instances only[Aa,Ab,Ac,Ad,Ae,Af,Ag])
 refine aa.iD (Si v2 d) (by first|rfl|(first|rfl|assumption|(simp only[aq,sl]<;>omega))|simp) ?_;rintro _ -;refine aa.call (agH R s) ?_;rintro _ ⟨v3,u,rfl,g⟩
 (dsimp +instances only[Aa,Ab,Ac,Ad,Ae,Af,Ag])
 refine aa.iD (agM v3 g) (by first|rfl|(first|rfl|assumption|(simp only[aq,sl]<;>omega))|simp) ?_;rintro _ -;exact aa.p (aa.some rfl)
theorem Sk:∀(k i:Nat),i+k=L.length→aT vS [.l L,.l L,.i (L.length:Int),.i (i:Int)] (k+1) fun x _=>x=1
 | 0,i,hi=>by
  refine aT.stop (x:=1) (d':=[]) (aa.toEq ?_) rfl;unfold vS
  (dsimp +instances only[Aa,Ab,Ac,Ad,Ae,Af,Ag])
  exact aa.n (aa.some rfl)
 | k+1,i,hi=>by
  have u:=R.n;have d:i<L.length:=by omega
  have q:=R.na i d;refine aT.next (d1:=[.l L,.l L,.i (L.length:Int),.i ((i:Int)+1)]) (aa.toEq ?_) (Sk k (i+1) (by omega))
  unfold vS
  (dsimp +instances only[Aa,Ab,Ac,Ad,Ae,Af,Ag])
  simp only[a8,R.get i d];refine aa.p (aa.p (aa.p ?_));refine aa.call (P:=fun g=>g=[.t true]) ?_ ?_
  ·unfold Gc
   (dsimp +instances only[Aa,Ab,Ac,Ad,Ae,Af,Ag])
   refine aa.pos (by rw[beq_self_eq_true]) ?_;refine aa.cE (afG (A i) (fun z h=>(R.fX i d z h).1) (by omega)) ?_;exact aa.some rfl
  ·rintro _ rfl
   exact aa.neg rfl (aa.p (aa.some rfl))
theorem Sl:vT [.l L,.l L]=some [.t true]:=by
 have d:=R.n;refine aa.toEq ?_;unfold vT
 (dsimp +instances only[Aa,Ab,Ac,Ad,Ae,Af,Ag])
 refine aa.neg (by simp) ?_;refine aa.loop ((Sk R L.length 0 (by omega)).to (by omega)) rfl ?_;rintro x g rfl;exact aa.neg rfl (aa.some rfl)
end
theorem agO(rows:List (List G)):Gh [.l rows]=some [.t true]:=by
 refine aa.toEq ?_;unfold Gh
 (dsimp +instances only[Aa,Ab,Ac,Ad,Ae,Af,Ag])
 obtain⟨_,k,p,X,m,rfl,p0,p1,m0,m1,u,hX⟩:=af5 rows;refine aa.cE k ?_;refine aa.cE k ?_
 (dsimp +instances only[Aa,Ab,Ac,Ad,Ae,Af,Ag])
 have R:=agC u m1 hX;generalize gK=I at R;generalize p6 X=J at R;have key:∀ cs:List (List G),cs=[[.s ⟨#[107,49,97,98]⟩],[.s ⟨#[111,104,50,97,98,99]⟩]]→aT su [.l X,.l X,.l cs,.i 2,.i 0] 3 fun x g=>x=0∧g=[.l X,.l X]:=fun cs d=>by
  refine aT.next (Sj R X ⟨#[107,49,97,98]⟩ cs 0 (by rw[d]; rfl) (by omega) (by omega) (by rw[d]; rfl)) ?_
  refine aT.next (Sj R X ⟨#[111,104,50,97,98,99]⟩ cs 1 (by rw[d]; rfl) (by omega) (by omega) (by rw[d]; rfl)) ?_
  refine aT.stop (x:=0) (d':=[.l X,.l X]) (aa.toEq ?_) ⟨rfl,rfl⟩;unfold su
  (dsimp +instances only[Aa,Ab,Ac,Ad,Ae,Af,Ag])
  exact aa.neg rfl (aa.some rfl)
 refine aa.loop ((key _ rfl).to (by omega)) rfl ?_;rintro _ _ ⟨rfl,rfl⟩
 (dsimp +instances only[Aa,Ab,Ac,Ad,Ae,Af,Ag])
 have q:∀{Q:List G→Prop},Q [.t true]→aa (aB (vl []) fun g4=>some [.t (gi g4 0).bool]) Q:=fun h=>⟨_,rfl,h⟩
 refine aa.test (fun y=>?_) fun _=>?_
 ·rw [dY, decide_eq_true_eq] at y
  simp only[R.get 0 (by omega),R.get 1 (by omega)];refine aa.p (aa.p ?_);refine aa.call (agL R (by omega)) ?_;rintro _ ⟨v,e,rfl,B⟩
  (dsimp +instances only[Aa,Ab,Ac,Ad,Ae,Af,Ag])
  refine aa.iD (agN v B) (by first|rfl|(first|rfl|assumption|(simp only[aq,sl]<;>omega))|simp) ?_;rintro _ -;refine aa.cE (Sl R) ?_;exact aa.pos rfl (q rfl)
 ·refine aa.call (aa.eq (Sl R)) ?_
  rintro _ rfl;exact aa.pos rfl (q rfl)
end
end Go.Proofs.iE
