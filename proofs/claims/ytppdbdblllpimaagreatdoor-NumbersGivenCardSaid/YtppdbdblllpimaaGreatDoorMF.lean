/-
 What is proved here: what the methods of the stream give on data. No condition.
-/
import Derived.Test.YtppdbdblllpimaaGreatDoorML4
import Derived.Test.YtppdbdblllpimaaGreatDoorME
import Derived.Test.YtppdbdblllpimaaGreatDoorMI
set_option linter.all false
open Bool renaming and_true→dU,and_eq_true→ay,true_and→jj,or_eq_true→jC,false_or→gJ,eq_iff_iff→g_,and_self→mM
open Go.ByteArray renaming toList_eq→zI
open Go.Lib renaming compareBytes→fN
open Int renaming toNat_natCast→aH,tmod→zH,tdiv→DS,tmod_lt_of_pos→ake,tmod_eq_emod_of_nonneg→akf,mul_nonneg→akg
open List renaming length_cons→cF,all_eq_true→ep,getElem?_eq_getElem→bA,getD_eq_getElem?_getD→cG,mem_cons→bC,map_cons→dK,cons_append→nO,length_take→fZ,length_append→eY,append_nil→gH,mem_cons_self→cJ,mem_cons_of_mem→bS,any_eq_true→mJ,mem_singleton→iz,length_nil→gK,drop_eq_getElem_cons→Kx,not_mem_nil→jD,any_cons→tb,nodup_append→zJ,getElem?_take_of_lt→aki,length_reverse→akl,reverse_cons→akm,drop_length→DT,filter_append→po
open Nat renaming le_refl→aI,zero_add→dJ,beq→ab,ble→db,ble_eq→zA,lt_succ_of_lt→mN
open UInt8 renaming le_antisymm→KH,not_lt→ta,lt_irrefl→UQ,lt_trans→akh
namespace Go.Proofs.gT
open Go Go.AL Go.Proofs
noncomputable section
theorem JB(x n:Int)(h0:1≤n)(h1:n≤1099511627776):aa (uR [.i x,.i n]) fun g=>∃ v,g=[.i v]∧0≤v∧v<n:=by
 unfold uR
 (dsimp +instances only[Aa,Ab,Ac,Ad,Ae,Af,Ag])
 have d:=ake x (by omega:0<n);have k:=Int.lt_tmod_of_pos x (by omega:0<n)
 (repeat first|refine aa.p ?_|refine aa.n ?_)
 refine aa.test (fun h=>?_) fun h=>?_
 ·simp only [dG, decide_eq_true_eq] at h
  (repeat first|refine aa.p ?_|refine aa.n ?_)
  exact aa.some ⟨_,rfl,by omega,by omega⟩
 ·simp only [dG, decide_eq_false_iff_not] at h
  exact aa.some ⟨_,rfl,by omega,by omega⟩
theorem vp(l:List (List G))(a n:Int)(d:0≤a)(M:a≤1000000)(h0:1≤n)(h1:n≤1099511627776) :
  aa (oJ [.l l,.i a,.i n]) fun g=>∃ v,g=[.l l,.i (a+1),.i v]∧0≤v∧v<n:=by
 unfold oJ
 (dsimp +instances only[Aa,Ab,Ac,Ad,Ae,Af,Ag])
 have F:a+1-1=a:=by omega
 simp only[F];by_cases N:l.length=0
 ·(repeat first|refine aa.p ?_|refine aa.n ?_)
  refine aa.call (JB _ n h0 h1) ?_;rintro _ ⟨v,rfl,k,A⟩
  (dsimp +instances only[Aa,Ab,Ac,Ad,Ae,Af,Ag])
  exact aa.some ⟨v,rfl,k,A⟩
 ·have I : (0 : Int) < (l.length : Int) := by omega
  have d0:0≤DS a l.length:=Int.tdiv_nonneg d (by omega);have d1:DS a l.length≤a:=by
   rw[Int.tdiv_eq_ediv_of_nonneg d];exact Int.ediv_le_self _ d
  have m0:0≤zH a l.length:=by
   rw[akf d];exact Int.emod_nonneg _ (by omega)
  have m1:zH a l.length<l.length:=ake a I;have m2:zH a l.length≤a:=by
   rw[akf d];have:=Int.mul_ediv_add_emod a l.length;have B:0≤(l.length:Int)*(a / l.length):=akg (by omega) (Int.ediv_nonneg d (by omega));omega
  generalize O:DS a l.length=q at *;generalize hr:zH a l.length=r at *;have p0:0≤q*(7919+r):=akg d0 (by omega);have p1:q*(7919+r)≤1000000*2000000:=Int.mul_le_mul (by omega) (by omega) (by omega) (by omega);generalize R:q*(7919+r)=z at *
  (repeat first|refine aa.p ?_|refine aa.n ?_)
  refine aa.call (JB _ 1073741824 (by omega) (by omega)) ?_;rintro _ ⟨u,rfl,k,A⟩
  (dsimp +instances only[Aa,Ab,Ac,Ad,Ae,Af,Ag])
  (repeat first|refine aa.p ?_|refine aa.n ?_)
  refine aa.call (JB _ n h0 h1) ?_;rintro _ ⟨v,rfl,B,J⟩
  (dsimp +instances only[Aa,Ab,Ac,Ad,Ae,Af,Ag])
  exact aa.some ⟨v,rfl,B,J⟩
theorem yQ(l:List (List G))(a lo hi:Int)(k:0≤a)(d:a≤1000000)(h0:lo≤hi)(h1 : -1000000000≤lo)(q:hi≤1000000000) :
  aa (qo [.l l,.i a,.i lo,.i hi]) fun g=>∃ v,g=[.l l,.i (a+1),.i v]∧lo≤v∧v≤hi:=by
 unfold qo
 (dsimp +instances only[Aa,Ab,Ac,Ad,Ae,Af,Ag])
 (repeat first|refine aa.p ?_|refine aa.n ?_)
 refine aa.call (vp l a _ k d (by omega) (by omega)) ?_;rintro _ ⟨v,rfl,A,B⟩
 (dsimp +instances only[Aa,Ab,Ac,Ad,Ae,Af,Ag])
 (repeat first|refine aa.p ?_|refine aa.n ?_)
 exact aa.some ⟨_,rfl,by omega,by omega⟩
theorem SM{l:List (List G)}{v:Int}(h0:0≤v)(h1:v<l.length):l.getD v.toNat []∈l:=by
 have:v.toNat<l.length:=by omega
 rw[cG,bA this];exact List.getElem_mem this
theorem JC(P:Int→Prop)(l:List (List G))(a:Int)(xs:List (List G))(k:0≤a)(d:a≤1000000)(h0:1≤xs.length)(h1:xs.length≤1000000)(q:∀ x∈xs,P (gi x 0).int) :
  aa (mu [.l l,.i a,.l xs]) fun g=>∃ v,g=[.l l,.i (a+1),.i v]∧P v:=by
 unfold mu
 (dsimp +instances only[Aa,Ab,Ac,Ad,Ae,Af,Ag])
 refine aa.call (vp l a _ k d (by omega) (by omega)) ?_;rintro _ ⟨v,rfl,A,B⟩
 (dsimp +instances only[Aa,Ab,Ac,Ad,Ae,Af,Ag])
 (repeat first|refine aa.p ?_|refine aa.n ?_)
 exact aa.some ⟨_,rfl,q _ (SM A B)⟩
theorem ahb(P:ByteArray→Prop)(l:List (List G))(a:Int)(xs:List (List G))(k:0≤a)(d:a≤1000000)(h0:1≤xs.length)(h1:xs.length≤1000000)(q:∀ x∈xs,P (gi x 0).str) :
  aa (iu [.l l,.i a,.l xs]) fun g=>∃ v,g=[.l l,.i (a+1),.s v]∧P v:=by
 unfold iu
 (dsimp +instances only[Aa,Ab,Ac,Ad,Ae,Af,Ag])
 refine aa.call (vp l a _ k d (by omega) (by omega)) ?_;rintro _ ⟨v,rfl,A,B⟩
 (dsimp +instances only[Aa,Ab,Ac,Ad,Ae,Af,Ag])
 (repeat first|refine aa.p ?_|refine aa.n ?_)
 exact aa.some ⟨_,rfl,q _ (SM A B)⟩
theorem C9(l:List (List G))(a n:Int)(k:0≤a)(d:a≤1000000)(h0:1≤n)(h1:n≤1000000) :
  aa (r8 [.l l,.i a,.i n]) fun g=>∃ b,g=[.l l,.i (a+1),.t b]:=by
 unfold r8
 (dsimp +instances only[Aa,Ab,Ac,Ad,Ae,Af,Ag])
 refine aa.call (vp l a _ k d (by omega) (by omega)) ?_;rintro _ ⟨v,rfl,q,A⟩;exact aa.some ⟨_,rfl⟩
theorem qv(l:List (List G))(a lo hi:Int)(B:0≤a)(I:a≤900000)(h0:lo≤hi)(h1 : -1000000000≤lo)(F:hi≤1000000000) :
  aa (mv [.l l,.i a,.i lo,.i hi]) fun g=>∃ v,g=[.l l,.i (a+2),.i v] ∧ -1099511627776≤v∧(v≤1000000001∨v=1099511627776):=by
 unfold mv
 (dsimp +instances only[Aa,Ab,Ac,Ad,Ae,Af,Ag])
 have d:a+1+1=a+2:=by omega
 refine aa.call (C9 l a 12 B (by omega) (by omega) (by omega)) ?_;rintro _ ⟨b,rfl⟩
 (dsimp +instances only[Aa,Ab,Ac,Ad,Ae,Af,Ag])
 cases b with
 | true =>
  (repeat first|refine aa.p ?_|refine aa.n ?_)
  refine aa.call (JC (fun v => -1099511627776≤v∧(v≤1000000001∨v=1099511627776)) l (a+1) _ (by omega) (by omega) (by simp) (by simp) ?_) ?_
  ·intro x k
   simp only[bC,jD,or_false]at k;rcases k with rfl|rfl|rfl|rfl|rfl|rfl<;>(dsimp +instances only[Aa,Ab,Ac,Ad,Ae,Af,Ag])<;>omega
  ·rintro _ ⟨v, rfl, q, A⟩
   (dsimp +instances only[Aa,Ab,Ac,Ad,Ae,Af,Ag])
   exact aa.some ⟨v,by rw[d],q,A⟩
 | false =>
  (repeat first|refine aa.p ?_|refine aa.n ?_)
  refine aa.call (yQ l (a+1) lo hi (by omega) (by omega) h0 h1 F) ?_;rintro _ ⟨v,rfl,q,A⟩
  (dsimp +instances only[Aa,Ab,Ac,Ad,Ae,Af,Ag])
  exact aa.some ⟨v,by rw[d],by omega,by omega⟩
def oO(L:List ByteArray)(s:ByteArray):Bool:=L.any fun x=>uN x s
theorem ahc{L:List ByteArray}{s:ByteArray}(h:oO L s=true):s∈L:=by
 obtain⟨x,d,he⟩:=mJ.1 h;exact OJ he▸d
theorem yR(lo hi:Int)(l:List (List G))(a:Int)(xs:List (List G))(k:0≤a)(d:a≤1000000)(h0:(db 1 xs.length&&db xs.length 1000000)=true) (q:(xs.all fun x=>bM lo (gi x 0).int&&bM (gi x 0).int hi)=true) :
  aa (mu [.l l,.i a,.l xs]) fun g=>∃ v,g=[.l l,.i (a+1),.i v]∧lo≤v∧v≤hi:=by
 simp only[ay,zA]at h0;refine JC (fun v=>lo≤v∧v≤hi) l a xs k d h0.1 h0.2 fun x A=>?_;have:=ep.1 q x A;simpa only[eD,ay,decide_eq_true_eq]using this
theorem jW(L:List ByteArray)(l:List (List G))(a:Int)(xs:List (List G))(k:0≤a)(d:a≤1000000)(h0:(db 1 xs.length&&db xs.length 1000000)=true) (q:(xs.all fun x=>oO L (gi x 0).str)=true) :
  aa (iu [.l l,.i a,.l xs]) fun g=>∃ v,g=[.l l,.i (a+1),.s v]∧v∈L:=by
 simp only[ay,zA]at h0;exact ahb (fun v=>v∈L) l a xs k d h0.1 h0.2 fun x A=>ahc (ep.1 q x A)
def calls:List ByteArray:=[⟨#[]⟩,⟨#[107,49]⟩,⟨#[75,49,65,66]⟩,⟨#[107,49,97,98,47]⟩,⟨#[49,97]⟩,⟨#[107,49,97,98,47,109,109,47,112]⟩,⟨#[107,49,97,98]⟩,⟨#[107,49,97,97]⟩,⟨#[107,49,97,98,47,52]⟩,
 ⟨#[111,104,50,97,98,99]⟩,⟨#[111,104,50,97,98,100]⟩,⟨#[119,49,97,119]⟩,⟨#[110,49,109,109]⟩,⟨#[103,51,120,121,122,47,112]⟩]
def jy:List ByteArray:=[⟨#[]⟩,⟨#[66]⟩,⟨#[98,50,48]⟩,⟨#[98,52,48]⟩]
def names:List ByteArray:=[⟨#[]⟩,⟨#[65]⟩,⟨#[49]⟩,⟨#[102,105,110]⟩,⟨#[117,115,97]⟩]
def small(n:Int):Prop := -2000000000000≤n∧n≤2000000000000
def iL(r:List G):Prop:=∃(t m:Int) (b c:ByteArray) (s h:Int) (x y:ByteArray),r=[.i t,.i m,.s b,.s c,.i s,.i h,.s x,.s y]∧small t∧small m∧small s∧small h∧b∈jy∧c∈calls∧x∈names∧y∈names
def tight(n:Int):Prop := -1900000000000≤n∧n≤1900000000000
def sB(n:Int):Prop := -1900000000000≤n∧(n≤345000000000∨(345686399999<n∧n≤1900000000000))
def JD(r:List G):Prop:=∃(t m:Int) (b c:ByteArray) (s h:Int) (x y:ByteArray),r=[.i t,.i m,.s b,.s c,.i s,.i h,.s x,.s y]∧sB t∧tight m∧tight s∧tight h∧b∈jy∧c∈calls∧x∈names∧y∈names
theorem tight.to{n:Int}(h:tight n):small n:=⟨by have:=h.1; omega,by have:=h.2; omega⟩
theorem sB.to{n:Int}(h:sB n):small n:=by
 unfold sB at h;exact⟨by omega,by omega⟩
theorem JD.to{r:List G}(h:JD r):iL r:=by
 obtain⟨t,m,b,c,s,h,x,y,e,h1,d,g,k,q⟩:=h;exact⟨t,m,b,c,s,h,x,y,e,h1.to,d.to,g.to,k.to,q⟩
theorem iL.eta{r:List G}(h:iL r):aR [.int .i64,.int .i64,.str,.str,.int .i64,.int .i64,.str,.str] r=r:=by
 obtain⟨t,m,b,c,s,h,x,y,rfl,_⟩:=h;rfl
theorem ahd(l:List (List G))(a:Int)(k:0≤a)(q:a≤900000):aa (B2 [.l l,.i a]) fun g=>∃ v,g=[.l l,.i (a+2),.s v]∧v∈calls:=by
 unfold B2
 (dsimp +instances only[Aa,Ab,Ac,Ad,Ae,Af,Ag])
 have d:a+1+1=a+2:=by omega
 refine aa.call (C9 l a 60 k (by omega) (by omega) (by omega)) ?_;rintro _ ⟨b,rfl⟩
 (dsimp +instances only[Aa,Ab,Ac,Ad,Ae,Af,Ag])
 cases b with
 | true =>
  (repeat first|refine aa.p ?_|refine aa.n ?_)
  refine aa.call (jW calls l (a+1) _ (by omega) (by omega) (by kernel_rfl) (by kernel_rfl)) ?_;rintro _ ⟨v,rfl,h⟩;exact aa.some ⟨v,by(dsimp +instances only[Aa,Ab,Ac,Ad,Ae,Af,Ag]); rw[d],h⟩
 | false =>
  (repeat first|refine aa.p ?_|refine aa.n ?_)
  refine aa.call (jW calls l (a+1) _ (by omega) (by omega) (by kernel_rfl) (by kernel_rfl)) ?_;rintro _ ⟨v,rfl,h⟩;exact aa.some ⟨v,by(dsimp +instances only[Aa,Ab,Ac,Ad,Ae,Af,Ag]); rw[d],h⟩
theorem ahe(l:List (List G))(a t:Int)(R:0≤a)(ha1:a≤800000)(d:sB t) :
  aa (B3 [.l l,.i a,.i t]) fun g=>∃ b r,g=[.l l,.i b,.l [r]]∧a≤b∧b≤a+20∧JD r:=by
 unfold sB at d;unfold B3
 (dsimp +instances only[Aa,Ab,Ac,Ad,Ae,Af,Ag])
 refine aa.call (yR 1 3 l a _ R (by omega) (by kernel_rfl) (by kernel_rfl)) ?_;rintro _ ⟨m,rfl,hm⟩
 (dsimp +instances only[Aa,Ab,Ac,Ad,Ae,Af,Ag])
 refine aa.call (jW jy l _ _ (by omega) (by omega) (by kernel_rfl) (by kernel_rfl)) ?_;rintro _ ⟨bd,rfl,q⟩
 (dsimp +instances only[Aa,Ab,Ac,Ad,Ae,Af,Ag])
 refine aa.call (ahd l _ (by omega) (by omega)) ?_;rintro _ ⟨c,rfl,hc⟩
 (dsimp +instances only[Aa,Ab,Ac,Ad,Ae,Af,Ag])
 refine aa.call (yR 0 7 l _ _ (by omega) (by omega) (by kernel_rfl) (by kernel_rfl)) ?_;rintro _ ⟨s,rfl,hs⟩
 (dsimp +instances only[Aa,Ab,Ac,Ad,Ae,Af,Ag])
 refine aa.call (yR 0 9 l _ _ (by omega) (by omega) (by kernel_rfl) (by kernel_rfl)) ?_;rintro _ ⟨h,rfl,hh⟩
 (dsimp +instances only[Aa,Ab,Ac,Ad,Ae,Af,Ag])
 refine aa.call (jW names l _ _ (by omega) (by omega) (by kernel_rfl) (by kernel_rfl)) ?_;rintro _ ⟨x,rfl,A⟩
 (dsimp +instances only[Aa,Ab,Ac,Ad,Ae,Af,Ag])
 refine aa.call (jW names l _ _ (by omega) (by omega) (by kernel_rfl) (by kernel_rfl)) ?_;rintro _ ⟨y,rfl,B⟩
 (dsimp +instances only[Aa,Ab,Ac,Ad,Ae,Af,Ag])
 refine aa.call (C9 l _ 100 (by omega) (by omega) (by omega) (by omega)) ?_;rintro _ ⟨f,rfl⟩
 (dsimp +instances only[Aa,Ab,Ac,Ad,Ae,Af,Ag])
 cases f with
 | false =>
  (repeat first|refine aa.p ?_|refine aa.n ?_)
  exact aa.some ⟨_,_,rfl,by omega,by omega,t,m,bd,c,s,h,x,y,rfl,d,⟨by omega,by omega⟩,⟨by omega,by omega⟩,⟨by omega,by omega⟩,q,hc,A,B⟩
 | true =>
  (repeat first|refine aa.p ?_|refine aa.n ?_)
  refine aa.call (vp l _ 4 (by omega) (by omega) (by omega) (by omega)) ?_;rintro _ ⟨k,rfl,hk⟩
  (dsimp +instances only[Aa,Ab,Ac,Ad,Ae,Af,Ag])
  by_cases F:k=0
  ·subst F
   (repeat first|refine aa.p ?_|refine aa.n ?_)
   refine aa.call (qv l _ 0 500 (by omega) (by omega) (by omega) (by omega) (by omega)) ?_;rintro _ ⟨t',rfl,ht'⟩
   (dsimp +instances only[Aa,Ab,Ac,Ad,Ae,Af,Ag])
   refine aa.call (qv l _ 1 3 (by omega) (by omega) (by omega) (by omega) (by omega)) ?_;rintro _ ⟨m',rfl,hm'⟩
   (dsimp +instances only[Aa,Ab,Ac,Ad,Ae,Af,Ag])
   exact aa.some ⟨_,_,rfl,by omega,by omega,t',m',bd,c,s,h,x,y,rfl,⟨by omega,by omega⟩,⟨by omega,by omega⟩,⟨by omega,by omega⟩,⟨by omega,by omega⟩,q,hc,A,B⟩
  ·refine aa.neg (by simpa using F) ?_
   by_cases I:k=1
   ·subst I
    (repeat first|refine aa.p ?_|refine aa.n ?_)
    refine aa.call (jW jy l _ _ (by omega) (by omega) (by kernel_rfl) (by kernel_rfl)) ?_;rintro _ ⟨U,rfl,M⟩
    (dsimp +instances only[Aa,Ab,Ac,Ad,Ae,Af,Ag])
    exact aa.some ⟨_,_,rfl,by omega,by omega,t,m,U,c,s,h,x,y,rfl,d,⟨by omega,by omega⟩,⟨by omega,by omega⟩,⟨by omega,by omega⟩,M,hc,A,B⟩
   ·refine aa.neg (by simpa using I) ?_
    by_cases J:k=2
    ·subst J
     (repeat first|refine aa.p ?_|refine aa.n ?_)
     refine aa.call (qv l _ 0 99999 (by omega) (by omega) (by omega) (by omega) (by omega)) ?_;rintro _ ⟨s',rfl,hs'⟩
     (dsimp +instances only[Aa,Ab,Ac,Ad,Ae,Af,Ag])
     refine aa.call (qv l _ 0 99999 (by omega) (by omega) (by omega) (by omega) (by omega)) ?_;rintro _ ⟨h',rfl,hh'⟩
     (dsimp +instances only[Aa,Ab,Ac,Ad,Ae,Af,Ag])
     exact aa.some ⟨_,_,rfl,by omega,by omega,t,m,bd,c,s',h',x,y,rfl,d,⟨by omega,by omega⟩,⟨by omega,by omega⟩,⟨by omega,by omega⟩,q,hc,A,B⟩
    ·refine aa.neg (by simpa using J) ?_
     refine aa.call (jW names l _ _ (by omega) (by omega) (by kernel_rfl) (by kernel_rfl)) ?_;rintro _ ⟨W,rfl,N⟩
     (dsimp +instances only[Aa,Ab,Ac,Ad,Ae,Af,Ag])
     refine aa.call (jW names l _ _ (by omega) (by omega) (by kernel_rfl) (by kernel_rfl)) ?_;rintro _ ⟨Y,rfl,O⟩
     (dsimp +instances only[Aa,Ab,Ac,Ad,Ae,Af,Ag])
     exact aa.some ⟨_,_,rfl,by omega,by omega,t,m,bd,c,s,h,W,Y,rfl,d,⟨by omega,by omega⟩,⟨by omega,by omega⟩,⟨by omega,by omega⟩,q,hc,N,O⟩
def d_(a b:Int):Int:=if a<b then -1 else if b<a then 1 else 0
theorem SN:∀{a b:List UInt8},fN a b=0→a=b
 | [],[],_=>rfl
 | [],_::_,h=>by simp[fN]at h
 |_::_,[],h=>by simp[fN]at h
 | x::a,y::b,h=>by
  unfold fN at h;split at h
  ·cases h
  ·split at h
   ·cases h
   ·rename_i h1 d
    rw[SN h,KH (ta.1 d) (ta.1 h1)]
theorem SO:∀ a:List UInt8,fN a a=0
 | []=>rfl
 |x::a=>by simp[fN,SO a]
theorem sC(a b:ByteArray):(a.toList==b.toList)=decide (di a b=0):=by
 rw[zI,zI,g_,decide_eq_true_eq,beq_iff_eq];constructor
 ·intro h
  unfold di;rw[h];exact SO _
 ·exact fun h=>SN h
def yS(a b c d:Int):Int:=if a≠0 then a else if b≠0 then b else if c≠0 then c else d
def eH(r s:List G):Int:=yS (d_ (gi r 0).int (gi s 0).int) (di (gi r 3).str (gi s 3).str) (di (gi r 2).str (gi s 2).str) (d_ (gi r 1).int (gi s 1).int)
theorem sign_eq(a b:Int):nC [.i (a-b)]=some [.i (d_ a b)]:=by
 refine aa.toEq ?_;unfold nC d_
 (dsimp +instances only[Aa,Ab,Ac,Ad,Ae,Af,Ag])
 by_cases h1:a<b
 ·(repeat first|refine aa.p ?_|refine aa.n ?_)
  exact aa.some (by simp[h1])
 ·by_cases d : b < a
  ·(repeat first|refine aa.p ?_|refine aa.n ?_)
   exact aa.some (by simp[h1,d])
  ·(repeat first|refine aa.p ?_|refine aa.n ?_)
   exact aa.some (by simp[h1,d])
theorem SP{r s:List G}(hr:iL r)(hs:iL s):yt [.l [r],.l [s]]=some [.i (eH r s)]:=by
 obtain⟨t,m,b,c,_,_,_,_,rfl,I,hm,_⟩:=hr;obtain⟨t',m',d,g,_,_,_,_,rfl,B,F,_⟩:=hs;unfold small at *;refine aa.toEq ?_;unfold yt eH yS
 (dsimp +instances only[Aa,Ab,Ac,Ad,Ae,Af,Ag])
 simp only[sC];by_cases A:t=t'
 ·subst A
  have z:d_ t t=0:=by simp[d_]
  simp only[z]
  (repeat first|refine aa.p ?_|refine aa.n ?_)
  by_cases k:di c g=0
  ·simp only [k]
   (repeat first|refine aa.p ?_|refine aa.n ?_)
   by_cases q:di b d=0
   ·simp only [q]
    (repeat first|refine aa.p ?_|refine aa.n ?_)
    refine aa.cE (sign_eq m m') ?_
    (dsimp +instances only[Aa,Ab,Ac,Ad,Ae,Af,Ag])
    exact aa.some (by simp)
   ·refine aa.pos (by simpa using q) (aa.call (aa.eq (rfl : ir [.s b, .s d] = some [.i (di b d)])) ?_)
    rintro _ rfl
    (dsimp +instances only[Aa,Ab,Ac,Ad,Ae,Af,Ag])
    exact aa.some (by simp[q])
  ·refine aa.pos (by simpa using k) (aa.call (aa.eq (rfl : ir [.s c, .s g] = some [.i (di c g)])) ?_)
   rintro _ rfl
   (dsimp +instances only[Aa,Ab,Ac,Ad,Ae,Af,Ag])
   exact aa.some (by simp[k])
 ·(repeat first|refine aa.p ?_|refine aa.n ?_)
  refine aa.cE (sign_eq t t') ?_
  (dsimp +instances only[Aa,Ab,Ac,Ad,Ae,Af,Ag])
  have z:d_ t t'≠0:=by
   unfold d_;split
   ·omega
   ·split<;>omega
  exact aa.some (by simp[z])
theorem yT(a b:Int):qt [.i a,.i b]=some [.i (d_ a b)]:=by
 refine aa.toEq ?_;unfold qt B_ d_
 (dsimp +instances only[Aa,Ab,Ac,Ad,Ae,Af,Ag])
 simp only[bne_self_eq_false];refine aa.call ⟨_,rfl,rfl⟩ ?_;rintro _ rfl;refine aa.call ⟨_,rfl,rfl⟩ ?_;rintro _ rfl
 (dsimp +instances only[Aa,Ab,Ac,Ad,Ae,Af,Ag])
 (repeat first|refine aa.p ?_|refine aa.n ?_)
 by_cases h1:a<b
 ·(repeat first|refine aa.p ?_|refine aa.n ?_)
  exact aa.some (by simp[h1])
 ·by_cases d : b < a
  ·(repeat first|refine aa.p ?_|refine aa.n ?_)
   exact aa.some (by simp[h1,d])
  ·(repeat first|refine aa.p ?_|refine aa.n ?_)
   exact aa.some (by simp[h1,d])
def lE:List (List G)→Int
 | []=>0
 |x::q=>if (gi x 0).int≠0 then (gi x 0).int else lE q
theorem C_:∀(q p:List (List G)),p.length+q.length<100000 →
  cD uW [.i 0,.l (p++q),.i ((p.length+q.length:Nat):Int),.i (p.length:Int)] (q.length+1) fun c g=>c≤1∧g=[.i (lE q)]
 | [],p,d=>by
  refine cD.stop (x:=1) (aa.toEq ?_) ⟨by omega,rfl⟩;unfold uW
  (dsimp +instances only[Aa,Ab,Ac,Ad,Ae,Af,Ag])
  (repeat first|refine aa.p ?_|refine aa.n ?_)
  exact aa.some rfl
 | y::q,p,d=>by
  simp only[cF]at d;have g1:(p++y::q).getD (p.length:Int).toNat []=y:=kD _ _ _ _ _ (by simp);have hlen:(p++y::q).length=p.length+q.length+1:=by simp; omega
  by_cases he:(gi y 0).int=0
  ·have k := C_ q (p ++ [y]) (by simp; omega)
   have e:lE (y::q)=lE q:=by simp[lE,he]
   rw[e];refine cD.next (aa.toEq ?_) k
   unfold uW
   (dsimp +instances only[Aa,Ab,Ac,Ad,Ae,Af,Ag])
   simp only[g1,hlen,cF]
   (repeat first|refine aa.p ?_|refine aa.n ?_)
   refine aa.some ?_;simp;omega
  ·refine cD.stop (x := 0) (aa.toEq ?_) ⟨by omega, rfl⟩
   unfold uW
   (dsimp +instances only[Aa,Ab,Ac,Ad,Ae,Af,Ag])
   simp only[g1,hlen,cF]
   (repeat first|refine aa.p ?_|refine aa.n ?_)
   refine aa.some ?_;simp[lE,he]
theorem or_eq(a b c d:Int):nE [.l [[.i a],[.i b],[.i c],[.i d]]]=some [.i (yS a b c d)]:=by
 refine aa.toEq ?_;unfold nE
 (dsimp +instances only[Aa,Ab,Ac,Ad,Ae,Af,Ag])
 have h:=C_ [[.i a],[.i b],[.i c],[.i d]] [] (by simp);refine aa.loop (h.to (by simp)) (by(first|rfl|assumption|(simp only[aw,sl]<;>omega))) ?_;rintro x g ⟨B,rfl⟩;have e:lE [[.i a],[.i b],[.i c],[.i d]]=yS a b c d:=by
  simp only[lE,yS]
  (dsimp +instances only[Aa,Ab,Ac,Ad,Ae,Af,Ag])
  by_cases h1:a=0<;>by_cases k:b=0<;>by_cases q:c=0<;>by_cases A:d=0<;>simp[h1,k,q,A]
 rw[e]
 (dsimp +instances only[Aa,Ab,Ac,Ad,Ae,Af,Ag])
 exact aa.test (fun _=>aa.some rfl) fun _=>aa.some rfl
theorem ahf{r s:List G}(hr:iL r)(hs:iL s):r_ [.l [r],.l [s]]=some [.i (eH r s)]:=by
 obtain⟨t,m,b,c,_,_,_,_,rfl,A,hm,_⟩:=hr;obtain⟨t',m',d,g,_,_,_,_,rfl,k,q,_⟩:=hs;refine aa.toEq ?_;unfold r_
 (dsimp +instances only[Aa,Ab,Ac,Ad,Ae,Af,Ag])
 refine aa.cE (yT t t') ?_;refine aa.cE (rfl:ir [.s c,.s g]=some [.i (di c g)]) ?_;refine aa.cE (rfl:ir [.s b,.s d]=some [.i (di b d)]) ?_;refine aa.cE (yT m m') ?_
 (dsimp +instances only[Aa,Ab,Ac,Ad,Ae,Af,Ag])
 refine aa.cE (or_eq _ _ _ _) ?_;exact aa.some rfl
theorem ahg:ly [.int .i64,.int .i64,.str,.str,.int .i64,.int .i64,.str,.str] r_ iL eH:=⟨fun _ _ hr hs=>ahf hr hs,fun _ h=>h.eta⟩
def cq(v lo hi:Int):Bool:=bM lo v&&bM v hi
theorem JE(v lo hi:Int):lD [.i v,.i lo,.i hi]=some [.t (cq v lo hi)]:=by
 unfold lD cq
 (dsimp +instances only[Aa,Ab,Ac,Ad,Ae,Af,Ag])
 cases bM lo v<;>rfl
theorem oP(v lo hi:Int):mw [.i v,.i lo,.i hi]=some [.t (!cq v lo hi)]:=by
 unfold mw cq
 (dsimp +instances only[Aa,Ab,Ac,Ad,Ae,Af,Ag])
 have h1:aB v lo = !bM lo v:=by rw[dG,eD,g_]; simp
 have d:aB hi v = !bM v hi:=by rw[dG,eD,g_]; simp
 rw[h1,d];cases bM lo v<;>cases bM v hi<;>rfl
def jX(s:ByteArray):Bool:=oO [⟨#[98,50,48]⟩,⟨#[98,52,48]⟩,⟨#[102,105,110]⟩,⟨#[117,115,97]⟩] s
def vq(s:ByteArray):Bool:=oO [⟨#[]⟩] s||jX s
def vr(s:ByteArray):Bool:=(gi ((B6 [.s s]).getD []) 0).bool
theorem SQ{s:ByteArray}(h:s∈jy∨s∈names):qs [.s s]=some [.t (jX s)]:=by
 simp only[jy,names,bC,jD,or_false]at h;rcases h with(rfl|rfl|rfl|rfl)|(rfl|rfl|rfl|rfl|rfl)<;>kernel_rfl
theorem C'{s:ByteArray}(h:s∈jy∨s∈names):oN [.s s]=some [.t (jX s)]:=by
 simp only[jy,names,bC,jD,or_false]at h;rcases h with(rfl|rfl|rfl|rfl)|(rfl|rfl|rfl|rfl|rfl)<;>kernel_rfl
theorem SR{s:ByteArray}(h:s∈names):B7 [.s s]=some [.t (vq s)]:=by
 simp only[names,bC,jD,or_false]at h;rcases h with(rfl|rfl|rfl|rfl|rfl)<;>kernel_rfl
theorem ahh{s:ByteArray}(h:s∈calls):B6 [.s s]=some [.t (vr s)]:=by
 simp only[calls,bC,jD,or_false]at h;rcases h with(rfl|rfl|rfl|rfl|rfl|rfl|rfl|rfl|rfl|rfl|rfl|rfl|rfl|rfl)<;>kernel_rfl
theorem ahi{s:ByteArray}(h:s∈calls):Iv [.s s]=some [.t (vr s)]:=by
 simp only[calls,bC,jD,or_false]at h;rcases h with(rfl|rfl|rfl|rfl|rfl|rfl|rfl|rfl|rfl|rfl|rfl|rfl|rfl|rfl)<;>kernel_rfl
def jY(r:List G):Int :=
 bif !cq (gi r 0).int 0 345686399999 then 1 else bif !cq (gi r 1).int 1 3 then 4 else bif !jX (gi r 2).str then 5 else bif !vr (gi r 3).str then 3 else
 bif !cq (gi r 4).int 0 99999 then 1 else bif !cq (gi r 5).int 0 99999 then 1 else bif !vq (gi r 6).str then 5 else bif !vq (gi r 7).str then 5 else 0
theorem ahj{r:List G}(hr:iL r):uV [.l [r]]=some [.i (jY r)]:=by
 obtain⟨t,m,b,c,s,h,x,y,rfl,_,_,_,_,d,hc,g,k⟩:=hr;unfold uV r9 Hw jY
 (dsimp +instances only[Aa,Ab,Ac,Ad,Ae,Af,Ag])
 have q:=SQ (.inl d);have A:=SR g;have ky:=SR k;have B:=ahh hc;rw[oP t,oP m];rw[q,B,oP s,oP h,A,ky];generalize cq t 0 345686399999=b1;generalize cq m 1 3=F;generalize jX b=I;generalize vr c=J;generalize cq s 0 99999=M;generalize cq h 0 99999=N;generalize vq x=O;generalize vq y=R;cases b1<;>cases F<;>cases I<;>cases J<;>cases M<;>cases N<;>cases O<;>cases R<;>rfl
theorem empty_eq(s:ByteArray):(s.toList==(⟨#[]⟩:ByteArray).toList)=oO [⟨#[]⟩] s:=by
 rw[zI,zI];simp only[oO,uN,tb,List.any_nil,Bool.or_false];rw[g_];simp only[beq_iff_eq];exact eq_comm
theorem ahk{r:List G}(hr:iL r):yj [.l [r]]=some [.i (jY r)]:=by
 obtain⟨t,m,b,c,s,h,x,y,rfl,_,_,_,_,k,hc,q,A⟩:=hr;unfold yj sk jY vq
 (dsimp +instances only[Aa,Ab,Ac,Ad,Ae,Af,Ag])
 have B:=C' (.inl k);have F:=C' (.inr q);have ky:=C' (.inr A);have I:=ahi hc;have ex:=empty_eq x;have d:=empty_eq y;generalize (⟨#[]⟩:ByteArray)=z at ex d⊢;simp only[JE,xl rfl,B,I,F,ky]
 (dsimp +instances only[Aa,Ab,Ac,Ad,Ae,Af,Ag])
 rw[ex,d];generalize cq t 0 345686399999=b1;generalize cq m 1 3=J;generalize jX b=M;generalize vr c=N;generalize cq s 0 99999=O;generalize cq h 0 99999=R;generalize jX x=U;generalize jX y=W;generalize oO [z] x=Y;generalize oO [z] y=g;cases b1<;>cases J<;>cases M<;>cases N<;>cases O<;>cases R<;>cases U<;>cases W<;>cases Y<;>cases g<;>rfl
section
variable {C D:List G→Option (List G)} (hC:∀ r,iL r→C [.l [r]]=some [.i (jY r)]) (hD:∀ r s,iL r→iL s→D [.l [r],.l [s]]=some [.i (eH r s)])
include hC hD
end
end
end Go.Proofs.gT

namespace Go.Proofs.gT
open Go Go.AL Go.Proofs
noncomputable section
def qw:List (List G)→Bool
 | []=>false
 | [_]=>false
 |x::y::q=>eH x y==0||qw (y::q)
def akO(m:List (List G)):List G:=bif qw m then [.l [],.i 13] else bif Nat.blt 2000 m.length then [.l [],.i 2] else [.l m,.i 0]
end
end Go.Proofs.gT

namespace Go.Proofs.gT
open Go Go.AL Go.Proofs
noncomputable section
structure akP (s:List (List G) × List (List G)) (i:Nat):Prop where
 l1:s.1.length≤i
 l2:s.2.length≤i
 r1:∀ r∈s.1,∃ a b,r=[.i a,.i b]∧0≤b∧b≤i+1
 r2:∀ r∈s.2,∃ a,r=[.i a]
def vt(r:List G):Prop:=∃(t m:Int) (b c:ByteArray) (s h:Int) (x y:ByteArray),r=[.i t,.i m,.s b,.s c,.i s,.i h,.s x,.s y]
theorem iL.row{r:List G}(h:iL r):vt r:=by
 obtain⟨t,m,b,c,s,h,x,y,e,_⟩:=h;exact⟨t,m,b,c,s,h,x,y,e⟩
theorem vt.eta{r:List G}(h:vt r):aR [.int .i64,.int .i64,.str,.str,.int .i64,.int .i64,.str,.str] r=r:=by
 obtain⟨t,m,b,c,s,h,x,y,rfl⟩:=h;rfl
theorem vt.put{r:List G}(h:vt r)(n:Int):vt (fP [.int .i64,.int .i64,.str,.str,.int .i64,.int .i64,.str,.str] r 4 [.i n]):=by
 obtain⟨t,m,b,c,s,h,x,y,rfl⟩:=h;exact⟨t,m,b,c,n,h,x,y,rfl⟩
structure akQ (s:List (List G) × Int) (i:Nat):Prop where
 len:s.1.length≤i
 rows:∀ r∈s.1,∃ a b,r=[.i a,.i b]
 at0:0≤s.2
 at1:s.2≤345686400000
structure akT (s:List (List G)) (n i:Nat):Prop where
 len:s.length=n
 rows:∀ r∈s,∃ v,r=[.i v]∧0≤v∧v≤i
theorem SS:∀ a b:List UInt8,fN b a = - fN a b
 | [],[]=>rfl
 | [],_::_=>rfl
 |_::_,[]=>rfl
 | a::xs,b::g=>by
  simp only[fN];have k:=SS xs g;by_cases h1:a<b
  ·have d : ¬ b < a := fun h => UQ a (akh h1 h)
   simp[h1,d]
  ·by_cases d : b < a
   ·simp[h1,d]
   ·simp[h1,d,k]
theorem SU:∀{a b c:List UInt8},fN a b<0→fN b c<0→fN a c<0
 | [],[],_,h,_=>by simp[fN]at h
 | [],_::_,[],_,h=>by simp[fN]at h
 | [],_::_,_::_,_,_=>by simp[fN]
 |_::_,[],_,h,_=>by simp[fN]at h
 |_::_,_::_,[],_,h=>by simp[fN]at h
 | a::xs,b::I,c::zs,h1,d=>by
  simp only[fN]at h1 d⊢;by_cases g:a<b
  ·by_cases k : b < c
   ·rw [if_pos (akh g k)]
    omega
   ·by_cases A : c < b
    ·rw [if_neg k, if_pos A] at d
     omega
    ·have e : b = c := KH (ta.1 A) (ta.1 k)
     subst e;rw[if_pos g];omega
  ·by_cases B : b < a
   ·rw [if_neg g, if_pos B] at h1
    omega
   ·have e : a = b := KH (ta.1 B) (ta.1 g)
    subst e;rw[if_neg (UQ a),if_neg (UQ a)]at h1;by_cases q:a<c
    ·rw [if_pos q]
     omega
    ·by_cases F : c < a
     ·rw [if_neg q, if_pos F] at d
      omega
     ·rw [if_neg q, if_neg F] at d ⊢
      exact SU h1 d
theorem ahl{a b:ByteArray}(h:(a.toList==b.toList)=true):a=b:=by
 rw[zI,zI,beq_iff_eq]at h;exact ByteArray.ext (Array.toList_inj.1 h)
theorem yU{a b:ByteArray}:di a b=0↔a=b:=by
 have h:=sC a b;constructor
 ·intro e
  rw[decide_eq_true (p:=di a b=0) e]at h;exact ahl h
 ·rintro rfl
  have d:(a.toList==a.toList)=true:=by simp
  rw[d]at h;exact of_decide_eq_true h.symm
theorem ahm{a b:Int}:d_ a b=0↔a=b:=by
 unfold d_;constructor
 ·intro h
  split at h
  ·omega
  ·split at h<;>omega
 ·rintro rfl
  simp
theorem JF{a b:Int}:d_ a b<0↔a<b:=by
 unfold d_;constructor
 ·intro h
  split at h
  ·assumption
  ·split at h<;>omega
 ·intro h
  rw[if_pos h];omega
theorem Da(a b:ByteArray):(a.toList==b.toList)=decide (a=b):=by
 rw[sC,g_,decide_eq_true_eq,decide_eq_true_eq];exact yU
structure sD {α:Type} (c:α→α→Int):Prop where
 flip:∀ a b,c b a = - c a b
 eq:∀ a b,c a b=0→a=b
 tr:∀ a b d,c a b<0→c b d<0→c a d<0
theorem jZ:sD d_:=⟨fun a b=>by unfold d_; split<;>split<;>first|omega|(split<;>omega)|skip,fun a b h=>ahm.1 h,fun a b d h1 g=>JF.2 (Int.lt_trans (JF.1 h1) (JF.1 g))⟩
theorem fU:sD di:=⟨fun a b=>SS _ _,fun a b h=>yU.1 h,fun a b d h1 g=>SU h1 g⟩
theorem sD.le{α:Type}{c:α→α→Int}(h:sD c)(a b d:α)(h1:c a b≤0)(g:c b d≤0):c a d≤0:=by
 by_cases k:c a b=0
 ·rw [h.eq a b k]
  exact g
 ·by_cases q : c b d = 0
  ·rw [← h.eq b d q]
   exact h1
  ·have := h.tr a b d (by omega) (by omega)
   omega
theorem sD.refl{α:Type}{c:α→α→Int}(h:sD c)(a:α):c a a=0:=by
 have:=h.flip a a;omega
def fI(a b:Int):Int:=if a≠0 then a else b
theorem Db{α:Type}{c:α→α→Int}(h:sD c)(a b d:α)(x y z:Int)(h1:fI (c a b) x≤0)(g:fI (c b d) y≤0)(A:x≤0→y≤0→z≤0):fI (c a d) z≤0:=by
 unfold fI at *;by_cases q:c a b=0
 ·have e := h.eq a b q
  subst e;rw[if_neg (by simpa using q)]at h1;by_cases k:c a d=0
  ·rw [if_neg (by simpa using k)] at g ⊢
   exact A h1 g
  ·rw [if_pos k] at g ⊢
   exact g
 ·rw [if_pos q] at h1
  by_cases k:c b d=0
  ·have e := h.eq b d k
   subst e;rw[if_pos q];exact h1
  ·rw [if_pos k] at g
   have:=h.tr a b d (by omega) (by omega);rw[if_pos (by omega)];omega
theorem vu{a b d g:Int}(h1:d = - a)(k:g = - b):fI d g = - fI a b:=by
 unfold fI;subst h1 k;by_cases e:a=0
 ·subst e
  simp
 ·rw[if_pos e,if_pos (by omega)]
theorem JG{c:List G→List G→Int}(g:∀ a b,c b a = - c a b)(k:∀ a b d,c a b≤0→c b d≤0→c a d≤0):fu (bU c) (fun _=>True):=by
 have lt:∀ r s,bU c r s=decide (c r s<0):=fun r s=>by unfold bU; rw[dG]
 refine⟨fun a b d _ _ _ h1 q=>?_,fun a b _ _ h=>?_⟩
 ·rw [lt, decide_eq_false_iff_not] at *
  have:=k d b a (by have:=g d b; omega) (by have:=g b a; omega);have:=g a d;omega
 ·rw [lt, decide_eq_true_eq] at h
  rw[lt,decide_eq_false_iff_not];have:=g a b;omega
def JH:List ByteArray:=[⟨#[97,108,108]⟩,⟨#[99,111,100,101]⟩,⟨#[65]⟩]
def ahn:List ByteArray:=[⟨#[]⟩,⟨#[107,112,50,48,108,102]⟩,⟨#[107,112,50,48]⟩]
def SV(r:List G):Prop:=∃(c k:ByteArray) (p:Int) (q:ByteArray),r=[.s c,.s k,.i p,.s q]∧c∈calls∧k∈JH ∧ -1099511627776≤p∧p≤1099511627776∧q∈ahn
theorem SV.eta{r:List G}(h:SV r):aR [.str,.str,.int .i64,.str] r=r:=by
 obtain⟨c,k,p,q,rfl,_⟩:=h;rfl
def two:List (List G):=[[.s (⟨#[97,108,108]⟩:ByteArray)],[.s (⟨#[99,111,100,101]⟩:ByteArray)]]
def SX(r:List G):Prop:=∃(t:Int) (c k:ByteArray) (p:Int),r=[.i t,.s c,.s k,.i p]∧small t∧c∈calls∧k∈JH ∧ -1099511627776≤p∧p≤1099511627776
theorem SX.eta{r:List G}(h:SX r):aR [.int .i64,.str,.str,.int .i64] r=r:=by
 obtain⟨t,c,k,p,rfl,_⟩:=h;rfl
def Rec(v:List G):Prop:=∃(c s:ByteArray) (p d:Int),v=[.s c,.s s,.i p,.i d]∧c∈JH
theorem Rec.eta{v:List G}(h:Rec v):aR [.str,.str,.int .i64,.int .i64] v=[.s (gi v 0).str,.s (gi v 1).str,.i (gi v 2).int,.i (gi v 3).int]∨True:=.inr trivial
theorem SY(s:ByteArray)(r:List G):aq [.str] [.s s] (gi r 0).row=decide (s=gz r):=by
 simp only[aq,kW,List.headD_cons,dU,G.str];exact Da s _
theorem Dc(s:ByteArray):∀ m:List (List G),bp [.str] m [.s s]=true↔s∈m.map gz
 | []=>by simp[mo]
 | r::rs=>by
  rw[mq,SY,jC,Dc s rs,decide_eq_true_eq,dK,bC]
theorem JI(s:ByteArray)(v:List G)(k:Nat):∀ m:List (List G),
  (bK [.str] m [.s s] v k).map gz=(bif bp [.str] m [.s s] then m.map gz else m.map gz++[s]) ∧
  (bK [.str] m [.s s] v k).map bI=(bif bp [.str] m [.s s] then m.map bI else m.map bI++[k]) ∧
  ∀ e∈bK [.str] m [.s s] v k,e∈m∨∃ z:Int,e=[.l [[.s s]],.l [v],.i z]∧((∃ r∈m,z=(gi r 2).int)∨(z=k∧bp [.str] m [.s s]=false))
 | []=>by
  rw[uH,mo];refine⟨rfl,by simp[bI,gi,G.int],fun e he=>.inr ⟨k,iz.1 he,.inr ⟨rfl,rfl⟩⟩⟩
 | r::rs=>by
  obtain⟨h1,g,A⟩:=JI s v k rs;rw[uI,mq,SY];by_cases hs:s=gz r
  ·rw [decide_eq_true hs, cond_true, Bool.true_or, cond_true, cond_true]
   refine⟨?_,?_,fun e he=>?_⟩
   ·simp only [dK]
    rw[←hs];rfl
   ·rfl
   ·rcases bC.1 he with rfl | he
    ·exact .inr ⟨_,rfl,.inl ⟨r,cJ,rfl⟩⟩
    ·exact .inl (bS _ he)
  ·rw [decide_eq_false hs, cond_false, gJ]
   refine⟨?_,?_,fun e he=>?_⟩
   ·rw [dK, h1]
    cases bp [.str] rs [.s s]<;>rfl
   ·rw [dK, g]
    cases bp [.str] rs [.s s]<;>rfl
   ·rcases bC.1 he with rfl | he
    ·exact .inl cJ
    ·rcases A e he with h | ⟨z, rfl, ⟨q, d, rfl⟩ | ⟨rfl, d⟩⟩
     ·exact .inl (bS _ h)
     ·exact .inr ⟨_,rfl,.inl ⟨q,bS _ d,rfl⟩⟩
     ·exact .inr ⟨_,rfl,.inr ⟨rfl,d⟩⟩
structure JJ (m:List (List G)) (k:Nat):Prop where
 form:∀ e∈m,∃(v:List G) (n:Nat),e=[.l [[.s (gi v 0).str]],.l [v],.i (n:Int)]∧n<k∧Rec v
 born:(m.map bI).Nodup
 keys:(m.map gz).Nodup
theorem JJ.put{m:List (List G)}{k:Nat}(h:JJ m k){v:List G}(q:Rec v):JJ (bK [.str] m [.s (gi v 0).str] v k) (cU [.str] m [.s (gi v 0).str] k):=by
 obtain⟨h1,B,F⟩:=JI (gi v 0).str v k m;have A:∀ n∈m.map bI,n<k:=fun n hn=>by
  obtain⟨e,he,rfl⟩:=List.mem_map.1 hn;obtain⟨w,n,rfl,hn,_⟩:=h.form e he;exact hn
 refine⟨fun e he=>?_,?_,?_⟩
 ·unfold cU
  rcases F e he with he|⟨z,rfl,⟨r,hr,rfl⟩|⟨rfl,I⟩⟩
  ·obtain ⟨w, n, J, hn, hw⟩ := h.form e he
   refine⟨w,n,J,?_,hw⟩;cases bp [.str] m [.s (gi v 0).str]
   ·exact mN hn
   ·exact hn
  ·obtain ⟨w, n, rfl, hn, _⟩ := h.form r hr
   refine⟨v,n,rfl,?_,q⟩;cases bp [.str] m [.s (gi v 0).str]
   ·exact mN hn
   ·exact hn
  ·rw [I]
   exact⟨v,k,rfl,Nat.lt_succ_self k,q⟩
 ·rw [B]
  cases bp [.str] m [.s (gi v 0).str]with
  |true=>exact h.born
  | false =>
   rw[cond_false,zJ];refine⟨h.born,by simp,fun a g b d e=>?_⟩;rw[iz]at d;have:=A a g;omega
 ·rw [h1]
  cases M:bp [.str] m [.s (gi v 0).str]with
  |true=>exact h.keys
  | false =>
   rw[cond_false,zJ];refine⟨h.keys,by simp,fun a g b d e=>?_⟩;rw[iz]at d;have:bp [.str] m [.s (gi v 0).str]=true:=(Dc _ m).2 (by rw[←d,←e]; exact g);rw[M]at this;cases this
theorem SZ(key v:List G)(c:Nat):∀ rows:List (List G),(bK [.str] rows key v c).length≤rows.length+1
 | []=>by rw[uH]; simp
 | r::rs=>by
  rw[uI];have:=SZ key v c rs;cases aq [.str] key (gi r 0).row<;>simp<;>omega
theorem JK:∀ l:List Nat,l.Nodup→nodupB l=true
 | [],_=>rfl
 | a::l,d=>by
  obtain⟨h1,g⟩:=List.nodup_cons.1 d;simp only[nodupB,JK l g,dU,Bool.not_eq_true'];cases hc:l.any (ab a)with
  |false=>rfl
  | true =>
   obtain⟨x,k,e⟩:=mJ.1 hc;rw[Nat.eq_of_beq_eq_true e]at h1;exact(h1 k).elim
theorem Dd(m:List (List G)):(ml m).Perm (m.map fun r=>[.s (gz r)]):=by
 unfold ml;have h:=((List.mergeSort_perm (m.map fun r=>(gz r).data.toList) leB).map fun d=>[G.s ⟨d.toArray⟩])
 rw[List.map_map]at h;exact h
theorem JL:∀{a b:List UInt8},fN a b<0→a<b
 | [],[],h=>by simp[fN]at h
 | [],b::g,_=>List.nil_lt_cons b g
 |a::k,[],h=>by simp[fN]at h
 | a::k,b::g,h=>by
  simp only[fN]at h;rw[List.cons_lt_cons_iff];by_cases h1:a<b
  ·exact .inl h1
  ·rw [if_neg h1] at h
   by_cases d:b<a
   ·rw [if_pos d] at h
    omega
   ·rw [if_neg d] at h
    exact .inr ⟨KH (ta.1 d) (ta.1 h1),JL h⟩
theorem aho(m:List (List G)):(ml m).Pairwise fun a b=>¬ di (gi b 0).str (gi a 0).str<0:=by
 have tr:∀ a b c:List UInt8,leB a b=true→leB b c=true→leB a c=true:=fun a b c h1 d=>by simp only[leB,decide_eq_true_eq]at *; exact List.le_trans h1 d
 have to:∀ a b:List UInt8,(leB a b||leB b a)=true:=fun a b=>by simp only[leB,jC,decide_eq_true_eq]; exact List.le_total a b
 unfold ml;rw[List.pairwise_map];refine(List.pairwise_mergeSort tr to _).imp fun {a b} h d=>?_;simp only[leB,decide_eq_true_eq]at h;have g:fN b a<0:=d;exact List.not_lt.2 h (JL g)
def fj:List ByteArray:=[⟨#[]⟩,⟨#[115,97]⟩,⟨#[115,98]⟩,⟨#[115,99]⟩]
def lF(si:ByteArray)(no at_ kd t m:Int)(b c:ByteArray)(s h:Int)(x y bd ba:ByteArray)(ot:Int):List G :=
 [.s si,.i no,.i at_,.i kd,.i t,.i m,.s b,.s c,.i s,.i h,.s x,.s y,.s bd,.s ba,.i ot]
def qx(si:ByteArray)(no at_ kd t m:Int)(b c:ByteArray)(s h:Int)(x y bd ba:ByteArray)(ot:Int):Prop :=
 si∈fj∧small no∧small at_∧small kd∧(small t∧small m∧b∈jy∧c∈calls∧small s∧small h∧x∈names∧y∈names)∧bd∈jy∧ba∈fj∧small ot
def aV(r:List G):Prop:=∃ si no at_ kd t m b c s h x y bd ba ot,r=lF si no at_ kd t m b c s h x y bd ba ot∧qx si no at_ kd t m b c s h x y bd ba ot
theorem aV.eta{r:List G}(h:aV r):aR ak r=r:=by
 obtain⟨_,_,_,_,_,_,_,_,_,_,_,_,_,_,_,rfl,_⟩:=h;rfl
section
variable {l out mm:List (List G)} {a no at_ kd t m s h ot u v w:Int} {ck:Nat} {si b c x y bd ba:ByteArray}
theorem ahp(hn:out.length≤1000) :
  oK [.l l,.i a,.l out,.l mm,.i (ck:Int),.s si,.i no,.i at_,.i kd,.i t,.i m,.s b,.s c,.i s,.i h,.s x,.s y,.s bd,.s ba,.i ot,.i u,.i v,.i w] =
   some (some 0,[.l l,.i a,.l (out++[lF si no at_ kd t m b c s h x y bd ba ot]),.l mm,.i (ck:Int),.i u,.i v,.i w]):=by
 refine aa.toEq ?_;unfold oK
 (dsimp +instances only[Aa,Ab,Ac,Ad,Ae,Af,Ag])
 simp only[aH]
 (repeat first|refine aa.p ?_|refine aa.n ?_)
 exact aa.some rfl
theorem De{n:Int}(h : -1099511627776≤n∧(n≤1000000001∨n=1099511627776)):small n:=by
 unfold small;omega
theorem ahq(N:0≤a)(U:a≤800000)(hn:out.length≤1000)(q:qx si no at_ kd t m b c s h x y bd ba ot) :
  aa (qp [.l l,.i a,.l out,.l mm,.i (ck:Int),.s si,.i no,.i at_,.i kd,.i t,.i m,.s b,.s c,.i s,.i h,.s x,.s y,.s bd,.s ba,.i ot,.i u,.i v,.i w]) fun o =>
   ∃ k,o.1=some k∧∃ d r,o.2=[.l l,.i d,.l (out++[r]),.l mm,.i (ck:Int),.i u,.i v,.i w]∧a≤d∧d≤a+20∧aV r∧(gi r 2).int=at_:=by
 obtain⟨d1,d2,d3,d4,d5,d6,d7,d8⟩:=q;have fin:∀(d:Int) (si:ByteArray) (no kd s:Int) (bd ba:ByteArray) (ot:Int),a≤d→d≤a+20→qx si no at_ kd t m b c s h x y bd ba ot →
   aa (a7 ((ab out.length out.length)&&true) (dD (oK [.l l,.i d,.l out,.l mm,.i (ck:Int),.s si,.i no,.i at_,.i kd,.i t,.i m,.s b,.s c,.i s,.i h,.s x,.s y,.s bd,.s ba,.i ot,.i u,.i v,.i w])) fun R g10 =>
    (bif ((ab (gi g10 2).rows.length (gi g10 2).rows.length)&&true) then (some (some 0,[G.l (gi g10 0).rows,G.i (gi g10 1).int,G.l (gi g10 2).rows,G.l (gi g10 3).rows,G.i (((gi g10 4).int.toNat:Nat):Int),G.i (gi g10 5).int,G.i (gi g10 6).int,G.i (gi g10 7).int]):Option (Option Nat × List G)) else none)) fun o =>
   ∃ k,o.1=some k∧∃ d r,o.2=[.l l,.i d,.l (out++[r]),.l mm,.i (ck:Int),.i u,.i v,.i w]∧a≤d∧d≤a+20∧aV r∧(gi r 2).int=at_:=by
  intro d si no kd s bd ba ot h1 O q;refine aa.tail (P:=fun _ g=>g=[.l l,.i d,.l (out++[lF si no at_ kd t m b c s h x y bd ba ot]),.l mm,.i (ck:Int),.i u,.i v,.i w]) ⟨_,ahp hn,0,rfl,rfl⟩ (by simp) ?_;rintro _ _ rfl
  (dsimp +instances only[Aa,Ab,Ac,Ad,Ae,Af,Ag])
  simp only[aH];refine aa.pos (by simp) (aa.some ⟨0,rfl,d,_,rfl,h1,O,⟨_,_,_,_,_,_,_,_,_,_,_,_,_,_,_,rfl,q⟩,rfl⟩)
 unfold qp
 (dsimp +instances only[Aa,Ab,Ac,Ad,Ae,Af,Ag])
 simp only[aH];refine aa.call (C9 l a 100 N (by omega) (by omega) (by omega)) ?_;rintro _ ⟨f,rfl⟩
 (dsimp +instances only[Aa,Ab,Ac,Ad,Ae,Af,Ag])
 refine aa.test (fun _=>?_) fun _=>fin (a+1) _ _ _ _ _ _ _ (by omega) (by omega) ⟨d1,d2,d3,d4,d5,d6,d7,d8⟩;refine aa.call (vp l _ 4 (by omega) (by omega) (by omega) (by omega)) ?_;rintro _ ⟨n,rfl,W,Y⟩
 (dsimp +instances only[Aa,Ab,Ac,Ad,Ae,Af,Ag])
 refine aa.test (fun _=>?_) fun _=>aa.test (fun _=>?_) fun _=>aa.test (fun _=>?_) fun _=>?_
 ·refine aa.call (jW fj l _ _ (by omega) (by omega) (by kernel_rfl) (by kernel_rfl)) ?_
  rintro _ ⟨si',rfl,A⟩
  (dsimp +instances only[Aa,Ab,Ac,Ad,Ae,Af,Ag])
  refine aa.call (qv l _ 1 9 (by omega) (by omega) (by omega) (by omega) (by omega)) ?_;rintro _ ⟨no',rfl,B⟩
  (dsimp +instances only[Aa,Ab,Ac,Ad,Ae,Af,Ag])
  exact fin (a+1+1+1+2) _ _ _ _ _ _ _ (by omega) (by omega) ⟨A,De B,d3,d4,d5,d6,d7,d8⟩
 ·refine aa.call (qv l _ 1 5 (by omega) (by omega) (by omega) (by omega) (by omega)) ?_
  rintro _ ⟨kd',rfl,F⟩
  (dsimp +instances only[Aa,Ab,Ac,Ad,Ae,Af,Ag])
  exact fin (a+1+1+2) _ _ _ _ _ _ _ (by omega) (by omega) ⟨d1,d2,d3,De F,d5,d6,d7,d8⟩
 ·refine aa.call (jW jy l _ _ (by omega) (by omega) (by kernel_rfl) (by kernel_rfl)) ?_
  rintro _ ⟨bd',rfl,I⟩
  (dsimp +instances only[Aa,Ab,Ac,Ad,Ae,Af,Ag])
  refine aa.call (jW fj l _ _ (by omega) (by omega) (by kernel_rfl) (by kernel_rfl)) ?_;rintro _ ⟨of',rfl,J⟩
  (dsimp +instances only[Aa,Ab,Ac,Ad,Ae,Af,Ag])
  exact fin (a+1+1+1+1) _ _ _ _ _ _ _ (by omega) (by omega) ⟨d1,d2,d3,d4,d5,I,J,d8⟩
 ·refine aa.call (qv l _ 1 99999 (by omega) (by omega) (by omega) (by omega) (by omega)) ?_
  rintro _ ⟨s',rfl,hs⟩
  (dsimp +instances only[Aa,Ab,Ac,Ad,Ae,Af,Ag])
  refine aa.call (qv l _ 0 5 (by omega) (by omega) (by omega) (by omega) (by omega)) ?_;rintro _ ⟨ot',rfl,M⟩
  (dsimp +instances only[Aa,Ab,Ac,Ad,Ae,Af,Ag])
  exact fin (a+1+1+2+2) _ _ _ _ _ _ _ (by omega) (by omega) ⟨d1,d2,d3,d4,⟨d5.1,d5.2.1,d5.2.2.1,d5.2.2.2.1,De hs,d5.2.2.2.2.2⟩,d6,d7,De M⟩
end
def mA(mm:List (List G))(i:Int):Prop:=∀ k,0≤(gi (bZ [Kd.str] mm k [.i 0]) 0).int∧(gi (bZ [Kd.str] mm k [.i 0]) 0).int≤i
theorem mA.nil:mA [] 0:=fun k=>by
 rw[xQ];simp[gi,G.int]
theorem mA.put{mm:List (List G)}{i v:Int}(h:mA mm i)(k:List G)(h0:0≤v)(h1:v≤i+1)(c:Nat):mA (bK [Kd.str] mm k [.i v] c) (i+1):=fun x=>by
 rw[nz];cases aq [Kd.str] x k with
 |true=>exact⟨h0,h1⟩
 | false =>
  have:=h x;simp only[cond_false];omega
theorem S0(l out mm:List (List G))(a no at_ kd t m s h ot u v w i:Int)(ck:Nat)(si b c x y bd ba:ByteArray)(f:Bool)(A:0≤a)(O:a≤800000)(R:0≤i)(hi:i≤1000)(I:mA mm i)(J:qx si no at_ kd t m b c s h x y bd ba ot) :
  aa (x8 [.l l,.i a,.l out,.l mm,.i (ck:Int),.s si,.i no,.i at_,.i kd,.i t,.i m,.s b,.s c,.i s,.i h,.s x,.s y,.s bd,.s ba,.i ot,.i u,.i v,.i w,.t f]) fun o =>
   ∃ k,o.1=some k∧∃ q s' g d,o.2=[.l l,.i q,.l out,.l mm,.i (ck:Int),.s si,.i no,.i at_,.i kd,.i t,.i m,.s b,.s c,.i s',.i h,.s x,.s y,.s bd,.s g,.i d,.i u,.i v,.i w]∧a≤q∧q≤a+5∧qx si no at_ kd t m b c s' h x y bd g d:=by
 obtain⟨d1,d2,d3,d4,d5,d6,d7,d8⟩:=J;have U:=I [.s (⟨#[115,97]⟩:ByteArray)];unfold x8
 (dsimp +instances only[Aa,Ab,Ac,Ad,Ae,Af,Ag])
 simp only[aH];cases f with
 | true =>
  refine aa.pos rfl ?_;refine aa.call (yQ l a 1 7 A (by omega) (by omega) (by omega) (by omega)) ?_;rintro _ ⟨s',rfl,W,Y⟩
  (dsimp +instances only[Aa,Ab,Ac,Ad,Ae,Af,Ag])
  refine aa.pos (by simp) (aa.some ⟨0,rfl,a+1,s',ba,ot,rfl,by omega,by omega,⟨d1,d2,d3,d4,⟨d5.1,d5.2.1,d5.2.2.1,d5.2.2.2.1,by unfold small; omega,d5.2.2.2.2.2⟩,d6,d7,d8⟩⟩)
 | false =>
  refine aa.neg rfl ?_;refine aa.call (jW fj l _ _ A (by omega) (by kernel_rfl) (by kernel_rfl)) ?_;rintro _ ⟨g,rfl,F⟩
  (dsimp +instances only[Aa,Ab,Ac,Ad,Ae,Af,Ag])
  refine aa.call (yQ l _ 1 _ (by omega) (by omega) (by split<;>omega) (by omega) (by split<;>omega)) ?_;rintro _ ⟨d,rfl,M,B⟩
  (dsimp +instances only[Aa,Ab,Ac,Ad,Ae,Af,Ag])
  have N:d≤1001:=by
   revert B
   split<;>intro _<;>omega
  refine aa.pos (by simp) (aa.some ⟨0,rfl,a+1+1,s,g,d,rfl,by omega,by omega,⟨d1,d2,d3,d4,d5,d6,F,by unfold small; omega⟩⟩)
theorem ahr:(⟨#[]⟩:ByteArray)∈jy∧(⟨#[]⟩:ByteArray)∈calls∧(⟨#[]⟩:ByteArray)∈names∧(⟨#[]⟩:ByteArray)∈fj:=by
 refine⟨?_,?_,?_,?_⟩<;>simp[jy,calls,names,fj]
theorem jd:small 0:=by unfold small; omega
theorem ahs(l out mm:List (List G))(a at_:Int)(ck n i:Nat)(ha:0≤a)(ha1:a≤700000)(hn:n≤20)(hi:i<n)(ho:out.length≤100)(ht0:0≤at_)(ht1:at_≤5*(i:Int))(hM:mA mm i) :
  aa (uU [.l l,.i a,.l out,.l mm,.i (ck:Int),.i at_,.i (n:Int),.i (i:Int)]) fun o=>∃ k r d q v,o=(none,[.l l,.i k,.l (out++[r]),.l d,.i ((q:Nat):Int),.i (at_+v),.i (n:Int),.i ((i:Int)+1)])∧a≤k∧k≤a+100∧aV r∧(gi r 2).int=at_+v∧0≤v∧v≤5∧mA d ((i:Int)+1):=by
 unfold uU
 (dsimp +instances only[Aa,Ab,Ac,Ad,Ae,Af,Ag])
 simp only[aH];refine aa.p ?_;refine aa.call (yR 0 5 l a _ ha (by omega) (by kernel_rfl) (by kernel_rfl)) ?_;rintro _ ⟨v,rfl,hv0,hv1⟩
 (dsimp +instances only[Aa,Ab,Ac,Ad,Ae,Af,Ag])
 refine aa.p ?_;refine aa.call (jW fj l _ _ (by omega) (by omega) (by kernel_rfl) (by kernel_rfl)) ?_;rintro _ ⟨si,rfl,N⟩
 (dsimp +instances only[Aa,Ab,Ac,Ad,Ae,Af,Ag])
 refine aa.call (yR 1 5 l _ _ (by omega) (by omega) (by kernel_rfl) (by kernel_rfl)) ?_;rintro _ ⟨kd,rfl,hk0,hk1⟩
 (dsimp +instances only[Aa,Ab,Ac,Ad,Ae,Af,Ag])
 have hs:=hM [.s si];have M:=hM.put [.s si] (v:=(gi (bZ [Kd.str] mm [.s si] [.i 0]) 0).int+1) (by omega) (by omega) ck;generalize hmm:bK [Kd.str] mm [.s si] [.i ((gi (bZ [Kd.str] mm [.s si] [.i 0]) 0).int+1)] ck=d at M⊢;generalize cU [Kd.str] mm [.s si] ck=q;have hno:=M [.s si];generalize (gi (bZ [Kd.str] d [.s si] [.i 0]) 0).int=no at hno⊢;have O:small no:=by unfold small; omega
 have sat:small (at_+v):=by unfold small; omega
 have R:small kd:=by unfold small; omega
 obtain⟨I,U,J,es⟩:=ahr;refine aa.p ?_;have fin:∀(k t m s h ot:Int) (b c x y bd ba:ByteArray),a≤k→k≤a+50→qx si no (at_+v) kd t m b c s h x y bd ba ot →
   aa (a7 ((ab out.length out.length)&&true) (dD (qp [.l l,.i k,.l out,.l d,.i (q:Int),.s si,.i no,.i (at_+v),.i kd,.i t,.i m,.s b,.s c,.i s,.i h,.s x,.s y,.s bd,.s ba,.i ot,.i (at_+v),.i (n:Int),.i (i:Int)])) fun cg20 g20 =>
    (bif (aw ((gi g20 7).int+1)) then (bif ((ab (gi g20 2).rows.length (gi g20 2).rows.length)&&true) then (some (none,[G.l (gi g20 0).rows,G.i (gi g20 1).int,G.l (gi g20 2).rows,G.l (gi g20 3).rows,G.i (((gi g20 4).int.toNat:Nat):Int),G.i (gi g20 5).int,G.i (gi g20 6).int,G.i ((gi g20 7).int+1)]):Option (Option Nat × List G)) else none) else none)) fun o =>
   ∃ k r d q w,o=(none,[.l l,.i k,.l (out++[r]),.l d,.i ((q:Nat):Int),.i (at_+w),.i (n:Int),.i ((i:Int)+1)])∧a≤k∧k≤a+100∧aV r∧(gi r 2).int=at_+w∧0≤w∧w≤5∧mA d ((i:Int)+1):=by
  intro k t m s h ot b c x y bd ba h1 h2 hd;refine aa.tail (P:=fun _ g=>∃ a2 r,g=[.l l,.i a2,.l (out++[r]),.l d,.i (q:Int),.i (at_+v),.i (n:Int),.i (i:Int)]∧k≤a2∧a2≤k+20∧aV r∧(gi r 2).int=at_+v) (ahq (by omega) (by omega) (by omega) hd) (by simp) ?_;rintro _ _ ⟨a2,r,rfl,W,Y,F,q4⟩
  (dsimp +instances only[Aa,Ab,Ac,Ad,Ae,Af,Ag])
  simp only[aH];refine aa.p (aa.pos (by simp) (aa.some ⟨a2,r,d,q,v,rfl,by omega,by omega,F,q4,hv0,hv1,M⟩))
 refine aa.test (fun _=>?_) fun _=>aa.test (fun _=>?_) fun _=>aa.test (fun _=>?_) fun _=>?_
 ·refine aa.p ?_
  refine aa.call (yQ l _ _ _ (by omega) (by omega) (by split<;>omega) (by split<;>omega) (by omega)) ?_;rintro _ ⟨t,rfl,ht2,ht3⟩
  (dsimp +instances only[Aa,Ab,Ac,Ad,Ae,Af,Ag])
  have ht4:0≤t:=by
   revert ht2
   split<;>intro _<;>omega
  refine aa.call (ahe l _ t (by omega) (by omega) (by unfold sB; omega)) ?_;rintro _ ⟨b0,r,rfl,W,Y,F⟩;obtain⟨t',m,b,c,s,h,x,y,rfl,p1,p2,p3,p4,p5,p6,p7,p8⟩:=F.to
  (dsimp +instances only[Aa,Ab,Ac,Ad,Ae,Af,Ag])
  exact fin b0 _ _ _ _ _ _ _ _ _ _ _ (by omega) (by omega) ⟨N,O,sat,R,⟨p1,p2,p5,p6,p3,p4,p7,p8⟩,I,es,jd⟩
 ·refine aa.call (jW jy l _ _ (by omega) (by omega) (by kernel_rfl) (by kernel_rfl)) ?_
  rintro _ ⟨bd,rfl,hbd⟩
  (dsimp +instances only[Aa,Ab,Ac,Ad,Ae,Af,Ag])
  exact fin (a+1+1+1+1) _ _ _ _ _ _ _ _ _ _ _ (by omega) (by omega) ⟨N,O,sat,R,⟨jd,jd,I,U,jd,jd,J,J⟩,hbd,es,jd⟩
 ·refine aa.tail (P:=fun _ g=>∃ a2 s' A B,g=[.l l,.i a2,.l out,.l d,.i (q:Int),.s si,.i no,.i (at_+v),.i kd,.i 0,.i 0,.s (⟨#[]⟩:ByteArray),.s (⟨#[]⟩:ByteArray),.i s',.i 0,.s (⟨#[]⟩:ByteArray),.s (⟨#[]⟩:ByteArray),.s (⟨#[]⟩:ByteArray),.s A,.i B,.i (at_+v),.i (n:Int),.i (i:Int)] ∧
   a+1+1+1≤a2∧a2≤a+1+1+1+5∧qx si no (at_+v) kd 0 0 ⟨#[]⟩ ⟨#[]⟩ s' 0 ⟨#[]⟩ ⟨#[]⟩ ⟨#[]⟩ A B) (S0 l out d _ no (at_+v) kd 0 0 0 0 0 _ _ _ ((i:Int)+1) q si _ _ _ _ _ _ _ (by omega) (by omega) (by omega) (by omega) M ⟨N,O,sat,R,⟨jd,jd,I,U,jd,jd,J,J⟩,I,es,jd⟩) (by simp) ?_
  rintro _ _ ⟨a2,s',A,B,rfl,W,Y,F⟩
  (dsimp +instances only[Aa,Ab,Ac,Ad,Ae,Af,Ag])
  simp only[aH];exact fin a2 _ _ _ _ _ _ _ _ _ _ _ (by omega) (by omega) F
 ·refine aa.tail (P:=fun _ g=>∃ a2 s' A B,g=[.l l,.i a2,.l out,.l d,.i (q:Int),.s si,.i no,.i (at_+v),.i kd,.i 0,.i 0,.s (⟨#[]⟩:ByteArray),.s (⟨#[]⟩:ByteArray),.i s',.i 0,.s (⟨#[]⟩:ByteArray),.s (⟨#[]⟩:ByteArray),.s (⟨#[]⟩:ByteArray),.s A,.i B,.i (at_+v),.i (n:Int),.i (i:Int)] ∧
   a+1+1+1≤a2∧a2≤a+1+1+1+5∧qx si no (at_+v) kd 0 0 ⟨#[]⟩ ⟨#[]⟩ s' 0 ⟨#[]⟩ ⟨#[]⟩ ⟨#[]⟩ A B) (S0 l out d _ no (at_+v) kd 0 0 0 0 0 _ _ _ ((i:Int)+1) q si _ _ _ _ _ _ _ (by omega) (by omega) (by omega) (by omega) M ⟨N,O,sat,R,⟨jd,jd,I,U,jd,jd,J,J⟩,I,es,jd⟩) (by simp) ?_
  rintro _ _ ⟨a2,s',A,B,rfl,W,Y,F⟩
  (dsimp +instances only[Aa,Ab,Ac,Ad,Ae,Af,Ag])
  simp only[aH];exact fin a2 _ _ _ _ _ _ _ _ _ _ _ (by omega) (by omega) F
def JM(z:List G):Prop:=aV z∧0≤(gi z 2).int∧(gi z 2).int≤100
theorem S2(l:List (List G))(n:Nat)(hn:n≤20):∀(k i:Nat) (a t:Int) (ck:Nat) (acc mm:List (List G)),i+k=n→0≤a→a+100*(k:Int)≤700000→0≤t→t≤5*(i:Int)→(∀ z∈acc,JM z)→acc.length=i→mA mm i →
  cD uU [.l l,.i a,.l acc,.l mm,.i (ck:Int),.i t,.i (n:Int),.i (i:Int)] (k+1) fun c g=>c=0∧∃ b rows,g=[.l l,.i b,.l rows]∧a≤b∧b≤a+100*k∧(∀ z∈rows,JM z)∧rows.length=n
 | 0,i,a,t,ck,acc,mm,hi,B,O,F,A,q,I,J=>by
  refine cD.stop (x:=0) (aa.toEq ?_) ⟨rfl,a,acc,rfl,by omega,by omega,q,by omega⟩;unfold uU
  (dsimp +instances only[Aa,Ab,Ac,Ad,Ae,Af,Ag])
  (repeat first|refine aa.p ?_|refine aa.n ?_)
  exact aa.some rfl
 | k+1,i,a,t,ck,acc,mm,hi,B,O,F,A,q,I,J=>by
  obtain⟨_,h,b,r,M,N,v,rfl,h1,h2,R,h7,h4,h5,U⟩:=ahs l acc mm a t ck n i B (by omega) hn (by omega) (by omega) F A J;have W:=S2 l n hn k (i+1) b (t+v) N (acc++[r]) M (by omega) (by omega) (by omega) (by omega) (by omega) (by
   intro z d;rcases List.mem_append.1 d with d|d
   ·exact q z d
   ·simp at d; exact d▸⟨R,by omega,by omega⟩) (by simp[I]) (by simpa using U)
  refine cD.next h (W.mono ?_)
  rintro c g ⟨rfl,Y,rows,rfl,q1,q2,q3,q4⟩;exact⟨rfl,Y,rows,rfl,by omega,by omega,q3,q4⟩
def fJ(r s:List G):Int:=if (gi r 2).int≠(gi s 2).int then d_ (gi r 2).int (gi s 2).int else if di (gi r 0).str (gi s 0).str≠0 then di (gi r 0).str (gi s 0).str else d_ (gi r 1).int (gi s 1).int
theorem S3{r s:List G}(hr:aV r)(hs:aV s):uS [.l [r],.l [s]]=some [.i (fJ r s)]:=by
 obtain⟨si,no,at_,_,_,_,_,_,_,_,_,_,_,_,_,rfl,_,hn,F,_⟩:=hr;obtain⟨d,q,at',_,_,_,_,_,_,_,_,_,_,_,_,rfl,_,A,B,_⟩:=hs;unfold small at *;refine aa.toEq ?_;unfold uS fJ lF
 (dsimp +instances only[Aa,Ab,Ac,Ad,Ae,Af,Ag])
 simp only[sC];by_cases k:at_=at'
 ·subst k
  by_cases g:di si d=0
  ·simp only [g]
   (repeat first|refine aa.p ?_|refine aa.n ?_)
   refine aa.cE (sign_eq no q) ?_
   (dsimp +instances only[Aa,Ab,Ac,Ad,Ae,Af,Ag])
   exact aa.some (by simp)
  ·refine aa.neg (by simp) (aa.pos (by simp [g]) ?_)
   refine aa.cE (rfl:ir [.s si,.s d]=some [.i (di si d)]) ?_
   (dsimp +instances only[Aa,Ab,Ac,Ad,Ae,Af,Ag])
   exact aa.some (by simp[g])
 ·(repeat first|refine aa.p ?_|refine aa.n ?_)
  refine aa.cE (sign_eq at_ at') ?_
  (dsimp +instances only[Aa,Ab,Ac,Ad,Ae,Af,Ag])
  exact aa.some (by simp[k])
theorem aht:ly ak uS aV fJ:=⟨fun _ _ hr hs=>S3 hr hs,fun _ h=>h.eta⟩
theorem ahu(rows:List (List G))(hr:∀ y∈rows,aV y)(hn:rows.length≤20):Hm [.l rows]=some [.l (eU (bU fJ) rows)]:=Zo aht rows hr hn
theorem ahv(l:List (List G))(a n:Int)(q:0≤a)(B:a≤600000)(h0:0≤n)(h1:n≤20) :
  aa (x9 [.l l,.i a,.i n]) fun g=>∃ b rows,g=[.l l,.i b,.l rows]∧a≤b∧b≤a+2000∧(∀ z∈rows,JM z)∧(rows.length:Int)≤n:=by
 obtain⟨n,rfl⟩:=Int.eq_ofNat_of_zero_le h0;unfold x9
 (dsimp +instances only[Aa,Ab,Ac,Ad,Ae,Af,Ag])
 refine aa.loop ((S2 l n (by omega) n 0 a 0 0 [] [] (by omega) q (by omega) (by omega) (by omega) (by simp) rfl (by simpa using mA.nil)).to (by omega)) rfl ?_;rintro c g ⟨rfl,b,rows,rfl,F,I,d,J⟩
 (dsimp +instances only[Aa,Ab,Ac,Ad,Ae,Af,Ag])
 have hs:=GK (lt:=bU fJ) d;have k:=oG (bU fJ) rows;refine aa.gS (aa.eq (ahu rows (fun z A=>(d z A).1) (by omega))) (by(first|rfl|assumption|(simp only[aw,sl]<;>omega))) ?_;rintro _ rfl
 (dsimp +instances only[Aa,Ab,Ac,Ad,Ae,Af,Ag])
 exact aa.pos (by simp[k]) (aa.some ⟨b,_,rfl,by omega,by omega,hs,by omega⟩)
theorem ahw(l:List (List G))(a n:Int)(k:0≤a)(d:a≤600000)(h0:0≤n)(h1:n≤20) :
  aa (x9 [.l l,.i a,.i n]) fun g=>∃ b rows,g=[.l l,.i b,.l rows]∧a≤b∧b≤a+2000∧(∀ z∈rows,aV z)∧(rows.length:Int)≤n :=
 (ahv l a n k d h0 h1).mono fun _ ⟨b,rows,e,q,A,B,F⟩=>⟨b,rows,e,q,A,fun z I=>(B z I).1,F⟩
def lG(s:ByteArray):Bool:=oO [⟨#[115,97]⟩,⟨#[115,98]⟩,⟨#[115,99]⟩] s
theorem S4{s:ByteArray}(h:s∈fj):qs [.s s]=some [.t (lG s)]:=by
 simp only[fj,bC,jD,or_false]at h;rcases h with rfl|rfl|rfl|rfl<;>kernel_rfl
theorem S5{s:ByteArray}(h:s∈fj):oN [.s s]=some [.t (lG s)]:=by
 simp only[fj,bC,jD,or_false]at h;rcases h with rfl|rfl|rfl|rfl<;>kernel_rfl
def lH(r:List G):List G:=[.i (gi r 4).int,.i (gi r 5).int,.s (gi r 6).str,.s (gi r 7).str,.i (gi r 8).int,.i (gi r 9).int,.s (gi r 10).str,.s (gi r 11).str]
def vw(r:List G):List G:=[.s (gi r 0).str,.i (gi r 1).int,.i (gi r 2).int,.i (gi r 3).int]
def jz(r:List G):Int :=
 bif !lG (gi r 0).str then 5 else bif !cq (gi r 1).int 1 1000000 then 1 else bif !cq (gi r 2).int 0 345686399999 then 1 else bif !cq (gi r 3).int 1 5 then 4 else
 bif (gi r 3).int==1 then (bif jY (lH r) != 0 then jY (lH r) else bif aB (gi r 2).int (gi r 4).int then 1 else
  bif !aq ak r (vw r++lH r++[.s (⟨#[]⟩:ByteArray),.s (⟨#[]⟩:ByteArray),.i 0]) then 3 else 0)
 else bif (gi r 3).int==2 then (bif !jX (gi r 12).str then 5 else
  bif !aq ak r (vw r++[.i 0,.i 0,.s (⟨#[]⟩:ByteArray),.s (⟨#[]⟩:ByteArray),.i 0,.i 0,.s (⟨#[]⟩:ByteArray),.s (⟨#[]⟩:ByteArray),.s (gi r 12).str,.s (⟨#[]⟩:ByteArray),.i 0]) then 3 else 0)
 else bif (gi r 3).int==5 then (bif !lG (gi r 13).str then 5 else bif !cq (gi r 14).int 1 1000000 then 1 else
  bif !aq ak r (vw r++[.i 0,.i 0,.s (⟨#[]⟩:ByteArray),.s (⟨#[]⟩:ByteArray),.i 0,.i 0,.s (⟨#[]⟩:ByteArray),.s (⟨#[]⟩:ByteArray),.s (⟨#[]⟩:ByteArray),.s (gi r 13).str,.i (gi r 14).int]) then 3 else 0)
 else (bif !cq (gi r 8).int 1 99999 then 1 else
  bif !aq ak r (vw r++[.i 0,.i 0,.s (⟨#[]⟩:ByteArray),.s (⟨#[]⟩:ByteArray),.i (gi r 8).int,.i 0,.s (⟨#[]⟩:ByteArray),.s (⟨#[]⟩:ByteArray),.s (⟨#[]⟩:ByteArray),.s (⟨#[]⟩:ByteArray),.i 0]) then 3 else 0)
theorem oQ(b:Bool):(bif !b then some [G.i 3] else some [G.i 0])=some [G.i (bif !b then 3 else 0)]:=by cases b<;>rfl
theorem ahx{r:List G}(hr:aV r):Cs [.l [r]]=some [.i (jz r)]:=by
 obtain⟨si,no,at_,kd,t,m,b,c,s,h,x,y,bd,ba,ot,rfl,d1,_,_,_,⟨c1,c2,d,g,k,q,A,B⟩,d6,d7,_⟩:=hr;have F:yj [.l [[.i t,.i m,.s b,.s c,.i s,.i h,.s x,.s y]]]=some [.i (jY [.i t,.i m,.s b,.s c,.i s,.i h,.s x,.s y])] :=
  ahk ⟨t,m,b,c,s,h,x,y,rfl,c1,c2,k,q,d,g,A,B⟩
 have I:=S5 d1;have J:=S5 d7;have M:=C' (.inl d6);unfold Cs sk jz lF lH vw
 (dsimp +instances only[Aa,Ab,Ac,Ad,Ae,Af,Ag])
 simp only[JE,xl rfl,I,J,M,F]
 (dsimp +instances only[Aa,Ab,Ac,Ad,Ae,Af,Ag])
 generalize lG si=b1;generalize cq no 1 1000000=N;generalize cq at_ 0 345686399999=O;generalize cq kd 1 5=R;generalize jY [.i t,.i m,.s b,.s c,.i s,.i h,.s x,.s y]=v;cases b1<;>cases N<;>cases O<;>cases R<;>try rfl
 cases kd==1
 ·cases kd == 2
  ·cases kd == 5
   ·cases cq s 1 99999
    ·rfl
    ·exact oQ _
   ·cases lG ba<;>cases cq ot 1 1000000<;>first|rfl|exact oQ _
  ·cases jX bd<;>first|rfl|exact oQ _
 ·cases v != 0<;>cases aB at_ t<;>first|rfl|exact oQ _
theorem ahy(no at_ t m s h ot:Int)(si b c x y bd ba:ByteArray):lA [.l [[.s si,.i no,.i at_,.i 1,.i t,.i m,.s b,.s c,.i s,.i h,.s x,.s y,.s bd,.s ba,.i ot]]]=some [.t (aq ak [.s si,.i no,.i at_,.i 1,.i t,.i m,.s b,.s c,.i s,.i h,.s x,.s y,.s bd,.s ba,.i ot] [.s si,.i no,.i at_,.i 1,.i t,.i m,.s b,.s c,.i s,.i h,.s x,.s y,.s (⟨#[]⟩:ByteArray),.s (⟨#[]⟩:ByteArray),.i 0])]:=by
 have e:aq ak [.s si,.i no,.i at_,.i 1,.i t,.i m,.s b,.s c,.i s,.i h,.s x,.s y,.s bd,.s ba,.i ot] [.s si,.i no,.i at_,.i 1,.i t,.i m,.s b,.s c,.i s,.i h,.s x,.s y,.s (⟨#[]⟩:ByteArray),.s (⟨#[]⟩:ByteArray),.i 0]=((si.toList==si.toList)&&((no==no)&&((at_==at_)&&(((1:Int)==1)&&((t==t)&&((m==m)&&((b.toList==b.toList)&&((c.toList==c.toList)&&((s==s)&&((h==h)&&((x.toList==x.toList)&&((y.toList==y.toList)&&((bd.toList==(⟨#[]⟩:ByteArray).toList)&&((ba.toList==(⟨#[]⟩:ByteArray).toList)&&((ot==0)&&true))))))))))))))):=rfl;have d:aq [.int .i64,.int .i64,.str,.str,.int .i64,.int .i64,.str,.str] [.i t,.i m,.s b,.s c,.i s,.i h,.s x,.s y] [.i 0,.i 0,.s (⟨#[]⟩:ByteArray),.s (⟨#[]⟩:ByteArray),.i 0,.i 0,.s (⟨#[]⟩:ByteArray),.s (⟨#[]⟩:ByteArray)]=((t==0)&&((m==0)&&((b.toList==(⟨#[]⟩:ByteArray).toList)&&((c.toList==(⟨#[]⟩:ByteArray).toList)&&((s==0)&&((h==0)&&((x.toList==(⟨#[]⟩:ByteArray).toList)&&((y.toList==(⟨#[]⟩:ByteArray).toList)&&true)))))))):=rfl;rw[e];unfold lA
 (dsimp +instances only[Aa,Ab,Ac,Ad,Ae,Af,Ag])
 try rw[d]
 simp only[beq_self_eq_true,jj,dU,mM];generalize (bd.toList==(⟨#[]⟩:ByteArray).toList)=g;generalize (ba.toList==(⟨#[]⟩:ByteArray).toList)=k;generalize (ot==0)=q;cases g<;>cases k<;>cases q<;>rfl
theorem ahz(no at_ t m s h ot:Int)(si b c x y bd ba:ByteArray):lA [.l [[.s si,.i no,.i at_,.i 2,.i t,.i m,.s b,.s c,.i s,.i h,.s x,.s y,.s bd,.s ba,.i ot]]]=some [.t (aq ak [.s si,.i no,.i at_,.i 2,.i t,.i m,.s b,.s c,.i s,.i h,.s x,.s y,.s bd,.s ba,.i ot] [.s si,.i no,.i at_,.i 2,.i 0,.i 0,.s (⟨#[]⟩:ByteArray),.s (⟨#[]⟩:ByteArray),.i 0,.i 0,.s (⟨#[]⟩:ByteArray),.s (⟨#[]⟩:ByteArray),.s bd,.s (⟨#[]⟩:ByteArray),.i 0])]:=by
 have e:aq ak [.s si,.i no,.i at_,.i 2,.i t,.i m,.s b,.s c,.i s,.i h,.s x,.s y,.s bd,.s ba,.i ot] [.s si,.i no,.i at_,.i 2,.i 0,.i 0,.s (⟨#[]⟩:ByteArray),.s (⟨#[]⟩:ByteArray),.i 0,.i 0,.s (⟨#[]⟩:ByteArray),.s (⟨#[]⟩:ByteArray),.s bd,.s (⟨#[]⟩:ByteArray),.i 0]=((si.toList==si.toList)&&((no==no)&&((at_==at_)&&(((2:Int)==2)&&((t==0)&&((m==0)&&((b.toList==(⟨#[]⟩:ByteArray).toList)&&((c.toList==(⟨#[]⟩:ByteArray).toList)&&((s==0)&&((h==0)&&((x.toList==(⟨#[]⟩:ByteArray).toList)&&((y.toList==(⟨#[]⟩:ByteArray).toList)&&((bd.toList==bd.toList)&&((ba.toList==(⟨#[]⟩:ByteArray).toList)&&((ot==0)&&true))))))))))))))):=rfl;have g:aq [.int .i64,.int .i64,.str,.str,.int .i64,.int .i64,.str,.str] [.i t,.i m,.s b,.s c,.i s,.i h,.s x,.s y] [.i 0,.i 0,.s (⟨#[]⟩:ByteArray),.s (⟨#[]⟩:ByteArray),.i 0,.i 0,.s (⟨#[]⟩:ByteArray),.s (⟨#[]⟩:ByteArray)]=((t==0)&&((m==0)&&((b.toList==(⟨#[]⟩:ByteArray).toList)&&((c.toList==(⟨#[]⟩:ByteArray).toList)&&((s==0)&&((h==0)&&((x.toList==(⟨#[]⟩:ByteArray).toList)&&((y.toList==(⟨#[]⟩:ByteArray).toList)&&true)))))))):=rfl;rw[e];unfold lA
 (dsimp +instances only[Aa,Ab,Ac,Ad,Ae,Af,Ag])
 try rw[g]
 simp only[beq_self_eq_true,jj,dU,mM];generalize (bd.toList==(⟨#[]⟩:ByteArray).toList)=k;generalize (ba.toList==(⟨#[]⟩:ByteArray).toList)=q;generalize (ot==0)=A;generalize ((t==0))=B;generalize ((m==0))=F;generalize ((b.toList==(⟨#[]⟩:ByteArray).toList))=I;generalize ((c.toList==(⟨#[]⟩:ByteArray).toList))=J;generalize ((s==0))=M;generalize ((h==0))=N;generalize ((x.toList==(⟨#[]⟩:ByteArray).toList))=O;generalize ((y.toList==(⟨#[]⟩:ByteArray).toList))=d;cases B
 ·rfl
 cases F
 ·rfl
 cases I
 ·rfl
 cases J
 ·rfl
 cases M
 ·rfl
 cases N
 ·rfl
 cases O
 ·rfl
 cases d
 ·rfl
 cases k<;>cases q<;>cases A<;>rfl
theorem ahA(no at_ t m s h ot:Int)(si b c x y bd ba:ByteArray):lA [.l [[.s si,.i no,.i at_,.i 3,.i t,.i m,.s b,.s c,.i s,.i h,.s x,.s y,.s bd,.s ba,.i ot]]]=some [.t (aq ak [.s si,.i no,.i at_,.i 3,.i t,.i m,.s b,.s c,.i s,.i h,.s x,.s y,.s bd,.s ba,.i ot] [.s si,.i no,.i at_,.i 3,.i 0,.i 0,.s (⟨#[]⟩:ByteArray),.s (⟨#[]⟩:ByteArray),.i s,.i 0,.s (⟨#[]⟩:ByteArray),.s (⟨#[]⟩:ByteArray),.s (⟨#[]⟩:ByteArray),.s (⟨#[]⟩:ByteArray),.i 0])]:=by
 have e:aq ak [.s si,.i no,.i at_,.i 3,.i t,.i m,.s b,.s c,.i s,.i h,.s x,.s y,.s bd,.s ba,.i ot] [.s si,.i no,.i at_,.i 3,.i 0,.i 0,.s (⟨#[]⟩:ByteArray),.s (⟨#[]⟩:ByteArray),.i s,.i 0,.s (⟨#[]⟩:ByteArray),.s (⟨#[]⟩:ByteArray),.s (⟨#[]⟩:ByteArray),.s (⟨#[]⟩:ByteArray),.i 0]=((si.toList==si.toList)&&((no==no)&&((at_==at_)&&(((3:Int)==3)&&((t==0)&&((m==0)&&((b.toList==(⟨#[]⟩:ByteArray).toList)&&((c.toList==(⟨#[]⟩:ByteArray).toList)&&((s==s)&&((h==0)&&((x.toList==(⟨#[]⟩:ByteArray).toList)&&((y.toList==(⟨#[]⟩:ByteArray).toList)&&((bd.toList==(⟨#[]⟩:ByteArray).toList)&&((ba.toList==(⟨#[]⟩:ByteArray).toList)&&((ot==0)&&true))))))))))))))):=rfl;have d:aq [.int .i64,.int .i64,.str,.str,.int .i64,.int .i64,.str,.str] [.i t,.i m,.s b,.s c,.i s,.i h,.s x,.s y] [.i 0,.i 0,.s (⟨#[]⟩:ByteArray),.s (⟨#[]⟩:ByteArray),.i s,.i 0,.s (⟨#[]⟩:ByteArray),.s (⟨#[]⟩:ByteArray)]=((t==0)&&((m==0)&&((b.toList==(⟨#[]⟩:ByteArray).toList)&&((c.toList==(⟨#[]⟩:ByteArray).toList)&&((s==s)&&((h==0)&&((x.toList==(⟨#[]⟩:ByteArray).toList)&&((y.toList==(⟨#[]⟩:ByteArray).toList)&&true)))))))):=rfl;rw[e];unfold lA
 (dsimp +instances only[Aa,Ab,Ac,Ad,Ae,Af,Ag])
 try rw[d]
 simp only[beq_self_eq_true,jj,dU,mM];generalize (bd.toList==(⟨#[]⟩:ByteArray).toList)=g;generalize (ba.toList==(⟨#[]⟩:ByteArray).toList)=k;generalize (ot==0)=q;generalize ((t==0))=A;generalize ((m==0))=B;generalize ((b.toList==(⟨#[]⟩:ByteArray).toList))=F;generalize ((c.toList==(⟨#[]⟩:ByteArray).toList))=I;generalize ((h==0))=J;generalize ((x.toList==(⟨#[]⟩:ByteArray).toList))=M;generalize ((y.toList==(⟨#[]⟩:ByteArray).toList))=N;cases A
 ·rfl
 cases B
 ·rfl
 cases F
 ·rfl
 cases I
 ·rfl
 cases J
 ·rfl
 cases M
 ·rfl
 cases N
 ·rfl
 cases g<;>cases k<;>cases q<;>rfl
theorem ahB(no at_ t m s h ot:Int)(si b c x y bd ba:ByteArray):lA [.l [[.s si,.i no,.i at_,.i 4,.i t,.i m,.s b,.s c,.i s,.i h,.s x,.s y,.s bd,.s ba,.i ot]]]=some [.t (aq ak [.s si,.i no,.i at_,.i 4,.i t,.i m,.s b,.s c,.i s,.i h,.s x,.s y,.s bd,.s ba,.i ot] [.s si,.i no,.i at_,.i 4,.i 0,.i 0,.s (⟨#[]⟩:ByteArray),.s (⟨#[]⟩:ByteArray),.i s,.i 0,.s (⟨#[]⟩:ByteArray),.s (⟨#[]⟩:ByteArray),.s (⟨#[]⟩:ByteArray),.s (⟨#[]⟩:ByteArray),.i 0])]:=by
 have e:aq ak [.s si,.i no,.i at_,.i 4,.i t,.i m,.s b,.s c,.i s,.i h,.s x,.s y,.s bd,.s ba,.i ot] [.s si,.i no,.i at_,.i 4,.i 0,.i 0,.s (⟨#[]⟩:ByteArray),.s (⟨#[]⟩:ByteArray),.i s,.i 0,.s (⟨#[]⟩:ByteArray),.s (⟨#[]⟩:ByteArray),.s (⟨#[]⟩:ByteArray),.s (⟨#[]⟩:ByteArray),.i 0]=((si.toList==si.toList)&&((no==no)&&((at_==at_)&&(((4:Int)==4)&&((t==0)&&((m==0)&&((b.toList==(⟨#[]⟩:ByteArray).toList)&&((c.toList==(⟨#[]⟩:ByteArray).toList)&&((s==s)&&((h==0)&&((x.toList==(⟨#[]⟩:ByteArray).toList)&&((y.toList==(⟨#[]⟩:ByteArray).toList)&&((bd.toList==(⟨#[]⟩:ByteArray).toList)&&((ba.toList==(⟨#[]⟩:ByteArray).toList)&&((ot==0)&&true))))))))))))))):=rfl;have d:aq [.int .i64,.int .i64,.str,.str,.int .i64,.int .i64,.str,.str] [.i t,.i m,.s b,.s c,.i s,.i h,.s x,.s y] [.i 0,.i 0,.s (⟨#[]⟩:ByteArray),.s (⟨#[]⟩:ByteArray),.i s,.i 0,.s (⟨#[]⟩:ByteArray),.s (⟨#[]⟩:ByteArray)]=((t==0)&&((m==0)&&((b.toList==(⟨#[]⟩:ByteArray).toList)&&((c.toList==(⟨#[]⟩:ByteArray).toList)&&((s==s)&&((h==0)&&((x.toList==(⟨#[]⟩:ByteArray).toList)&&((y.toList==(⟨#[]⟩:ByteArray).toList)&&true)))))))):=rfl;rw[e];unfold lA
 (dsimp +instances only[Aa,Ab,Ac,Ad,Ae,Af,Ag])
 try rw[d]
 simp only[beq_self_eq_true,jj,dU,mM];generalize (bd.toList==(⟨#[]⟩:ByteArray).toList)=g;generalize (ba.toList==(⟨#[]⟩:ByteArray).toList)=k;generalize (ot==0)=q;generalize ((t==0))=A;generalize ((m==0))=B;generalize ((b.toList==(⟨#[]⟩:ByteArray).toList))=F;generalize ((c.toList==(⟨#[]⟩:ByteArray).toList))=I;generalize ((h==0))=J;generalize ((x.toList==(⟨#[]⟩:ByteArray).toList))=M;generalize ((y.toList==(⟨#[]⟩:ByteArray).toList))=N;cases A
 ·rfl
 cases B
 ·rfl
 cases F
 ·rfl
 cases I
 ·rfl
 cases J
 ·rfl
 cases M
 ·rfl
 cases N
 ·rfl
 cases g<;>cases k<;>cases q<;>rfl
theorem ahC(no at_ t m s h ot:Int)(si b c x y bd ba:ByteArray):lA [.l [[.s si,.i no,.i at_,.i 5,.i t,.i m,.s b,.s c,.i s,.i h,.s x,.s y,.s bd,.s ba,.i ot]]]=some [.t (aq ak [.s si,.i no,.i at_,.i 5,.i t,.i m,.s b,.s c,.i s,.i h,.s x,.s y,.s bd,.s ba,.i ot] [.s si,.i no,.i at_,.i 5,.i 0,.i 0,.s (⟨#[]⟩:ByteArray),.s (⟨#[]⟩:ByteArray),.i 0,.i 0,.s (⟨#[]⟩:ByteArray),.s (⟨#[]⟩:ByteArray),.s (⟨#[]⟩:ByteArray),.s ba,.i ot])]:=by
 have e:aq ak [.s si,.i no,.i at_,.i 5,.i t,.i m,.s b,.s c,.i s,.i h,.s x,.s y,.s bd,.s ba,.i ot] [.s si,.i no,.i at_,.i 5,.i 0,.i 0,.s (⟨#[]⟩:ByteArray),.s (⟨#[]⟩:ByteArray),.i 0,.i 0,.s (⟨#[]⟩:ByteArray),.s (⟨#[]⟩:ByteArray),.s (⟨#[]⟩:ByteArray),.s ba,.i ot]=((si.toList==si.toList)&&((no==no)&&((at_==at_)&&(((5:Int)==5)&&((t==0)&&((m==0)&&((b.toList==(⟨#[]⟩:ByteArray).toList)&&((c.toList==(⟨#[]⟩:ByteArray).toList)&&((s==0)&&((h==0)&&((x.toList==(⟨#[]⟩:ByteArray).toList)&&((y.toList==(⟨#[]⟩:ByteArray).toList)&&((bd.toList==(⟨#[]⟩:ByteArray).toList)&&((ba.toList==ba.toList)&&((ot==ot)&&true))))))))))))))):=rfl;have g:aq [.int .i64,.int .i64,.str,.str,.int .i64,.int .i64,.str,.str] [.i t,.i m,.s b,.s c,.i s,.i h,.s x,.s y] [.i 0,.i 0,.s (⟨#[]⟩:ByteArray),.s (⟨#[]⟩:ByteArray),.i 0,.i 0,.s (⟨#[]⟩:ByteArray),.s (⟨#[]⟩:ByteArray)]=((t==0)&&((m==0)&&((b.toList==(⟨#[]⟩:ByteArray).toList)&&((c.toList==(⟨#[]⟩:ByteArray).toList)&&((s==0)&&((h==0)&&((x.toList==(⟨#[]⟩:ByteArray).toList)&&((y.toList==(⟨#[]⟩:ByteArray).toList)&&true)))))))):=rfl;rw[e];unfold lA
 (dsimp +instances only[Aa,Ab,Ac,Ad,Ae,Af,Ag])
 try rw[g]
 simp only[beq_self_eq_true,jj,dU,mM];generalize (bd.toList==(⟨#[]⟩:ByteArray).toList)=k;generalize (ba.toList==(⟨#[]⟩:ByteArray).toList)=q;generalize (ot==0)=A;generalize ((t==0))=B;generalize ((m==0))=F;generalize ((b.toList==(⟨#[]⟩:ByteArray).toList))=I;generalize ((c.toList==(⟨#[]⟩:ByteArray).toList))=J;generalize ((s==0))=M;generalize ((h==0))=N;generalize ((x.toList==(⟨#[]⟩:ByteArray).toList))=O;generalize ((y.toList==(⟨#[]⟩:ByteArray).toList))=d;cases B
 ·rfl
 cases F
 ·rfl
 cases I
 ·rfl
 cases J
 ·rfl
 cases M
 ·rfl
 cases N
 ·rfl
 cases O
 ·rfl
 cases d
 ·rfl
 cases k<;>cases q<;>cases A<;>rfl
section
variable (si b c x y bd ba:ByteArray) (no at_ t m s h ot:Int)
theorem ahD(v:Int)(g:uV [.l [[.i t,.i m,.s b,.s c,.i s,.i h,.s x,.s y]]]=some [.i v]) :
  nD [.l [[.s si,.i no,.i at_,.i 1,.i t,.i m,.s b,.s c,.i s,.i h,.s x,.s y,.s bd,.s ba,.i ot]]]=some [.i (bif v != 0 then v else bif aB at_ t then 1 else 0)]:=by
 have e:B8 [.l [[.s si,.i no,.i at_,.i 1,.i t,.i m,.s b,.s c,.i s,.i h,.s x,.s y,.s bd,.s ba,.i ot]]]=some [.i (bif v != 0 then v else bif aB at_ t then 1 else 0)]:=by
  refine aa.toEq ?_;unfold B8
  (dsimp +instances only[Aa,Ab,Ac,Ad,Ae,Af,Ag])
  refine aa.cE g ?_
  (dsimp +instances only[Aa,Ab,Ac,Ad,Ae,Af,Ag])
  refine aa.test (fun h1=>aa.some ?_) fun h1=>aa.test (fun d=>aa.some ?_) fun d=>aa.some ?_
  ·simp only[h1,cond_true]
  ·simp only[h1,d,cond_true,cond_false]
  ·simp only[h1,d,cond_false]
 refine aa.toEq ?_;unfold nD
 (dsimp +instances only[Aa,Ab,Ac,Ad,Ae,Af,Ag])
 try refine aa.pos rfl ?_
 refine aa.cE e ?_;exact aa.some rfl
theorem ahE(d:bd∈jy) :
  nD [.l [[.s si,.i no,.i at_,.i 2,.i t,.i m,.s b,.s c,.i s,.i h,.s x,.s y,.s bd,.s ba,.i ot]]]=some [.i (bif !jX bd then 5 else 0)]:=by
 refine aa.toEq ?_;unfold nD
 (dsimp +instances only[Aa,Ab,Ac,Ad,Ae,Af,Ag])
 try refine aa.neg rfl ?_
 try refine aa.pos rfl ?_
 refine aa.cE (SQ (.inl d)) ?_;cases jX bd<;>exact aa.some rfl
theorem ahF(d:ba∈fj) :
  nD [.l [[.s si,.i no,.i at_,.i 5,.i t,.i m,.s b,.s c,.i s,.i h,.s x,.s y,.s bd,.s ba,.i ot]]]=some [.i (bif !lG ba then 5 else bif !cq ot 1 1000000 then 1 else 0)]:=by
 refine aa.toEq ?_;unfold nD
 (dsimp +instances only[Aa,Ab,Ac,Ad,Ae,Af,Ag])
 try refine aa.neg rfl ?_
 try refine aa.neg rfl ?_
 try refine aa.pos rfl ?_
 refine aa.cE (S4 d) ?_;cases lG ba
 ·exact aa.some rfl
 refine aa.neg rfl ?_;refine aa.cE (oP ot 1 1000000) ?_;cases cq ot 1 1000000<;>exact aa.some rfl
theorem ahG(kd:Int)(hk:kd=3∨kd=4) :
  nD [.l [[.s si,.i no,.i at_,.i kd,.i t,.i m,.s b,.s c,.i s,.i h,.s x,.s y,.s bd,.s ba,.i ot]]]=some [.i (bif !cq s 1 99999 then 1 else 0)]:=by
 refine aa.toEq ?_;unfold nD
 (dsimp +instances only[Aa,Ab,Ac,Ad,Ae,Af,Ag])
 refine aa.neg (by rcases hk with rfl|rfl<;>rfl) (aa.neg (by rcases hk with rfl|rfl<;>rfl) (aa.neg (by rcases hk with rfl|rfl<;>rfl) ?_));refine aa.cE (oP s 1 99999) ?_;cases cq s 1 99999<;>exact aa.some rfl
end
theorem S6(v:Int):r9 [.i v]=some [.t (cq v 0 345686399999)]:=by
 refine aa.toEq ?_;unfold r9
 (dsimp +instances only[Aa,Ab,Ac,Ad,Ae,Af,Ag])
 refine aa.cE (oP v 0 345686399999) ?_;cases cq v 0 345686399999<;>exact aa.some rfl
theorem ahH{r:List G}(hr:aV r):B9 [.l [r]]=some [.i (jz r)]:=by
 obtain⟨si,no,at_,kd,t,m,b,c,s,h,x,y,bd,ba,ot,rfl,d1,_,_,_,⟨c1,c2,g,k,q,A,B,F⟩,d6,d7,_⟩:=hr;have I:uV [.l [[.i t,.i m,.s b,.s c,.i s,.i h,.s x,.s y]]]=some [.i (jY [.i t,.i m,.s b,.s c,.i s,.i h,.s x,.s y])] :=
  ahj ⟨t,m,b,c,s,h,x,y,rfl,c1,c2,q,A,g,k,B,F⟩
 have hk:cq kd 1 5=true→kd=1∨kd=2∨kd=5∨kd=3∨kd=4:=by
  unfold cq;rw[eD,eD,ay,decide_eq_true_eq,decide_eq_true_eq];omega
 refine aa.toEq ?_;unfold B9 jz lF lH vw
 (dsimp +instances only[Aa,Ab,Ac,Ad,Ae,Af,Ag])
 refine aa.cE (S4 d1) ?_;cases lG si
 ·exact aa.some rfl
 refine aa.neg rfl ?_;refine aa.cE (oP no 1 1000000) ?_;cases cq no 1 1000000
 ·exact aa.some rfl
 refine aa.neg rfl ?_;refine aa.cE (S6 at_) ?_;cases cq at_ 0 345686399999
 ·exact aa.some rfl
 refine aa.neg rfl ?_;refine aa.cE (oP kd 1 5) ?_;cases d:cq kd 1 5
 ·exact aa.some rfl
 refine aa.neg rfl ?_;rcases hk d with rfl|rfl|rfl|hk
 ·refine aa.call (aa.eq (ahD si b c x y bd ba no at_ t m s h ot _ I)) ?_
  rintro _ rfl
  (dsimp +instances only[Aa,Ab,Ac,Ad,Ae,Af,Ag])
  generalize jY [.i t,.i m,.s b,.s c,.i s,.i h,.s x,.s y]=v;cases J:v != 0
  ·cases aB at_ t
   ·refine aa.neg rfl ?_
    refine aa.cE (ahy no at_ t m s h ot si b c x y bd ba) ?_;exact⟨_,oQ _,rfl⟩
   ·exact aa.pos rfl (aa.some rfl)
  ·exact aa.pos J (aa.some rfl)
 ·refine aa.call (aa.eq (ahE si b c x y bd ba no at_ t m s h ot d6)) ?_
  rintro _ rfl;cases jX bd
  ·exact aa.pos rfl (aa.some rfl)
  refine aa.neg rfl ?_;refine aa.cE (ahz no at_ t m s h ot si b c x y bd ba) ?_;exact⟨_,oQ _,rfl⟩
 ·refine aa.call (aa.eq (ahF si b c x y bd ba no at_ t m s h ot d7)) ?_
  rintro _ rfl;cases lG ba
  ·exact aa.pos rfl (aa.some rfl)
  cases cq ot 1 1000000
  ·exact aa.pos rfl (aa.some rfl)
  refine aa.neg rfl ?_;refine aa.cE (ahC no at_ t m s h ot si b c x y bd ba) ?_;exact⟨_,oQ _,rfl⟩
 ·refine aa.call (aa.eq (ahG si b c x y bd ba no at_ t m s h ot kd hk)) ?_
  rintro _ rfl;cases cq s 1 99999
  ·refine aa.pos rfl (aa.some ?_)
   rcases hk with rfl|rfl<;>rfl
  refine aa.neg rfl ?_;rcases hk with rfl|rfl
  ·refine aa.call (aa.eq (ahA no at_ t m s h ot si b c x y bd ba)) ?_
   rintro _ rfl;exact⟨_,oQ _,rfl⟩
  ·refine aa.call (aa.eq (ahB no at_ t m s h ot si b c x y bd ba)) ?_
   rintro _ rfl;exact⟨_,oQ _,rfl⟩
def qy(rows:List (List G))(i:Nat):Prop:=(∀ j,j<i→jz (rows.getD j [])=0)∧∀ j,j+1<i→fJ (rows.getD j []) (rows.getD (j+1) [])<0
def lI(rows:List (List G))(i:Nat)(v:Int):Prop:=qy rows i∧i<rows.length ∧
 ((jz (rows.getD i [])≠0∧v=jz (rows.getD i []))∨(jz (rows.getD i [])=0∧0<i∧¬ fJ (rows.getD (i-1) []) (rows.getD i [])<0∧v=7))
theorem lI.ne{rows:List (List G)}{i:Nat}{v:Int}(h:lI rows i v):v≠0:=by
 rcases h.2.2 with⟨h1,rfl⟩|⟨_,_,_,rfl⟩
 ·exact h1
 ·decide
theorem lI.Df{rows:List (List G)}{i j:Nat}{v:Int}(h:lI rows i v)(d:i<j):¬ qy rows j:=by
 rintro⟨h1,g⟩;rcases h.2.2 with⟨k,_⟩|⟨_,A,q,_⟩
 ·exact k (h1 i d)
 ·have := g (i - 1) (by omega)
  rw[show i-1+1=i by omega]at this;exact q this
theorem lI.unique{rows:List (List G)}{i j:Nat}{v w:Int}(h:lI rows i v)(h':lI rows j w):v=w:=by
 have e:i=j:=by
  rcases Nat.lt_trichotomy i j with e|e|e
  ·exact(h.Df e h'.1).elim
  ·exact e
  ·exact(h'.Df e h.1).elim
 subst e;rcases h.2.2 with⟨h1,rfl⟩|⟨h1,_,_,rfl⟩<;>rcases h'.2.2 with⟨d,rfl⟩|⟨d,_,_,rfl⟩
 ·rfl
 ·exact(h1 d).elim
 ·exact(d h1).elim
 ·rfl
theorem ahI(rows:List (List G))(hr:∀ z∈rows,aV z)(hn:rows.length≤20) :
  fw yk [.l rows,.l rows,.i (rows.length:Int),.i 0] fun c g=>(qy rows rows.length∧c=1∧g=[.l rows])∨(c=0∧∃ v,(∃ i,lI rows i v)∧g=[.i v]):=by
 refine(uF (σ:=Unit) (fun _ i=>[.l rows,.l rows,.i (rows.length:Int),.i (i:Int)]) rows (fun _=>(1,[.l rows])) (fun _ i=>qy rows i) (fun c g=>c=0∧∃ v,(∃ i,lI rows i v)∧g=[.i v]) () (by omega) ⟨fun j h=>by omega,fun j h=>by omega⟩ ?_ ?_).mono ?_
 ·intro _ i x q hi d hm _
  unfold yk
  (dsimp +instances only[Aa,Ab,Ac,Ad,Ae,Af,Ag])
  have ex:=(hr x hm).eta;refine aa.p (aa.p ?_);simp only[aH,d,ex];refine aa.cE (ahx (hr x hm)) ?_
  (dsimp +instances only[Aa,Ab,Ac,Ad,Ae,Af,Ag])
  refine aa.test (fun h1=>aa.some (.inr ⟨0,_,rfl,rfl,_,⟨i,q,hi,.inl ⟨by rw[d]; simpa using h1,by rw[d]⟩⟩,rfl⟩)) fun h1=>?_;have h1:jz x=0:=by simpa using h1
  refine aa.test (fun k=>?_) fun k=>?_
  ·have k:0<i:=by
    rw[dG,decide_eq_true_eq]at k;omega
   have I:((i:Int)-1).toNat=i-1:=by omega
   have F:rows.getD (i-1) []∈rows:=kC (by omega);refine aa.p (aa.p ?_);simp only[I,(hr _ F).eta];refine aa.cE (S3 (hr _ F) (hr x hm)) ?_
   (dsimp +instances only[Aa,Ab,Ac,Ad,Ae,Af,Ag])
   refine aa.test (fun A=>aa.some (.inr ⟨0,_,rfl,rfl,7,⟨i,q,hi,.inr ⟨by rw[d]; exact h1,k,by rw[eD,decide_eq_true_eq]at A; rw[d]; omega,rfl⟩⟩,rfl⟩)) fun A=>?_;refine aa.p (aa.some (.inl ⟨(),rfl,fun j B=>?_,fun j B=>?_⟩))
   ·by_cases e : j = i
    ·rw[e,d,h1]
    ·exact q.1 j (by omega)
   ·by_cases e : j + 1 = i
    ·rw [eD, decide_eq_false_iff_not] at A
     rw[e,d,show j=i-1 from by omega];omega
    ·exact q.2 j (by omega)
  ·have k:i=0:=by
    rw[dG,decide_eq_false_iff_not]at k;omega
   refine aa.p (aa.some (.inl ⟨(),rfl,fun j B=>?_,fun j B=>by omega⟩));rw[show j=i from by omega,d,h1]
 ·intro _ _
  unfold yk
  (dsimp +instances only[Aa,Ab,Ac,Ad,Ae,Af,Ag])
  refine aa.n (aa.some rfl)
 ·rintro c g (⟨_, h, rfl, rfl⟩ | h)
  ·exact .inl ⟨h,rfl,rfl⟩
  ·exact .inr h
def dT(r s:List G):Bool:=((gi r 0).str.toList==(gi s 0).str.toList)&&((gi r 1).int==(gi s 1).int)
theorem ahJ{r s:List G}(hr:aV r)(hs:aV s):Cv [.l [r],.l [s]]=some [.t (dT r s)]:=by
 have e:Cu [.l [r],.l [s]]=some [.t (dT r s)]:=by
  refine aa.toEq ?_;unfold Cu dT
  (dsimp +instances only[Aa,Ab,Ac,Ad,Ae,Af,Ag])
  cases (gi r 0).str.toList==(gi s 0).str.toList<;>exact aa.some rfl
 refine aa.toEq ?_;unfold Cv
 (dsimp +instances only[Aa,Ab,Ac,Ad,Ae,Af,Ag])
 simp only[hr.eta,hs.eta];refine aa.cE e ?_;exact aa.some rfl
theorem ahK(p:List (List G))(x:List G)(q:∀ z∈p,aV z)(d:aV x)(hn:p.length≤20) :
  aa (Cy [.l p,.l [x]]) fun g=>∃ b,g=[.t b]∧(b=false→∀ j,j<p.length→dT (p.getD j []) x=false)∧(b=true→∃ j,j<p.length∧dT (p.getD j []) x=true):=by
 have key:aa (Cx [.l p,.l [x]]) fun g=>∃ v:Int,g=[.i v]∧(v<0→∀ j,j<p.length→dT (p.getD j []) x=false)∧(0≤v→∃ j,j<p.length∧dT (p.getD j []) x=true):=by
  unfold Cx
  (dsimp +instances only[Aa,Ab,Ac,Ad,Ae,Af,Ag])
  simp only[d.eta];refine aa.loop (P:=fun c g=>(c=1∧g=[]∧∀ j,j<p.length→dT (p.getD j []) x=false)∨(c=0∧∃ v:Int,0≤v∧g=[.i v]∧∃ j,j<p.length∧dT (p.getD j []) x=true)) ((uF (σ:=Unit) (fun _ i=>[.l p,.l [x],.i (p.length:Int),.i (i:Int)]) p (fun _=>(1,[])) (fun _ i=>∀ j,j<i→dT (p.getD j []) x=false) (fun c g=>c=0∧∃ v:Int,0≤v∧g=[.i v]∧∃ j,j<p.length∧dT (p.getD j []) x=true) () (by omega) (fun j h=>by omega) ?_ ?_).mono ?_) rfl ?_
  ·intro _ i z A hi k hm _
   unfold Cw
   (dsimp +instances only[Aa,Ab,Ac,Ad,Ae,Af,Ag])
   refine aa.p (aa.p ?_);simp only[aH,k,(q z hm).eta,d.eta];refine aa.cE (ahJ (q z hm) d) ?_
   (dsimp +instances only[Aa,Ab,Ac,Ad,Ae,Af,Ag])
   refine aa.test (fun h1=>aa.some (.inr ⟨0,_,rfl,rfl,_,by omega,rfl,i,hi,by rw[k]; exact h1⟩)) fun h1=>?_;refine aa.p (aa.some (.inl ⟨(),rfl,fun j B=>?_⟩));by_cases e:j=i
   ·rw[e,k,h1]
   ·exact A j (by omega)
  ·intro _ _
   unfold Cw
   (dsimp +instances only[Aa,Ab,Ac,Ad,Ae,Af,Ag])
   exact aa.n (aa.some rfl)
  ·rintro c g (⟨_, h, rfl, rfl⟩ | h)
   ·exact .inl ⟨rfl,rfl,h⟩
   ·exact .inr h
  ·rintro c g (⟨rfl, rfl, h⟩ | ⟨rfl, v, F, rfl, h⟩)
   ·exact aa.neg rfl (aa.some ⟨-1,rfl,fun _=>h,fun h=>by omega⟩)
   ·exact aa.pos rfl (aa.some ⟨v,rfl,fun h=>by omega,fun _=>h⟩)
 unfold Cy
 (dsimp +instances only[Aa,Ab,Ac,Ad,Ae,Af,Ag])
 simp only[d.eta];refine aa.call key ?_;rintro _ ⟨v,rfl,h,h'⟩;refine aa.some ⟨bM 0 v,rfl,fun e=>h ?_,fun e=>h' ?_⟩
 ·rw [eD, decide_eq_false_iff_not] at e
  omega
 ·rw [eD, decide_eq_true_eq] at e
  exact e
def kF(rows:List (List G))(n:Nat):Prop:=∀ i,i<n→∀ j,j<i→dT (rows.getD j []) (rows.getD i [])=false
theorem ahL(rows:List (List G))(hr:∀ z∈rows,aV z)(hn:rows.length≤20) :
  fw ym [.l rows,.l rows,.i (rows.length:Int),.i 0] fun c g=>(kF rows rows.length∧c=1∧g=[])∨(c=0∧¬ kF rows rows.length∧g=[.i 6]):=by
 refine(uF (σ:=Unit) (fun _ i=>[.l rows,.l rows,.i (rows.length:Int),.i (i:Int)]) rows (fun _=>(1,[])) (fun _ i=>kF rows i) (fun c g=>c=0∧¬ kF rows rows.length∧g=[.i 6]) () (by omega) (fun j h=>by omega) ?_ ?_).mono ?_
 ·intro _ i x F hi d hm _
  unfold ym
  (dsimp +instances only[Aa,Ab,Ac,Ad,Ae,Af,Ag])
  refine aa.p (aa.p (aa.p ?_));simp only[aH,d,(hr x hm).eta];have N:(rows.take i).length=i:=by rw[fZ]; omega
  refine aa.call (ahK (rows.take i) x (fun z I=>hr z (List.mem_of_mem_take I)) (hr x hm) (by omega)) ?_;rintro _ ⟨b,rfl,J,B⟩
  (dsimp +instances only[Aa,Ab,Ac,Ad,Ae,Af,Ag])
  refine aa.test (fun h1=>aa.some (.inr ⟨0,_,rfl,rfl,fun M=>?_,rfl⟩)) fun h1=>?_
  ·obtain ⟨j, q, A⟩ := B h1
   have:=M i hi j (by omega);rw[cG,aki (by omega),←cG]at A;rw[d,A]at this;cases this
  refine aa.p (aa.some (.inl ⟨(),rfl,fun k hk j q=>?_⟩));by_cases e:k=i
  ·have := J h1 j (by omega)
   rw[cG,aki (by omega),←cG]at this;rw[e,d,this]
  ·exact F k (by omega) j q
 ·intro _ _
  unfold ym
  (dsimp +instances only[Aa,Ab,Ac,Ad,Ae,Af,Ag])
  exact aa.n (aa.some rfl)
 ·rintro c g (⟨_, h, rfl, rfl⟩ | h)
  ·exact .inl ⟨h,rfl,rfl⟩
  ·exact .inr h
def j0(rows:List (List G)):Prop:=qy rows rows.length∧kF rows rows.length
def j5(rows:List (List G))(v:Int):Prop:=(∃ i,lI rows i v)∨(qy rows rows.length∧((kF rows rows.length∧v=0)∨(¬ kF rows rows.length∧v=6)))
def j6(rows:List (List G)):Int:=Classical.epsilon (j5 rows)
theorem j5.unique{rows:List (List G)}{v w:Int}(h:j5 rows v)(h':j5 rows w):v=w:=by
 rcases h with⟨i,h⟩|⟨h1,h⟩<;>rcases h' with⟨j,h'⟩|⟨k,h'⟩
 ·exact h.unique h'
 ·exact(h.Df h.2.1 k).elim
 ·exact(h'.Df h'.2.1 h1).elim
 ·rcases h with ⟨d, rfl⟩ | ⟨d, rfl⟩ <;> rcases h' with ⟨g, rfl⟩ | ⟨g, rfl⟩
  ·rfl
  ·exact(g d).elim
  ·exact(d g).elim
  ·rfl
theorem j5.eq{rows:List (List G)}{v:Int}(h:j5 rows v):v=j6 rows:=h.unique (Classical.epsilon_spec (p:=j5 rows) ⟨v,h⟩)
theorem j5.zero{rows:List (List G)}(h:j5 rows 0):j0 rows:=by
 rcases h with⟨i,h⟩|⟨h1,⟨h,_⟩|⟨_,h⟩⟩
 ·exact(h.ne rfl).elim
 ·exact⟨h1,h⟩
 ·cases h
theorem j0.chk{rows:List (List G)}(h:j0 rows):j5 rows 0:=.inr ⟨h.1,.inl ⟨h.2,rfl⟩⟩
theorem j0.j6{rows:List (List G)}(h:j0 rows):j6 rows=0:=h.chk.eq.symm
theorem ahN(rows:List (List G))(hr:∀ z∈rows,aV z)(hn:rows.length≤20):yn [.l rows]=some [.i (j6 rows)]∧j5 rows (j6 rows):=by
 have key:aa (yn [.l rows]) fun g=>∃ v:Int,g=[.i v]∧j5 rows v:=by
  unfold yn
  (dsimp +instances only[Aa,Ab,Ac,Ad,Ae,Af,Ag])
  refine aa.n ?_;refine aa.loop (ahI rows hr hn) rfl ?_;rintro c g (⟨h1,rfl,rfl⟩|⟨rfl,v,d,rfl⟩)
  ·refine aa.neg rfl ?_
   refine aa.loop (ahL rows hr hn) rfl ?_;rintro c g (⟨k,rfl,rfl⟩|⟨rfl,d,rfl⟩)
   ·exact aa.neg rfl (aa.some ⟨0,rfl,.inr ⟨h1,.inl ⟨k,rfl⟩⟩⟩)
   ·exact aa.pos rfl (aa.some ⟨6,rfl,.inr ⟨h1,.inr ⟨d,rfl⟩⟩⟩)
  ·exact aa.pos rfl (aa.some ⟨v,rfl,.inl d⟩)
 obtain⟨_,h,v,rfl,d⟩:=key;have e:=d.eq;subst e;exact⟨h,d⟩
theorem j0.nil:j0 []:=⟨⟨fun j h=>by simp at h,fun j h=>by simp at h⟩,fun i h=>by simp at h⟩
theorem ahO(a b c:Int):nE [.l [[.i a],[.i b],[.i c]]]=some [.i (if a≠0 then a else if b≠0 then b else c)]:=by
 refine aa.toEq ?_;unfold nE
 (dsimp +instances only[Aa,Ab,Ac,Ad,Ae,Af,Ag])
 have h:=C_ [[.i a],[.i b],[.i c]] [] (by simp);refine aa.loop (h.to (by simp)) (by(first|rfl|assumption|(simp only[aw,sl]<;>omega))) ?_;rintro x g ⟨q,rfl⟩;have e:lE [[.i a],[.i b],[.i c]]=if a≠0 then a else if b≠0 then b else c:=by
  simp only[lE]
  (dsimp +instances only[Aa,Ab,Ac,Ad,Ae,Af,Ag])
  by_cases h1:a=0<;>by_cases d:b=0<;>by_cases k:c=0<;>simp[h1,d,k]
 rw[e]
 (dsimp +instances only[Aa,Ab,Ac,Ad,Ae,Af,Ag])
 exact aa.test (fun _=>aa.some rfl) fun _=>aa.some rfl
theorem S7{a b:Int}:(d_ a b≠0)↔a≠b:=by
 unfold d_;split
 ·constructor<;>intro _<;>omega
 ·split<;>constructor<;>intro _<;>omega
theorem ahP{r s:List G}(hr:aV r)(hs:aV s):Ca [.l [r],.l [s]]=some [.i (fJ r s)]:=by
 obtain⟨si,no,at_,_,_,_,_,_,_,_,_,_,_,_,_,rfl,_⟩:=hr;obtain⟨d,g,at',_,_,_,_,_,_,_,_,_,_,_,_,rfl,_⟩:=hs;refine aa.toEq ?_;unfold Ca fJ lF
 (dsimp +instances only[Aa,Ab,Ac,Ad,Ae,Af,Ag])
 refine aa.cE (yT at_ at') ?_;refine aa.cE (rfl:ir [.s si,.s d]=some [.i (di si d)]) ?_;refine aa.cE (yT no g) ?_
 (dsimp +instances only[Aa,Ab,Ac,Ad,Ae,Af,Ag])
 refine aa.cE (ahO _ _ _) ?_
 (dsimp +instances only[Aa,Ab,Ac,Ad,Ae,Af,Ag])
 by_cases h:at_=at'
 ·subst h
  exact aa.some (by simp[d_])
 ·have := (S7 (a := at_) (b := at')).2 h
  exact aa.some (by simp[this,h])
theorem ahQ(rows:List (List G))(hr:∀ z∈rows,aV z)(hn:rows.length≤20) :
  fw x_ [.l rows,.l rows,.i (rows.length:Int),.i 0] fun c g=>(qy rows rows.length∧c=1∧g=[.l rows])∨(c=0∧∃ v,(∃ i,lI rows i v)∧g=[.i v]):=by
 refine(uF (σ:=Unit) (fun _ i=>[.l rows,.l rows,.i (rows.length:Int),.i (i:Int)]) rows (fun _=>(1,[.l rows])) (fun _ i=>qy rows i) (fun c g=>c=0∧∃ v,(∃ i,lI rows i v)∧g=[.i v]) () (by omega) ⟨fun j h=>by omega,fun j h=>by omega⟩ ?_ ?_).mono ?_
 ·intro _ i x q hi d hm _
  unfold x_
  (dsimp +instances only[Aa,Ab,Ac,Ad,Ae,Af,Ag])
  have ex:=(hr x hm).eta;refine aa.p (aa.p ?_);simp only[aH,d,ex];refine aa.cE (ahH (hr x hm)) ?_
  (dsimp +instances only[Aa,Ab,Ac,Ad,Ae,Af,Ag])
  refine aa.test (fun h1=>aa.some (.inr ⟨0,_,rfl,rfl,_,⟨i,q,hi,.inl ⟨by rw[d]; simpa using h1,by rw[d]⟩⟩,rfl⟩)) fun h1=>?_;have h1:jz x=0:=by simpa using h1
  refine aa.test (fun k=>?_) fun k=>?_
  ·have k:0<i:=by
    rw[dG,decide_eq_true_eq]at k;omega
   have I:((i:Int)-1).toNat=i-1:=by omega
   have F:rows.getD (i-1) []∈rows:=kC (by omega);refine aa.p (aa.p ?_);simp only[I,(hr _ F).eta];refine aa.cE (ahP (hr _ F) (hr x hm)) ?_
   (dsimp +instances only[Aa,Ab,Ac,Ad,Ae,Af,Ag])
   refine aa.test (fun A=>aa.some (.inr ⟨0,_,rfl,rfl,7,⟨i,q,hi,.inr ⟨by rw[d]; exact h1,k,by rw[eD,decide_eq_true_eq]at A; rw[d]; omega,rfl⟩⟩,rfl⟩)) fun A=>?_;refine aa.p (aa.some (.inl ⟨(),rfl,fun j B=>?_,fun j B=>?_⟩))
   ·by_cases e : j = i
    ·rw[e,d,h1]
    ·exact q.1 j (by omega)
   ·by_cases e : j + 1 = i
    ·rw [eD, decide_eq_false_iff_not] at A
     rw[e,d,show j=i-1 from by omega];omega
    ·exact q.2 j (by omega)
  ·have k:i=0:=by
    rw[dG,decide_eq_false_iff_not]at k;omega
   refine aa.p (aa.some (.inl ⟨(),rfl,fun j B=>?_,fun j B=>by omega⟩));rw[show j=i from by omega,d,h1]
 ·intro _ _
  unfold x_
  (dsimp +instances only[Aa,Ab,Ac,Ad,Ae,Af,Ag])
  refine aa.n (aa.some rfl)
 ·rintro c g (⟨_, h, rfl, rfl⟩ | h)
  ·exact .inl ⟨h,rfl,rfl⟩
  ·exact .inr h
abbrev bk:List Kd:=[.str,.int .i64]
theorem JN(r s:List G):dT r s=dT s r:=by
 unfold dT;rw[oF (gi r 0).str.toList,oF (gi r 1).int]
theorem S8{r s:List G}(hr:aV r)(hs:aV s):aq bk (aR bk r) (aR bk s)=dT r s:=by
 obtain⟨_,_,_,_,_,_,_,_,_,_,_,_,_,_,_,rfl,_⟩:=hr;obtain⟨_,_,_,_,_,_,_,_,_,_,_,_,_,_,_,rfl,_⟩:=hs;simp only[aq,aR,kW,dT,lF]
 (dsimp +instances only[Aa,Ab,Ac,Ad,Ae,Af,Ag])
 simp[dU,Ge,G.str,G.int]
def sE(m rows:List (List G))(i:Nat):Prop:=∀ r,aV r→((gi (bZ bk m (aR bk r) [.t false]) 0).bool=true↔∃ j,j<i∧dT (rows.getD j []) r=true)
theorem sE.nil(rows:List (List G)):sE [] rows 0:=fun r _=>by
 rw[xQ];constructor
 ·intro h; cases h
 ·rintro⟨j,d,_⟩; omega
theorem sE.put{m rows:List (List G)}{i:Nat}{x:List G}(h:sE m rows i)(g:aV x)(e:rows.getD i []=x)(c:Nat):sE (bK bk m (aR bk x) [.t true] c) rows (i+1):=fun r hr=>by
 rw[nz,S8 hr g,JN];cases hs:dT x r with
 | true =>
  simp only[cond_true];exact⟨fun _=>⟨i,by omega,by rw[e]; exact hs⟩,fun _=>rfl⟩
 | false =>
  simp only[cond_false];rw[h r hr];constructor
  ·rintro⟨j,k,d⟩; exact⟨j,by omega,d⟩
  ·rintro ⟨j, k, d⟩
   by_cases q:j=i
   ·rw[q,e,hs]at d; cases d
   ·exact⟨j,by omega,d⟩
theorem ahR(rows:List (List G))(hr:∀ z∈rows,aV z)(hn:rows.length≤20) :
  fw ya [.l [],.i 0,.l rows,.i (rows.length:Int),.i 0] fun c g=>(kF rows rows.length∧c=1∧g=[])∨(c=0∧¬ kF rows rows.length∧g=[.i 6]):=by
 refine(uF (σ:=List (List G) × Nat) (fun s i=>[.l s.1,.i (s.2:Int),.l rows,.i (rows.length:Int),.i (i:Int)]) rows (fun _=>(1,[])) (fun s i=>kF rows i∧sE s.1 rows i) (fun c g=>c=0∧¬ kF rows rows.length∧g=[.i 6]) ([],0) (by omega) ⟨fun j h=>by omega,sE.nil rows⟩ ?_ ?_).mono ?_
 ·rintro ⟨m, ck⟩ i x ⟨I, A⟩ hi d hm _
  have B:=hr x hm;unfold ya
  (dsimp +instances only[Aa,Ab,Ac,Ad,Ae,Af,Ag])
  refine aa.p (aa.p ?_);simp only[aH,d];refine aa.test (fun h1=>aa.some (.inr ⟨0,_,rfl,rfl,fun J=>?_,rfl⟩)) fun h1=>?_
  ·obtain ⟨j, q, F⟩ := (A x B).1 h1
   have:=J i hi j q;rw[d,F]at this;cases this
  ·refine aa.p (aa.some (.inl ⟨(bK bk m (aR bk x) [.t true] ck, cU bk m (aR bk x) ck), rfl, fun k hk j q => ?_, A.put B d ck⟩))
   by_cases e:k=i
   ·subst e
    rw[d];cases F:dT (rows.getD j []) x with
    |false=>rfl
    | true =>
     rw[(A x B).2 ⟨j,q,F⟩]at h1;cases h1
   ·exact I k (by omega) j q
 ·rintro ⟨m, ck⟩ _
  unfold ya
  (dsimp +instances only[Aa,Ab,Ac,Ad,Ae,Af,Ag])
  exact aa.n (aa.some rfl)
 ·rintro c g (⟨_, h, rfl, rfl⟩ | h)
  ·exact .inl ⟨h.1,rfl,rfl⟩
  ·exact .inr h
theorem ahS(rows:List (List G))(hr:∀ z∈rows,aV z)(hn:rows.length≤20):yb [.l rows]=some [.i (j6 rows)]∧j5 rows (j6 rows):=by
 have key:aa (yb [.l rows]) fun g=>∃ v:Int,g=[.i v]∧j5 rows v:=by
  unfold yb
  (dsimp +instances only[Aa,Ab,Ac,Ad,Ae,Af,Ag])
  refine aa.n ?_;refine aa.loop (ahQ rows hr hn) rfl ?_;rintro c g (⟨h1,rfl,rfl⟩|⟨rfl,v,d,rfl⟩)
  ·refine aa.neg rfl ?_
   refine aa.loop (ahR rows hr hn) rfl ?_;rintro c g (⟨k,rfl,rfl⟩|⟨rfl,d,rfl⟩)
   ·exact aa.neg rfl (aa.some ⟨0,rfl,.inr ⟨h1,.inl ⟨k,rfl⟩⟩⟩)
   ·exact aa.pos rfl (aa.some ⟨6,rfl,.inr ⟨h1,.inr ⟨d,rfl⟩⟩⟩)
  ·exact aa.pos rfl (aa.some ⟨v,rfl,.inl d⟩)
 obtain⟨_,h,v,rfl,d⟩:=key;have e:=d.eq;subst e;exact⟨h,d⟩
def Dg(r:List G):Prop:=∃ n:Int,r=[.i n]
theorem S9:∀(n:Nat) (mid p q:List (List G)),mid.length≤n→(∀ z∈mid,Dg z)→p.length+mid.length+q.length<100000 →
  cD uO [.l (p++mid++q),.i (p.length:Int),.i ((p.length:Int)+(mid.length:Int)-1)] (n+1) fun c g=>c=0∧g=[.l (p++mid.reverse++q)]
 | n,[],p,q,_,_,d=>by
  refine cD.stop (x:=0) (aa.toEq ?_) ⟨rfl,rfl⟩;unfold uO
  (dsimp +instances only[Aa,Ab,Ac,Ad,Ae,Af,Ag])
  refine aa.neg (by simp only[gK,dG,decide_eq_false_iff_not]; omega) ?_;exact aa.some (by simp)
 | n,[x],p,q,_,_,d=>by
  refine cD.stop (x:=0) (aa.toEq ?_) ⟨rfl,rfl⟩;unfold uO
  (dsimp +instances only[Aa,Ab,Ac,Ad,Ae,Af,Ag])
  refine aa.neg (by simp only[cF,gK,dG,decide_eq_false_iff_not]; omega) ?_;exact aa.some (by simp)
 |0,x::k::m0,p,q,h,_,_=>by simp at h
 | n+1,x::k::m0,p,q,h,A,d=>by
  obtain⟨m,y,e⟩:∃ m y,k::m0=m++[y]:=⟨(k::m0).dropLast,(k::m0).getLast (by simp),(List.dropLast_concat_getLast (by simp)).symm⟩
  rw[e]at h A d⊢;have N:Dg x:=A x (by simp);have O:Dg y:=A y (by simp);simp only[cF,eY,gK]at h d⊢;have R:=S9 n m (p++[y]) (x::q) (by omega) (fun z U=>A z (by simp[U])) (by simp; omega);have W:p++x::(m++[y])++q=p++x::(m++y::q):=by simp
  have Y:p++x::(m++y::q)=(p++x::m)++y::q:=by simp
  have ji:((p.length:Int)+((m.length+(0+1)+1:Nat):Int)-1).toNat=(p++x::m).length:=by simp; omega
  have g1:(p++x::(m++y::q)).getD p.length []=x:=kD _ _ _ _ _ rfl;have g2:(p++x::(m++y::q)).getD (p++x::m).length []=y:=by rw[Y]; exact kD _ _ _ _ _ rfl
  have s1:(p++x::(m++y::q)).set p.length y=p++y::(m++y::q):=BQ _ _ _ _ _ rfl;have F:p++y::(m++y::q)=(p++y::m)++y::q:=by simp
  have I:(p++x::m).length=(p++y::m).length:=by simp
  have s2:(p++y::(m++y::q)).set (p++x::m).length x=(p++y::m)++x::q:=by rw[F,I]; exact BQ _ _ _ _ _ rfl
  have g3:(p++y::(m++y::q)).getD (p++x::m).length []=y:=by rw[F,I]; exact kD _ _ _ _ _ rfl
  have n1:(p++x::(m++y::q)).length=p.length+m.length+q.length+2:=by simp; omega
  have n2:(p++y::(m++y::q)).length=p.length+m.length+q.length+2:=by simp; omega
  have n3:((p++y::m)++x::q).length=p.length+m.length+q.length+2:=by simp; omega
  have n4:(p++x::m).length=p.length+m.length+1:=by simp; omega
  obtain⟨J,ex⟩:=N;obtain⟨M,B⟩:=O;have i1:(gi x 0).int=J:=by rw[ex]; rfl
  have i2:(gi y 0).int=M:=by rw[B]; rfl
  have q1:fP [Kd.int .i64] x 0 [.i M]=y:=by rw[ex,B]; rfl
  have q2:fP [Kd.int .i64] y 0 [.i J]=x:=by rw[ex,B]; rfl
  refine cD.next (d1:=[.l ((p++[y])++m++(x::q)),.i (((p++[y]).length:Nat):Int),.i ((((p++[y]).length:Nat):Int)+(m.length:Int)-1)]) (aa.toEq ?_) (R.mono ?_)
  ·rw [W]
   unfold uO
   (dsimp +instances only[Aa,Ab,Ac,Ad,Ae,Af,Ag])
   simp only[dJ,aH,ji,g1,g2,i1,i2,q1,q2,s1,g3,s2,n1,n2,n3]
   (repeat first|refine aa.p ?_|refine aa.n ?_)
   refine aa.some ?_;rw[show p++[y]++m++x::q=p++y::m++x::q from by simp,show (((p++[y]).length:Nat):Int)=(p.length:Int)+1 from by simp,show (p.length:Int)+1+(m.length:Int)-1=(p.length:Int)+((m.length+(0+1)+1:Nat):Int)-1-1 from by omega]
  ·rintro c g ⟨rfl, rfl⟩
   exact⟨rfl,by simp⟩
theorem ahT(rows:List (List G))(hr:∀ z∈rows,Dg z)(hn:rows.length<90000):BZ [.l rows]=some [.l rows.reverse]:=by
 refine aa.toEq ?_;unfold BZ
 (dsimp +instances only[Aa,Ab,Ac,Ad,Ae,Af,Ag])
 refine aa.p ?_;have h:=S9 rows.length rows [] [] (aI _) hr (by simp; omega);simp only[List.nil_append,gH,gK]at h;have e:((0:Nat):Int)+(rows.length:Int)-1=(rows.length:Int)-1:=by omega
 rw[e]at h;refine aa.loop (h.to (by omega)) (by(first|rfl|assumption|(simp only[aw,sl]<;>omega))) ?_;rintro _ _ ⟨rfl,rfl⟩
 (dsimp +instances only[Aa,Ab,Ac,Ad,Ae,Af,Ag])
 (repeat first|refine aa.p ?_|refine aa.n ?_)
 exact aa.some rfl
theorem S_{st:Int→List G→List G→Option (List G)}{rows:List (List G)}(I:Nat→List G→Prop) (g:∀(n:Nat) (d:List G),n<rows.length→I (n+1) d→aa (st (n:Int) (rows.getD n []) d) (I n)) :
  ∀(n:Nat) (d:List G),n≤rows.length→I n d→aa (qk st rows n d) (I 0)
 |0,d,_,h=>aa.some h
 | n+1,d,hn,h=>by
  obtain⟨d',h1,k⟩:=g n d (by omega) h;simp only[qk,h1];exact S_ I g n d' (by omega) k
def qz(r:List G):List G:=[.s (gi r 13).str,.i (gi r 14).int]
def kG(k:List G)(u:List (List G)):Bool:=u.any fun o=>aq bk k o
def uA(a:Int):List (List G)→List (List G)
 | []=>[]
 |x::l=>bif aB a (gi x 2).int||kG (aR bk x) (uA a l) then uA a l else bif (gi x 3).int==5 then qz x::uA a l else uA a l
def fa(a:Int)(x:List G)(l:List (List G)):Bool := !(aB a (gi x 2).int||kG (aR bk x) (uA a l))
def cA(a:Int):Nat→List (List G)→List (List G)
 |_,[]=>[]
 |i,x::l=>bif fa a x l then [.i (i:Int)]::cA a (i+1) l else cA a (i+1) l
theorem yV(a:Int)(x:List G)(l:List (List G)):uA a (x::l)=bif fa a x l&&(gi x 3).int==5 then qz x::uA a l else uA a l:=by
 simp only[uA,fa];cases aB a (gi x 2).int||kG (aR bk x) (uA a l)<;>rfl
theorem oR(a:Int):∀(i:Nat) (l:List (List G)),(cA a i l).length≤l.length
 |_,[]=>aI _
 | i,x::l=>by
  simp only[cA];have:=oR a (i+1) l;cases fa a x l<;>simp only[cond_true,cond_false,cF]<;>omega
theorem JO{a:Int}:∀{i:Nat} {l:List (List G)} {z:List G},z∈cA a i l→∃ j:Nat,z=[.i (j:Int)]∧i≤j∧j<i+l.length
 |_,[],z,h=>by simp[cA]at h
 | i,x::l,z,h=>by
  have d:z∈cA a (i+1) l→∃ j:Nat,z=[.i (j:Int)]∧i≤j∧j<i+(x::l).length:=fun h=>by
   obtain⟨j,e,h1,g⟩:=JO h;exact⟨j,e,by omega,by simp only[cF]; omega⟩
  simp only[cA]at h;cases hc:fa a x l with
  |false=>rw[hc]at h; exact d h
  | true =>
   rw[hc]at h;rcases bC.1 h with rfl|h
   ·exact⟨i,rfl,aI _,by simp only[cF]; omega⟩
   ·exact d h
def sF(m u:List (List G)):Prop:=∀ k,(gi (bZ bk m k [.t false]) 0).bool=kG k u
theorem sF.nil:sF [] []:=fun k=>by rw[xQ]; rfl
theorem sF.put{m u:List (List G)}(h:sF m u)(t:List G)(c:Nat):sF (bK bk m t [.t true] c) (t::u):=fun k=>by
 rw[nz];simp only[kG,tb];cases hk:aq bk k t with
 |true=>rfl
 | false =>
  simp only[cond_false,gJ];exact h k
theorem ahU(rows:List (List G))(a:Int)(hr:∀ z∈rows,aV z)(hn:rows.length≤1000):Cd [.l rows,.i a]=some [.l (cA a 0 rows)]:=by
 refine aa.toEq ?_;unfold Cd
 (dsimp +instances only[Aa,Ab,Ac,Ad,Ae,Af,Ag])
 have key:aa (Cc [.i a,.l [],.i 0,.l rows]) fun o=>∃ x,o.1=some x∧o.2=[.l (cA a 0 rows)]:=by
  unfold Cc xL;have F:(gi [G.i a,G.l [],G.i 0,G.l rows] 3).rows=rows:=rfl;have J:=S_ (st:=HQ) (rows:=rows) (fun n d=>∃ m c,d=[.i a,.l m,.i c,.l (cA a n (rows.drop n)).reverse]∧sF m (uA a (rows.drop n))) (fun n d q A=>by
   obtain⟨m,c,rfl,hm⟩:=A;have M:rows.getD n []∈rows:=kC q;have N:rows.drop n=rows.getD n []::rows.drop (n+1):=by
    rw[Kx q,cG,bA q];rfl
   rw[N];generalize rows.getD n []=x at M;have hlen:=oR a (n+1) (rows.drop (n+1));rw[List.length_drop]at hlen;unfold HQ
   (dsimp +instances only[Aa,Ab,Ac,Ad,Ae,Af,Ag])
   have hk:=hm (aR bk x);simp only[cA,yV];refine aa.test (fun h1=>?_) fun h1=>?_
   ·have e : fa a x (rows.drop (n + 1)) = false := by unfold fa; rw [h1]; rfl
    rw[e];exact aa.pos (by simp) (aa.some ⟨m,_,rfl,hm⟩)
   refine aa.test (fun k=>?_) fun k=>?_
   ·have e : fa a x (rows.drop (n + 1)) = false := by unfold fa; rw [← hk, k, Bool.or_true]; rfl
    rw[e];exact aa.pos (by simp) (aa.some ⟨m,_,rfl,hm⟩)
   have e:fa a x (rows.drop (n+1))=true:=by unfold fa; rw[←hk,k,h1]; rfl
   rw[e];refine aa.pos (by simp only[sl,akl]; simp; omega) ?_;refine aa.test (fun B=>?_) fun B=>?_
   ·rw [B]
    exact aa.pos (by simp) (aa.some ⟨bK bk m (qz x) [.t true] c.toNat,((cU bk m (qz x) c.toNat:Nat):Int),by simp only[cond_true,akm]; rfl,hm.put (qz x) _⟩)
   ·rw [B]
    exact aa.pos (by simp) (aa.some ⟨m,((c.toNat:Nat):Int),by simp only[Bool.and_false,cond_true,cond_false,akm],hm⟩)) rows.length (QU [.i a,.l [],.i 0,.l rows]) (aI _) ⟨[],_,by rw[DT]; rfl,by rw[DT]; exact sF.nil⟩
  obtain⟨d,A,m,c,rfl,_⟩:=J;rw[F];refine aa.pos (by simp[uY,QV]; omega) ?_;have I:qk uY.st rows rows.length (uY.init [.i a,.l [],.i 0,.l rows])=some [.i a,.l m,.i c,.l (cA a 0 (rows.drop 0)).reverse]:=A;rw[I];simp only[Option.bind_some,List.drop_zero];unfold HR
  (dsimp +instances only[Aa,Ab,Ac,Ad,Ae,Af,Ag])
  have hlen:=oR a 0 rows;refine aa.gS (aa.eq (ahT (cA a 0 rows).reverse (fun z O=>by
   obtain⟨j,e,_⟩:=JO (List.mem_reverse.1 O);exact⟨_,e⟩) (by rw[akl]; omega))) (by simp) ?_
  rintro _ rfl
  (dsimp +instances only[Aa,Ab,Ac,Ad,Ae,Af,Ag])
  exact aa.pos (by simp) (aa.some ⟨0,rfl,by rw[List.reverse_reverse]⟩)
 refine aa.tail (P:=fun _ g=>g=[.l (cA a 0 rows)]) (key.mono ?_) (by simp) ?_
 ·rintro o ⟨x, h1, k⟩
  exact⟨x,h1,k⟩
 rintro _ _ rfl
 (dsimp +instances only[Aa,Ab,Ac,Ad,Ae,Af,Ag])
 exact aa.pos (by simp) (aa.some rfl)
theorem JP{rows:List (List G)}{n:Nat}(h:n<rows.length):rows.drop n=rows.getD n []::rows.drop (n+1):=by
 rw[Kx h,cG,bA h];rfl
theorem ahV(x y:List G)(d:aV y):aq bk (aR bk y) (qz x)=(((gi x 13).str.toList==(gi y 0).str.toList)&&((gi x 14).int==(gi y 1).int)):=by
 obtain⟨_,_,_,_,_,_,_,_,_,_,_,_,_,_,_,rfl,_⟩:=d;unfold lF qz;generalize (gi x 13).str=s;generalize (gi x 14).int=n;simp only[aq,aR,kW]
 (dsimp +instances only[Aa,Ab,Ac,Ad,Ae,Af,Ag])
 rw[oF s.toList,oF n];simp[dU,Ge,G.str,G.int]
theorem ahW(a:Int)(k x:List G)(l:List (List G)):kG k (uA a (x::l))=((fa a x l&&(gi x 3).int==5&&aq bk k (qz x))||kG k (uA a l)):=by
 rw[yV];cases fa a x l&&(gi x 3).int==5 with
 |false=>simp
 |true=>simp only[cond_true,jj]; simp only[kG,tb]
def Ta(a:Int)(rows:List (List G)):Prop:=∀ z∈rows,aV z∧aB a (gi z 2).int=false
theorem Tb{a:Int}{x:List G}(h:aB a (gi x 2).int=false)(l:List (List G)):fa a x l = !kG (aR bk x) (uA a l):=by
 unfold fa;rw[h,gJ]
theorem Tc(a:Int)(rows:List (List G))(hr:Ta a rows)(hn:rows.length≤1000):∀ (n i:Nat),i<rows.length→rows.length≤i+n →
    nG n [.l rows,.i (i:Int)]=some [.l rows,.t (fa a (rows.getD i []) (rows.drop (i+1)))]
  |0,i,h1,N=>by omega
  | n+1,i,h1,N=>by
    have O:=Tc a rows hr hn n;refine aa.toEq ?_;unfold nG yp
    (dsimp +instances only[Aa,Ab,Ac,Ad,Ae,Af,Ag])
    have q:=hr _ (kC h1);generalize M:rows.getD i []=x at q;refine aa.p ?_;refine aa.loop (P:=fun c g=>(c=1∧fa a x (rows.drop (i+1))=true∧g=[.l rows])∨(c=0∧fa a x (rows.drop (i+1))=false∧g=[.l rows,.t false]))
      (((GH (σ := Unit) (fun _ k => [.l rows, .i (i : Int), .i (k : Int)]) rows.length (fun _ => (1, [.l rows])) (fun _ k => i + 1 ≤ k ∧ kG (aR bk x) (uA a (rows.drop (i + 1))) = kG (aR bk x) (uA a (rows.drop k))) (fun c g => c = 0 ∧ fa a x (rows.drop (i + 1)) = false ∧ g = [.l rows, .t false])
        ?_ ?_ (rows.length-(i+1)) () (i+1) (by omega) ⟨aI _,rfl⟩).to (by omega)).mono ?_) (by simp) ?_
    · rintro _ k ⟨U, d⟩ hk
      have R:=hr _ (kC hk);rw[JP hk,ahW]at d;unfold CC
      (dsimp +instances only[Aa,Ab,Ac,Ad,Ae,Af,Ag])
      simp only[aH,dJ,M];have J:=O k hk (by omega);generalize rows.getD k []=y at R d J;rw[ahV y x q.1]at d;have go:(fa a y (rows.drop (k+1))&&(gi y 3).int==5&&(((gi y 13).str.toList==(gi x 0).str.toList)&&((gi y 14).int==(gi x 1).int)))=false →
          aa (bif aw ((k:Int)+1) then (bif ((((ab rows.length rows.length)&&true)&&true)&&true) then (some (none,[G.l rows,.i (i:Int),.i ((k:Int)+1)]):Option (Option Nat × List G)) else none) else none) fun o =>
            (∃ s',o=(none,[.l rows,.i (i:Int),.i ((k+1:Nat):Int)])∧i+1≤k+1∧kG (aR bk x) (uA a (rows.drop (i+1)))=kG (aR bk x) (uA a (rows.drop (k+1))))∨∃ c g,o=(some c,g)∧c=0∧fa a x (rows.drop (i+1))=false∧g=[.l rows,.t false]:=fun h=>by
        refine aa.p (aa.pos (by simp) (aa.some (.inl ⟨(),rfl,by omega,?_⟩)));rw[d,h,gJ]
      have W:k<rows.length:=hk;refine aa.p (aa.p (aa.p ?_));refine aa.test (fun A=>?_) fun A=>go (by rw[A]; simp);refine aa.p (aa.p (aa.p (aa.p ?_)));refine aa.test (fun B=>?_) fun B=>go (by rw[B]; simp);refine aa.p (aa.p (aa.p (aa.p ?_)));refine aa.test (fun F=>?_) fun F=>go (by rw[F]; simp);refine aa.gS (aa.eq J) (by simp) ?_;rintro _ rfl
      (dsimp +instances only[Aa,Ab,Ac,Ad,Ae,Af,Ag])
      refine aa.test (fun I=>?_) fun I=>go (by rw[I]; simp);refine aa.pos (by simp) (aa.some (.inr ⟨0,_,rfl,rfl,?_,rfl⟩));rw[Tb q.2,d,A,B,F,I];rfl
    · rintro _ ⟨_, d⟩
      unfold CC
      (dsimp +instances only[Aa,Ab,Ac,Ad,Ae,Af,Ag])
      exact aa.n (aa.pos (by simp) (aa.some rfl))
    · rintro c g (⟨_, ⟨_, d⟩, rfl, rfl⟩ | h)
      · refine .inl ⟨rfl, ?_, rfl⟩
        rw[Tb q.2,d,DT];rfl
      · exact .inr h
    · rintro c g (⟨rfl, hc, rfl⟩ | ⟨rfl, hc, rfl⟩)
      · exact aa.neg rfl (aa.pos (by simp) (aa.some (by rw[hc]; rfl)))
      · exact aa.pos rfl (aa.pos (by simp) (aa.some (by rw[hc]; rfl)))
theorem JQ{a:Int}:∀{q:List (List G)} (i:Nat),(∀ z∈q,aB a (gi z 2).int=true)→uA a q=[]∧cA a i q=[]
 | [],_,_=>⟨rfl,rfl⟩
 | x::q,i,h=>by
  obtain⟨h1,_⟩:=JQ (q:=q) i fun z d=>h z (bS _ d);obtain⟨_,g⟩:=JQ (q:=q) (i+1) fun z d=>h z (bS _ d);have e:fa a x q=false:=by unfold fa; rw[h x cJ]; rfl
  exact⟨by rw[yV,e,h1]; rfl,by simp only[cA,e,g,cond_false]⟩
theorem Td{a:Int}{q:List (List G)}(h:∀ z∈q,aB a (gi z 2).int=true):∀(p:List (List G)) (i:Nat),uA a (p++q)=uA a p∧cA a i (p++q)=cA a i p
 | [],i=>by
  obtain⟨h1,d⟩:=JQ i h;exact⟨by simpa[uA]using h1,by simpa[cA]using d⟩
 | x::p,i=>by
  obtain⟨h1,d⟩:=Td h p (i+1);have e:fa a x (p++q)=fa a x p:=by unfold fa; rw[h1]
  exact⟨by rw[nO,yV,yV,e,h1],by simp only[nO,cA,e,d]⟩
theorem ahX{r s:List G}(h:fJ r s<0):(gi r 2).int≤(gi s 2).int:=by
 unfold fJ at h;split at h
 ·unfold d_ at h
  split at h
  ·omega
  ·split at h<;>omega
 ·omega
theorem Te(a:Int):∀(rows:List (List G)),(∀ k,k+1<rows.length→fJ (rows.getD k []) (rows.getD (k+1) [])<0)→∃ p q,rows=p++q∧(∀ z∈p,aB a (gi z 2).int=false)∧∀ z∈q,aB a (gi z 2).int=true
 | [],_=>⟨[],[],rfl,by simp,by simp⟩
 | x::l,h=>by
  obtain⟨p,q,e,h1,A⟩:=Te a l fun k hk=>by
   have:=h (k+1) (by simpa using hk);simpa using this
  cases g:aB a (gi x 2).int with
  |false=>exact⟨x::p,q,by rw[e]; rfl,fun z d=>by rcases bC.1 d with rfl|d; exact g; exact h1 z d,A⟩
  | true =>
   cases p with
   |nil=>exact⟨[],x::q,by rw[e]; rfl,by simp,fun z d=>by rcases bC.1 d with rfl|d; exact g; exact A z d⟩
   | cons y p =>
    have B:=h 0 (by rw[e]; simp);rw[e]at B;have F:=ahX B;have I:=h1 y cJ;rw[dG,decide_eq_false_iff_not]at I;rw[dG,decide_eq_true_eq]at g;simp only[List.getD_cons_zero,nO,List.getD_cons_succ]at F;omega
theorem Tf(rows:List (List G))(a:Int)(hr:∀ z∈rows,aV z)(hn:rows.length≤40) (hu:∀ k,k+1<rows.length→fJ (rows.getD k []) (rows.getD (k+1) [])<0) :
  yr [.l rows,.i a]=some [.l (cA a 0 rows)]:=by
 obtain⟨p,q,rfl,I,J⟩:=Te a rows hu;rw[(Td J p 0).2];have N:Ta a p:=fun z d=>⟨hr z (List.mem_append_left _ d),I z d⟩
 have U:p.length≤40:=by rw[eY]at hn; omega
 have O:(p++q).filter (fun r=>bM (gi r 2).int a)=p:=by
  rw[po,List.filter_eq_self.2 (fun z d=>by
   have:=I z d;rw[dG,decide_eq_false_iff_not]at this;rw[eD,decide_eq_true_eq]; omega),List.filter_eq_nil_iff.2 (fun z d=>by
   have:=J z d;rw[dG,decide_eq_true_eq]at this;rw[eD,decide_eq_true_eq]; omega),gH]
 refine aa.toEq ?_;unfold yr
 (dsimp +instances only[Aa,Ab,Ac,Ad,Ae,Af,Ag])
 refine aa.loop (P:=fun c g=>g=[.l p]) ((iq (σ:=List (List G)) (fun s i=>[.l s,.i a,.l (p++q),.i ((p++q).length:Int),.i (i:Int)]) (p++q) (fun s=>(0,[.l s])) (fun s i=>s=((p++q).take i).filter fun r=>bM (gi r 2).int a) [] (by omega) (by simp) ?_ ?_).mono ?_) (by simp) ?_
 ·rintro s i x hs hi A hm M
  have F:=List.length_filter_le (fun r=>bM (gi r 2).int a) ((p++q).take i);rw[←hs,fZ]at F;have R:s.length≤40:=by omega
  have W:i<p.length+q.length:=by rw[←eY]; exact hi
  unfold CF
  (dsimp +instances only[Aa,Ab,Ac,Ad,Ae,Af,Ag])
  simp only[aH,A,(hr x hm).eta];have B:((p++q).take (i+1)).filter (fun r=>bM (gi r 2).int a)=bif bM (gi x 2).int a then s++[x] else s:=by
   rw[M,po,←hs];cases h:bM (gi x 2).int a<;>simp[h]
  refine aa.p (aa.p ?_);refine aa.test (fun h=>?_) fun h=>?_
  ·rw [h] at B
   exact aa.pos (by simp only[sl,eY,cF,gK]; simp; omega) (aa.p (aa.pos (by simp) (aa.some ⟨s++[x],rfl,B.symm⟩)))
  ·rw [h] at B
   exact aa.p (aa.pos (by simp) (aa.some ⟨s,rfl,B.symm⟩))
 ·rintro s _
  unfold CF
  (dsimp +instances only[Aa,Ab,Ac,Ad,Ae,Af,Ag])
  exact aa.n (aa.pos (by simp) (aa.some rfl))
 ·rintro c g ⟨s, hs, rfl, rfl⟩
  rw[hs,List.take_length,O]
 rintro _ _ rfl
 (dsimp +instances only[Aa,Ab,Ac,Ad,Ae,Af,Ag])
 refine aa.loop (P:=fun c g=>g=[.l (cA a 0 p)]) ((iq (σ:=List (List G)) (fun s i=>[.l p,.l s,.i (p.length:Int),.i (i:Int)]) p (fun s=>(0,[.l s])) (fun s i=>s.length≤i∧s++cA a i (p.drop i)=cA a 0 p) [] (by omega) ⟨aI _,by simp⟩ ?_ ?_).mono ?_) (by simp) ?_
 ·rintro s i x ⟨F, hs⟩ hi A hm M
  rw[JP hi,A]at hs;simp only[cA]at hs;unfold CG
  (dsimp +instances only[Aa,Ab,Ac,Ad,Ae,Af,Ag])
  have hc:=Tc a p N (by omega) 40 i hi (by omega);rw[A]at hc;refine aa.p (aa.gS (aa.eq (show CD [.l p,.i (i:Int)]=_ from hc)) (by simp) ?_);rintro _ rfl
  (dsimp +instances only[Aa,Ab,Ac,Ad,Ae,Af,Ag])
  refine aa.test (fun h=>?_) fun h=>?_
  ·rw [h] at hs
   exact aa.pos (by simp only[sl,eY,cF,gK]; simp; omega) (aa.p (aa.pos (by simp) (aa.some ⟨s++[[.i (i:Int)]],rfl,by simp; omega,by simpa using hs⟩)))
  ·rw [h] at hs
   exact aa.p (aa.pos (by simp) (aa.some ⟨s,rfl,by omega,by simpa using hs⟩))
 ·rintro s ⟨F, _⟩
  unfold CG
  (dsimp +instances only[Aa,Ab,Ac,Ad,Ae,Af,Ag])
  exact aa.n (aa.pos (by simp) (aa.some rfl))
 ·rintro c g ⟨s, ⟨_, hs⟩, rfl, rfl⟩
  rw[DT]at hs;rw[←hs];simp[cA]
 rintro _ _ rfl
 (dsimp +instances only[Aa,Ab,Ac,Ad,Ae,Af,Ag])
 exact aa.pos (by simp) (aa.some rfl)
end
end Go.Proofs.gT
