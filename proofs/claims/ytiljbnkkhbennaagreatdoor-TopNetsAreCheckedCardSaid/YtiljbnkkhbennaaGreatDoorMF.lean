/-
 What is proved here: what the methods of the stream give on data. No condition.
-/
import Derived.Test.YtiljbnkkhbennaaGreatDoorML5
import Derived.Test.YtiljbnkkhbennaaGreatDoorME
set_option linter.all false
open Bool renaming and_true→eS,and_eq_true→az,true_and→iO,false_or→mH,eq_iff_iff→mI,and_self→mL
open Go.ByteArray renaming toList_eq→sF
open Go.Lib renaming compareBytes→eT
open Int renaming toNat_natCast→ba,tdiv→za,tmod→zb,tmod_lt_of_pos→al',tmod_eq_emod_of_nonneg→ama,mul_nonneg→amb
open List renaming length_cons→cn,length_map→cD,mem_map→cF,getElem?_eq_getElem→bf,all_eq_true→dB,getD_eq_getElem?_getD→bz,mem_cons→bN,map_cons→dj,cons_append→lH,length_take→jq,mem_append→cQ,nil_append→ki,mem_cons_self→cU,mem_cons_of_mem→dw,map_append→iP,mem_singleton→po,length_nil→lN,not_mem_nil→mM,any_cons→zd,getElem?_take_of_lt→KA,length_reverse→amd,reverse_cons→VX,drop_length→ame,find?_eq_none→KB,pairwise_append→amg,find?_append→amh,any_eq_false→Dl,foldl_append→ze,take_length→KC
open List.Pairwise renaming imp→amf,and→amQ
open Nat renaming le_refl→aD,zero_add→di,beq→ab,ble→eE,ble_eq→Df
open Option renaming or_none→ami
open Prod.mk renaming injEq→a8
open UInt8 renaming le_antisymm→Dj,not_lt→pv,lt_irrefl→VW,lt_trans→amc
namespace Go.Proofs.gl
open Go Go.AL Go.Proofs
noncomputable section
theorem Jb(x n:Int)(h0:1≤n)(h1:n≤1099511627776):aa (uv [.i x,.i n]) fun g=>∃ v,g=[.i v]∧0≤v∧v<n:=by
 unfold uv
 (dsimp +instances only[Aa,Ab,Ac,Ad,Ae,Af,Ag])
 have ha:=al' x (by omega:0<n);have hb:=Int.lt_tmod_of_pos x (by omega:0<n)
 (repeat first|refine aa.p ?_|refine aa.n ?_)
 refine aa.test (fun h=>?_) fun h=>?_
 ·simp only [dD, decide_eq_true_eq] at h
  (repeat first|refine aa.p ?_|refine aa.n ?_)
  exact aa.some ⟨_,rfl,by omega,by omega⟩
 ·simp only [dD, decide_eq_false_iff_not] at h
  exact aa.some ⟨_,rfl,by omega,by omega⟩
theorem uQ(l:List (List G))(a n:Int)(ha:0≤a)(N:a≤1000000)(h0:1≤n)(h1:n≤1099511627776) :
  aa (oS [.l l,.i a,.i n]) fun g=>∃ v,g=[.l l,.i (a+1),.i v]∧0≤v∧v<n:=by
 unfold oS
 (dsimp +instances only[Aa,Ab,Ac,Ad,Ae,Af,Ag])
 have I:a+1-1=a:=by omega
 simp only[I];by_cases O:l.length=0
 ·(repeat first|refine aa.p ?_|refine aa.n ?_)
  refine aa.call (Jb _ n h0 h1) ?_;rintro _ ⟨v,rfl,d,k⟩
  (dsimp +instances only[Aa,Ab,Ac,Ad,Ae,Af,Ag])
  exact aa.some ⟨v,rfl,d,k⟩
 ·have J : (0 : Int) < (l.length : Int) := by omega
  have d0:0≤za a l.length:=Int.tdiv_nonneg ha (by omega);have d1:za a l.length≤a:=by
   rw[Int.tdiv_eq_ediv_of_nonneg ha];exact Int.ediv_le_self _ ha
  have m0:0≤zb a l.length:=by
   rw[ama ha];exact Int.emod_nonneg _ (by omega)
  have m1:zb a l.length<l.length:=al' a J;have m2:zb a l.length≤a:=by
   rw[ama ha];have:=Int.mul_ediv_add_emod a l.length;have B:0≤(l.length:Int)*(a / l.length):=amb (by omega) (Int.ediv_nonneg ha (by omega));omega
  generalize U:za a l.length=q at *;generalize hr:zb a l.length=r at *;have p0:0≤q*(7919+r):=amb d0 (by omega);have p1:q*(7919+r)≤1000000*2000000:=Int.mul_le_mul (by omega) (by omega) (by omega) (by omega);generalize V:q*(7919+r)=z at *
  (repeat first|refine aa.p ?_|refine aa.n ?_)
  refine aa.call (Jb _ 1073741824 (by omega) (by omega)) ?_;rintro _ ⟨u,rfl,d,k⟩
  (dsimp +instances only[Aa,Ab,Ac,Ad,Ae,Af,Ag])
  (repeat first|refine aa.p ?_|refine aa.n ?_)
  refine aa.call (Jb _ n h0 h1) ?_;rintro _ ⟨v,rfl,B,M⟩
  (dsimp +instances only[Aa,Ab,Ac,Ad,Ae,Af,Ag])
  exact aa.some ⟨v,rfl,B,M⟩
theorem yc(l:List (List G))(a lo hi:Int)(ha:0≤a)(d:a≤1000000)(h0:lo≤hi)(h1 : -1000000000≤lo)(k:hi≤1000000000) :
  aa (ql [.l l,.i a,.i lo,.i hi]) fun g=>∃ v,g=[.l l,.i (a+1),.i v]∧lo≤v∧v≤hi:=by
 unfold ql
 (dsimp +instances only[Aa,Ab,Ac,Ad,Ae,Af,Ag])
 (repeat first|refine aa.p ?_|refine aa.n ?_)
 refine aa.call (uQ l a _ ha d (by omega) (by omega)) ?_;rintro _ ⟨v,rfl,q,B⟩
 (dsimp +instances only[Aa,Ab,Ac,Ad,Ae,Af,Ag])
 (repeat first|refine aa.p ?_|refine aa.n ?_)
 exact aa.some ⟨_,rfl,by omega,by omega⟩
theorem Tv{l:List (List G)}{v:Int}(h0:0≤v)(h1:v<l.length):l.getD v.toNat []∈l:=by
 have:v.toNat<l.length:=by omega
 rw[bz,bf this];exact List.getElem_mem this
theorem Tw(P:Int→Prop)(l:List (List G))(a:Int)(xs:List (List G))(ha:0≤a)(d:a≤1000000)(h0:1≤xs.length)(h1:xs.length≤1000000)(k:∀ x∈xs,P (gi x 0).int) :
  aa (nC [.l l,.i a,.l xs]) fun g=>∃ v,g=[.l l,.i (a+1),.i v]∧P v:=by
 unfold nC
 (dsimp +instances only[Aa,Ab,Ac,Ad,Ae,Af,Ag])
 refine aa.call (uQ l a _ ha d (by omega) (by omega)) ?_;rintro _ ⟨v,rfl,q,B⟩
 (dsimp +instances only[Aa,Ab,Ac,Ad,Ae,Af,Ag])
 (repeat first|refine aa.p ?_|refine aa.n ?_)
 exact aa.some ⟨_,rfl,k _ (Tv q B)⟩
theorem aiy(P:ByteArray→Prop)(l:List (List G))(a:Int)(xs:List (List G))(ha:0≤a)(d:a≤1000000)(h0:1≤xs.length)(h1:xs.length≤1000000)(k:∀ x∈xs,P (gi x 0).str) :
  aa (iu [.l l,.i a,.l xs]) fun g=>∃ v,g=[.l l,.i (a+1),.s v]∧P v:=by
 unfold iu
 (dsimp +instances only[Aa,Ab,Ac,Ad,Ae,Af,Ag])
 refine aa.call (uQ l a _ ha d (by omega) (by omega)) ?_;rintro _ ⟨v,rfl,q,B⟩
 (dsimp +instances only[Aa,Ab,Ac,Ad,Ae,Af,Ag])
 (repeat first|refine aa.p ?_|refine aa.n ?_)
 exact aa.some ⟨_,rfl,k _ (Tv q B)⟩
theorem Cv(l:List (List G))(a n:Int)(ha:0≤a)(d:a≤1000000)(h0:1≤n)(h1:n≤1000000) :
  aa (r8 [.l l,.i a,.i n]) fun g=>∃ b,g=[.l l,.i (a+1),.t b]:=by
 unfold r8
 (dsimp +instances only[Aa,Ab,Ac,Ad,Ae,Af,Ag])
 refine aa.call (uQ l a _ ha d (by omega) (by omega)) ?_;rintro _ ⟨v,rfl,k,q⟩;exact aa.some ⟨_,rfl⟩
theorem qo(l:List (List G))(a lo hi:Int)(ha:0≤a)(J:a≤900000)(h0:lo≤hi)(h1 : -1000000000≤lo)(I:hi≤1000000000) :
  aa (mf [.l l,.i a,.i lo,.i hi]) fun g=>∃ v,g=[.l l,.i (a+2),.i v] ∧ -1099511627776≤v∧(v≤1000000001∨v=1099511627776):=by
 unfold mf
 (dsimp +instances only[Aa,Ab,Ac,Ad,Ae,Af,Ag])
 have d:a+1+1=a+2:=by omega
 refine aa.call (Cv l a 12 ha (by omega) (by omega) (by omega)) ?_;rintro _ ⟨b,rfl⟩
 (dsimp +instances only[Aa,Ab,Ac,Ad,Ae,Af,Ag])
 cases b with
 | true =>
  (repeat first|refine aa.p ?_|refine aa.n ?_)
  refine aa.call (Tw (fun v => -1099511627776≤v∧(v≤1000000001∨v=1099511627776)) l (a+1) _ (by omega) (by omega) (by simp) (by simp) ?_) ?_
  ·intro x k
   simp only[bN,mM,or_false]at k;rcases k with rfl|rfl|rfl|rfl|rfl|rfl<;>(dsimp +instances only[Aa,Ab,Ac,Ad,Ae,Af,Ag])<;>omega
  ·rintro _ ⟨v, rfl, q, B⟩
   (dsimp +instances only[Aa,Ab,Ac,Ad,Ae,Af,Ag])
   exact aa.some ⟨v,by rw[d],q,B⟩
 | false =>
  (repeat first|refine aa.p ?_|refine aa.n ?_)
  refine aa.call (yc l (a+1) lo hi (by omega) (by omega) h0 h1 I) ?_;rintro _ ⟨v,rfl,q,B⟩
  (dsimp +instances only[Aa,Ab,Ac,Ad,Ae,Af,Ag])
  exact aa.some ⟨v,by rw[d],by omega,by omega⟩
def oV(L:List ByteArray)(s:ByteArray):Bool:=L.any fun x=>nz x s
theorem aiz{L:List ByteArray}{s:ByteArray}(h:oV L s=true):s∈L:=by
 obtain⟨x,d,he⟩:=List.any_eq_true.1 h;exact OU he▸d
theorem yd(lo hi:Int)(l:List (List G))(a:Int)(xs:List (List G))(ha:0≤a)(d:a≤1000000)(h0:(eE 1 xs.length&&eE xs.length 1000000)=true) (k:(xs.all fun x=>bx lo (gi x 0).int&&bx (gi x 0).int hi)=true) :
  aa (nC [.l l,.i a,.l xs]) fun g=>∃ v,g=[.l l,.i (a+1),.i v]∧lo≤v∧v≤hi:=by
 simp only[az,Df]at h0;refine Tw (fun v=>lo≤v∧v≤hi) l a xs ha d h0.1 h0.2 fun x q=>?_;have:=dB.1 k x q;simpa only[eV,az,decide_eq_true_eq]using this
theorem j9(L:List ByteArray)(l:List (List G))(a:Int)(xs:List (List G))(ha:0≤a)(d:a≤1000000)(h0:(eE 1 xs.length&&eE xs.length 1000000)=true) (k:(xs.all fun x=>oV L (gi x 0).str)=true) :
  aa (iu [.l l,.i a,.l xs]) fun g=>∃ v,g=[.l l,.i (a+1),.s v]∧v∈L:=by
 simp only[az,Df]at h0;exact aiy (fun v=>v∈L) l a xs ha d h0.1 h0.2 fun x q=>aiz (dB.1 k x q)
def kJ:List ByteArray:=[⟨#[]⟩,⟨#[107,49]⟩,⟨#[75,49,65,66]⟩,⟨#[107,49,97,98,47]⟩,⟨#[49,97]⟩,⟨#[107,49,97,98,47,109,109,47,112]⟩,⟨#[107,49,97,98]⟩,⟨#[107,49,97,97]⟩,⟨#[107,49,97,98,47,52]⟩,
 ⟨#[111,104,50,97,98,99]⟩,⟨#[111,104,50,97,98,100]⟩,⟨#[119,49,97,119]⟩,⟨#[110,49,109,109]⟩,⟨#[103,51,120,121,122,47,112]⟩]
def calls:List ByteArray:=kJ++[⟨#[103,52,122,122,122]⟩]
theorem Cw{c:ByteArray}(h:c∈kJ):c∈calls:=List.mem_append_left _ h
def jJ:List ByteArray:=[⟨#[]⟩,⟨#[66]⟩,⟨#[98,50,48]⟩,⟨#[98,52,48]⟩]
def names:List ByteArray:=[⟨#[]⟩,⟨#[65]⟩,⟨#[49]⟩,⟨#[102,105,110]⟩,⟨#[117,115,97]⟩]
def small(n:Int):Prop := -2000000000000≤n∧n≤2000000000000
def dT(r:List G):Prop:=∃(t m:Int) (b c:ByteArray) (s h:Int) (x y:ByteArray),r=[.i t,.i m,.s b,.s c,.i s,.i h,.s x,.s y]∧small t∧small m∧small s∧small h∧b∈jJ∧c∈calls∧x∈names∧y∈names
def tight(n:Int):Prop := -1900000000000≤n∧n≤1900000000000
def sc(n:Int):Prop := -1900000000000≤n∧(n≤345000000000∨(345686399999<n∧n≤1900000000000))
def Jc(r:List G):Prop:=∃(t m:Int) (b c:ByteArray) (s h:Int) (x y:ByteArray),r=[.i t,.i m,.s b,.s c,.i s,.i h,.s x,.s y]∧sc t∧tight m∧tight s∧tight h∧b∈jJ∧c∈kJ∧x∈names∧y∈names
theorem tight.to{n:Int}(h:tight n):small n:=⟨by have:=h.1; omega,by have:=h.2; omega⟩
theorem sc.to{n:Int}(h:sc n):small n:=by
 unfold sc at h;exact⟨by omega,by omega⟩
theorem Jc.to{r:List G}(h:Jc r):dT r:=by
 obtain⟨t,m,b,c,s,h,x,y,e,h1,d,k,q,B,I,J⟩:=h;exact⟨t,m,b,c,s,h,x,y,e,h1.to,d.to,k.to,q.to,B,Cw I,J⟩
theorem dT.eta{r:List G}(h:dT r):aU [.int .i64,.int .i64,.str,.str,.int .i64,.int .i64,.str,.str] r=r:=by
 obtain⟨t,m,b,c,s,h,x,y,rfl,_⟩:=h;rfl
theorem aiA(l:List (List G))(a:Int)(ha:0≤a)(k:a≤900000):aa (BO [.l l,.i a]) fun g=>∃ v,g=[.l l,.i (a+2),.s v]∧v∈kJ:=by
 unfold BO
 (dsimp +instances only[Aa,Ab,Ac,Ad,Ae,Af,Ag])
 have d:a+1+1=a+2:=by omega
 refine aa.call (Cv l a 60 ha (by omega) (by omega) (by omega)) ?_;rintro _ ⟨b,rfl⟩
 (dsimp +instances only[Aa,Ab,Ac,Ad,Ae,Af,Ag])
 cases b with
 | true =>
  (repeat first|refine aa.p ?_|refine aa.n ?_)
  refine aa.call (j9 kJ l (a+1) _ (by omega) (by omega) (by kernel_rfl) (by kernel_rfl)) ?_;rintro _ ⟨v,rfl,h⟩;exact aa.some ⟨v,by(dsimp +instances only[Aa,Ab,Ac,Ad,Ae,Af,Ag]); rw[d],h⟩
 | false =>
  (repeat first|refine aa.p ?_|refine aa.n ?_)
  refine aa.call (j9 kJ l (a+1) _ (by omega) (by omega) (by kernel_rfl) (by kernel_rfl)) ?_;rintro _ ⟨v,rfl,h⟩;exact aa.some ⟨v,by(dsimp +instances only[Aa,Ab,Ac,Ad,Ae,Af,Ag]); rw[d],h⟩
theorem aiB(l:List (List G))(a t:Int)(ha:0≤a)(ha1:a≤800000)(d:sc t) :
  aa (BP [.l l,.i a,.i t]) fun g=>∃ b r,g=[.l l,.i b,.l [r]]∧a≤b∧b≤a+20∧Jc r:=by
 unfold sc at d;unfold BP
 (dsimp +instances only[Aa,Ab,Ac,Ad,Ae,Af,Ag])
 refine aa.call (yd 1 3 l a _ ha (by omega) (by kernel_rfl) (by kernel_rfl)) ?_;rintro _ ⟨m,rfl,hm⟩
 (dsimp +instances only[Aa,Ab,Ac,Ad,Ae,Af,Ag])
 refine aa.call (j9 jJ l _ _ (by omega) (by omega) (by kernel_rfl) (by kernel_rfl)) ?_;rintro _ ⟨bd,rfl,hb⟩
 (dsimp +instances only[Aa,Ab,Ac,Ad,Ae,Af,Ag])
 refine aa.call (aiA l _ (by omega) (by omega)) ?_;rintro _ ⟨c,rfl,q⟩
 (dsimp +instances only[Aa,Ab,Ac,Ad,Ae,Af,Ag])
 refine aa.call (yd 0 7 l _ _ (by omega) (by omega) (by kernel_rfl) (by kernel_rfl)) ?_;rintro _ ⟨s,rfl,hs⟩
 (dsimp +instances only[Aa,Ab,Ac,Ad,Ae,Af,Ag])
 refine aa.call (yd 0 9 l _ _ (by omega) (by omega) (by kernel_rfl) (by kernel_rfl)) ?_;rintro _ ⟨h,rfl,hh⟩
 (dsimp +instances only[Aa,Ab,Ac,Ad,Ae,Af,Ag])
 refine aa.call (j9 names l _ _ (by omega) (by omega) (by kernel_rfl) (by kernel_rfl)) ?_;rintro _ ⟨x,rfl,B⟩
 (dsimp +instances only[Aa,Ab,Ac,Ad,Ae,Af,Ag])
 refine aa.call (j9 names l _ _ (by omega) (by omega) (by kernel_rfl) (by kernel_rfl)) ?_;rintro _ ⟨y,rfl,I⟩
 (dsimp +instances only[Aa,Ab,Ac,Ad,Ae,Af,Ag])
 refine aa.call (Cv l _ 100 (by omega) (by omega) (by omega) (by omega)) ?_;rintro _ ⟨f,rfl⟩
 (dsimp +instances only[Aa,Ab,Ac,Ad,Ae,Af,Ag])
 cases f with
 | false =>
  (repeat first|refine aa.p ?_|refine aa.n ?_)
  exact aa.some ⟨_,_,rfl,by omega,by omega,t,m,bd,c,s,h,x,y,rfl,d,⟨by omega,by omega⟩,⟨by omega,by omega⟩,⟨by omega,by omega⟩,hb,q,B,I⟩
 | true =>
  (repeat first|refine aa.p ?_|refine aa.n ?_)
  refine aa.call (uQ l _ 4 (by omega) (by omega) (by omega) (by omega)) ?_;rintro _ ⟨k,rfl,hk⟩
  (dsimp +instances only[Aa,Ab,Ac,Ad,Ae,Af,Ag])
  by_cases J:k=0
  ·subst J
   (repeat first|refine aa.p ?_|refine aa.n ?_)
   refine aa.call (qo l _ 0 500 (by omega) (by omega) (by omega) (by omega) (by omega)) ?_;rintro _ ⟨t',rfl,ht'⟩
   (dsimp +instances only[Aa,Ab,Ac,Ad,Ae,Af,Ag])
   refine aa.call (qo l _ 1 3 (by omega) (by omega) (by omega) (by omega) (by omega)) ?_;rintro _ ⟨m',rfl,hm'⟩
   (dsimp +instances only[Aa,Ab,Ac,Ad,Ae,Af,Ag])
   exact aa.some ⟨_,_,rfl,by omega,by omega,t',m',bd,c,s,h,x,y,rfl,⟨by omega,by omega⟩,⟨by omega,by omega⟩,⟨by omega,by omega⟩,⟨by omega,by omega⟩,hb,q,B,I⟩
  ·refine aa.neg (by simpa using J) ?_
   by_cases M:k=1
   ·subst M
    (repeat first|refine aa.p ?_|refine aa.n ?_)
    refine aa.call (j9 jJ l _ _ (by omega) (by omega) (by kernel_rfl) (by kernel_rfl)) ?_;rintro _ ⟨W,rfl,O⟩
    (dsimp +instances only[Aa,Ab,Ac,Ad,Ae,Af,Ag])
    exact aa.some ⟨_,_,rfl,by omega,by omega,t,m,W,c,s,h,x,y,rfl,d,⟨by omega,by omega⟩,⟨by omega,by omega⟩,⟨by omega,by omega⟩,O,q,B,I⟩
   ·refine aa.neg (by simpa using M) ?_
    by_cases N:k=2
    ·subst N
     (repeat first|refine aa.p ?_|refine aa.n ?_)
     refine aa.call (qo l _ 0 99999 (by omega) (by omega) (by omega) (by omega) (by omega)) ?_;rintro _ ⟨s',rfl,hs'⟩
     (dsimp +instances only[Aa,Ab,Ac,Ad,Ae,Af,Ag])
     refine aa.call (qo l _ 0 99999 (by omega) (by omega) (by omega) (by omega) (by omega)) ?_;rintro _ ⟨h',rfl,hh'⟩
     (dsimp +instances only[Aa,Ab,Ac,Ad,Ae,Af,Ag])
     exact aa.some ⟨_,_,rfl,by omega,by omega,t,m,bd,c,s',h',x,y,rfl,d,⟨by omega,by omega⟩,⟨by omega,by omega⟩,⟨by omega,by omega⟩,hb,q,B,I⟩
    ·refine aa.neg (by simpa using N) ?_
     refine aa.call (j9 names l _ _ (by omega) (by omega) (by kernel_rfl) (by kernel_rfl)) ?_;rintro _ ⟨x',rfl,U⟩
     (dsimp +instances only[Aa,Ab,Ac,Ad,Ae,Af,Ag])
     refine aa.call (j9 names l _ _ (by omega) (by omega) (by kernel_rfl) (by kernel_rfl)) ?_;rintro _ ⟨y',rfl,V⟩
     (dsimp +instances only[Aa,Ab,Ac,Ad,Ae,Af,Ag])
     exact aa.some ⟨_,_,rfl,by omega,by omega,t,m,bd,c,s,h,x',y',rfl,d,⟨by omega,by omega⟩,⟨by omega,by omega⟩,⟨by omega,by omega⟩,hb,q,U,V⟩
def ew(a b:Int):Int:=if a<b then -1 else if b<a then 1 else 0
theorem Tx:∀{a b:List UInt8},eT a b=0→a=b
 | [],[],_=>rfl
 | [],_::_,h=>by simp[eT]at h
 |_::_,[],h=>by simp[eT]at h
 | x::a,y::b,h=>by
  unfold eT at h;split at h
  ·cases h
  ·split at h
   ·cases h
   ·rename_i h1 d
    rw[Tx h,Dj (pv.1 d) (pv.1 h1)]
theorem Ty:∀ a:List UInt8,eT a a=0
 | []=>rfl
 |x::a=>by simp[eT,Ty a]
theorem ye(a b:ByteArray):(a.toList==b.toList)=decide (cJ a b=0):=by
 rw[sF,sF,mI,decide_eq_true_eq,beq_iff_eq];constructor
 ·intro h
  unfold cJ;rw[h];exact Ty _
 ·exact fun h=>Tx h
def Cx(a b c d:Int):Int:=if a≠0 then a else if b≠0 then b else if c≠0 then c else d
def cP(r s:List G):Int:=Cx (ew (gi r 0).int (gi s 0).int) (cJ (gi r 3).str (gi s 3).str) (cJ (gi r 2).str (gi s 2).str) (ew (gi r 1).int (gi s 1).int)
theorem sign_eq(a b:Int):xC [.i (a-b)]=some [.i (ew a b)]:=by
 refine aa.toEq ?_;unfold xC ew
 (dsimp +instances only[Aa,Ab,Ac,Ad,Ae,Af,Ag])
 by_cases h1:a<b
 ·(repeat first|refine aa.p ?_|refine aa.n ?_)
  exact aa.some (by simp[h1])
 ·by_cases d : b < a
  ·(repeat first|refine aa.p ?_|refine aa.n ?_)
   exact aa.some (by simp[h1,d])
  ·(repeat first|refine aa.p ?_|refine aa.n ?_)
   exact aa.some (by simp[h1,d])
theorem Cy(a b:Int):qj [.i a,.i b]=some [.i (ew a b)]:=by
 refine aa.toEq ?_;unfold qj BH ew
 (dsimp +instances only[Aa,Ab,Ac,Ad,Ae,Af,Ag])
 simp only[bne_self_eq_false];refine aa.call ⟨_,rfl,rfl⟩ ?_;rintro _ rfl;refine aa.call ⟨_,rfl,rfl⟩ ?_;rintro _ rfl
 (dsimp +instances only[Aa,Ab,Ac,Ad,Ae,Af,Ag])
 (repeat first|refine aa.p ?_|refine aa.n ?_)
 by_cases h1:a<b
 ·(repeat first|refine aa.p ?_|refine aa.n ?_)
  exact aa.some (by simp[h1])
 ·by_cases d : b < a
  ·(repeat first|refine aa.p ?_|refine aa.n ?_)
   exact aa.some (by simp[h1,d])
  ·(repeat first|refine aa.p ?_|refine aa.n ?_)
   exact aa.some (by simp[h1,d])
def nE:List (List G)→Int
 | []=>0
 |x::q=>if (gi x 0).int≠0 then (gi x 0).int else nE q
theorem Jd:∀(q p:List (List G)),p.length+q.length<100000 →
  bq uq [.i 0,.l (p++q),.i ((p.length+q.length:Nat):Int),.i (p.length:Int)] (q.length+1) fun c g=>c≤1∧g=[.i (nE q)]
 | [],p,d=>by
  refine bq.stop (x:=1) (aa.toEq ?_) ⟨by omega,rfl⟩;unfold uq
  (dsimp +instances only[Aa,Ab,Ac,Ad,Ae,Af,Ag])
  (repeat first|refine aa.p ?_|refine aa.n ?_)
  exact aa.some rfl
 | y::q,p,d=>by
  simp only[cn]at d;have g1:(p++y::q).getD (p.length:Int).toNat []=y:=nw _ _ _ _ _ (by simp);have hlen:(p++y::q).length=p.length+q.length+1:=by simp; omega
  by_cases he:(gi y 0).int=0
  ·have k := Jd q (p ++ [y]) (by simp; omega)
   have e:nE (y::q)=nE q:=by simp[nE,he]
   rw[e];refine bq.next (aa.toEq ?_) k
   unfold uq
   (dsimp +instances only[Aa,Ab,Ac,Ad,Ae,Af,Ag])
   simp only[g1,hlen,cn]
   (repeat first|refine aa.p ?_|refine aa.n ?_)
   refine aa.some ?_;simp;omega
  ·refine bq.stop (x := 0) (aa.toEq ?_) ⟨by omega, rfl⟩
   unfold uq
   (dsimp +instances only[Aa,Ab,Ac,Ad,Ae,Af,Ag])
   simp only[g1,hlen,cn]
   (repeat first|refine aa.p ?_|refine aa.n ?_)
   refine aa.some ?_;simp[nE,he]
theorem or_eq(a b c d:Int):nB [.l [[.i a],[.i b],[.i c],[.i d]]]=some [.i (Cx a b c d)]:=by
 refine aa.toEq ?_;unfold nB
 (dsimp +instances only[Aa,Ab,Ac,Ad,Ae,Af,Ag])
 have h:=Jd [[.i a],[.i b],[.i c],[.i d]] [] (by simp);refine aa.loop (h.to (by simp)) (by(first|rfl|assumption|(simp only[aw,sl]<;>omega))) ?_;rintro x g ⟨I,rfl⟩;have e:nE [[.i a],[.i b],[.i c],[.i d]]=Cx a b c d:=by
  simp only[nE,Cx]
  (dsimp +instances only[Aa,Ab,Ac,Ad,Ae,Af,Ag])
  by_cases h1:a=0<;>by_cases k:b=0<;>by_cases q:c=0<;>by_cases B:d=0<;>simp[h1,k,q,B]
 rw[e]
 (dsimp +instances only[Aa,Ab,Ac,Ad,Ae,Af,Ag])
 exact aa.test (fun _=>aa.some rfl) fun _=>aa.some rfl
theorem Tz{r s:List G}(hr:dT r)(q:dT s):qk [.l [r],.l [s]]=some [.i (cP r s)]:=by
 obtain⟨t,m,b,c,_,_,_,_,rfl,J,hm,_⟩:=hr;obtain⟨t',m',d,k,_,_,_,_,rfl,B,I,_⟩:=q;refine aa.toEq ?_;unfold qk
 (dsimp +instances only[Aa,Ab,Ac,Ad,Ae,Af,Ag])
 refine aa.cE (Cy t t') ?_;refine aa.cE (rfl:j8 [.s c,.s k]=some [.i (cJ c k)]) ?_;refine aa.cE (rfl:j8 [.s b,.s d]=some [.i (cJ b d)]) ?_;refine aa.cE (Cy m m') ?_
 (dsimp +instances only[Aa,Ab,Ac,Ad,Ae,Af,Ag])
 refine aa.cE (or_eq _ _ _ _) ?_;exact aa.some rfl
theorem aiC:oQ [.int .i64,.int .i64,.str,.str,.int .i64,.int .i64,.str,.str] qk dT cP:=⟨fun _ _ hr d=>Tz hr d,fun _ h=>h.eta⟩
def ch(v lo hi:Int):Bool:=bx lo v&&bx v hi
theorem TA(v lo hi:Int):lu [.i v,.i lo,.i hi]=some [.t (ch v lo hi)]:=by
 unfold lu ch
 (dsimp +instances only[Aa,Ab,Ac,Ad,Ae,Af,Ag])
 cases bx lo v<;>rfl
theorem nF(v lo hi:Int):kI [.i v,.i lo,.i hi]=some [.t (!ch v lo hi)]:=by
 unfold kI ch
 (dsimp +instances only[Aa,Ab,Ac,Ad,Ae,Af,Ag])
 have h1:ao v lo = !bx lo v:=by rw[dD,eV,mI]; simp
 have d:ao hi v = !bx v hi:=by rw[dD,eV,mI]; simp
 rw[h1,d];cases bx lo v<;>cases bx v hi<;>rfl
def jK(s:ByteArray):Bool:=oV [⟨#[98,50,48]⟩,⟨#[98,52,48]⟩,⟨#[102,105,110]⟩,⟨#[117,115,97]⟩] s
def nG(s:ByteArray):Bool:=oV [⟨#[]⟩] s||jK s
def jL(s:ByteArray):Bool:=(gi ((uo [.s s]).getD []) 0).bool
theorem TB{s:ByteArray}(h:s∈jJ∨s∈names):nA [.s s]=some [.t (jK s)]:=by
 simp only[jJ,names,bN,mM,or_false]at h;rcases h with(rfl|rfl|rfl|rfl)|(rfl|rfl|rfl|rfl|rfl)<;>kernel_rfl
theorem Cz{s:ByteArray}(h:s∈jJ∨s∈names):oU [.s s]=some [.t (jK s)]:=by
 simp only[jJ,names,bN,mM,or_false]at h;rcases h with(rfl|rfl|rfl|rfl)|(rfl|rfl|rfl|rfl|rfl)<;>kernel_rfl
theorem TC{s:ByteArray}(h:s∈names):BG [.s s]=some [.t (nG s)]:=by
 simp only[names,bN,mM,or_false]at h;rcases h with(rfl|rfl|rfl|rfl|rfl)<;>kernel_rfl
theorem TD{s:ByteArray}(h:s∈calls):uo [.s s]=some [.t (jL s)]:=by
 simp only[calls,kJ,lH,ki,bN,mM,or_false]at h;rcases h with(rfl|rfl|rfl|rfl|rfl|rfl|rfl|rfl|rfl|rfl|rfl|rfl|rfl|rfl|rfl)<;>kernel_rfl
theorem aiD{s:ByteArray}(h:s∈calls):Ht [.s s]=some [.t (jL s)]:=by
 simp only[calls,kJ,lH,ki,bN,mM,or_false]at h;rcases h with(rfl|rfl|rfl|rfl|rfl|rfl|rfl|rfl|rfl|rfl|rfl|rfl|rfl|rfl|rfl)<;>kernel_rfl
def dF(r:List G):Int :=
 bif !ch (gi r 0).int 0 345686399999 then 1 else bif !ch (gi r 1).int 1 3 then 4 else bif !jK (gi r 2).str then 5 else bif !jL (gi r 3).str then 3 else
 bif !ch (gi r 4).int 0 99999 then 1 else bif !ch (gi r 5).int 0 99999 then 1 else bif !nG (gi r 6).str then 5 else bif !nG (gi r 7).str then 5 else 0
theorem TE{r:List G}(hr:dT r):r7 [.l [r]]=some [.i (dF r)]:=by
 obtain⟨t,m,b,c,s,h,x,y,rfl,_,_,_,_,hb,d,k,q⟩:=hr;unfold r7 rZ Gh dF
 (dsimp +instances only[Aa,Ab,Ac,Ad,Ae,Af,Ag])
 have B:=TB (.inl hb);have I:=TC k;have J:=TC q;have M:=TD d;rw[nF t,nF m];rw[B,M,nF s,nF h,I,J];generalize ch t 0 345686399999=b1;generalize ch m 1 3=N;generalize jK b=O;generalize jL c=U;generalize ch s 0 99999=V;generalize ch h 0 99999=W;generalize nG x=b7;generalize nG y=b8;cases b1<;>cases N<;>cases O<;>cases U<;>cases V<;>cases W<;>cases b7<;>cases b8<;>rfl
theorem empty_eq(s:ByteArray):(s.toList==(⟨#[]⟩:ByteArray).toList)=oV [⟨#[]⟩] s:=by
 rw[sF,sF];simp only[oV,nz,zd,List.any_nil,Bool.or_false];rw[mI];simp only[beq_iff_eq];exact eq_comm
theorem aiE{r:List G}(hr:dT r):xH [.l [r]]=some [.i (dF r)]:=by
 obtain⟨t,m,b,c,s,h,x,y,rfl,_,_,_,_,hb,q,B,I⟩:=hr;unfold xH xG dF nG
 (dsimp +instances only[Aa,Ab,Ac,Ad,Ae,Af,Ag])
 have J:=Cz (.inl hb);have M:=Cz (.inr B);have N:=Cz (.inr I);have O:=aiD q;have ex:=empty_eq x;have d:=empty_eq y;generalize (⟨#[]⟩:ByteArray)=z at ex d⊢;simp only[TA,NR rfl,J,O,M,N]
 (dsimp +instances only[Aa,Ab,Ac,Ad,Ae,Af,Ag])
 rw[ex,d];generalize ch t 0 345686399999=b1;generalize ch m 1 3=U;generalize jK b=V;generalize jL c=W;generalize ch s 0 99999=b5;generalize ch h 0 99999=b6;generalize jK x=b7;generalize jK y=b8;generalize oV [z] x=b9;generalize oV [z] y=k;cases b1<;>cases U<;>cases V<;>cases W<;>cases b5<;>cases b6<;>cases b7<;>cases b8<;>cases b9<;>cases k<;>rfl
def sd(K:List Kd)(C D:List G→Option (List G))(d:List G):Option (Option Nat × List G) :=
 (bif (ao (gi d 3).int (gi d 2).int) then (bif ((aJ (gi d 3).int)&&(ao (gi d 3).int (((gi d 1).rows.length:Nat):Int))) then (ar (C [.l [(aU K ((gi d 1).rows.getD (((gi d 3).int).toNat) []))]]) fun g1=>(bif ((gi g1 0).int != 0) then some (some 0,[.i (gi g1 0).int]) else (bif (ao 0 (gi d 3).int) then (bif (aw ((gi d 3).int-1)) then (bif ((aJ ((gi d 3).int-1))&&(ao ((gi d 3).int-1) (((gi d 0).rows.length:Nat):Int))) then (ar (D [.l [(aU K ((gi d 0).rows.getD (((gi d 3).int-1).toNat) []))],.l [(aU K ((gi d 1).rows.getD (((gi d 3).int).toNat) []))]]) fun g2=>(bif (bx 0 (gi g2 0).int) then some (some 0,[.i 7]) else (bif (aw ((gi d 3).int+1)) then some (none,[.l (gi d 0).rows,.l (gi d 1).rows,.i (gi d 2).int,.i ((gi d 3).int+1)]) else none))) else none) else none) else (bif (aw ((gi d 3).int+1)) then some (none,[.l (gi d 0).rows,.l (gi d 1).rows,.i (gi d 2).int,.i ((gi d 3).int+1)]) else none)))) else none) else some (some 1,[]))
def TF(K:List Kd)(C D:List G→Option (List G))(d:List G):Option (List G) :=
 (bif (ao 2000 (((gi d 0).rows.length:Nat):Int)) then some [.i 2] else (aO true (bX (sd K C D) [.l (gi d 0).rows,.l (gi d 0).rows,.i (((gi d 0).rows.length:Nat):Int),.i 0]) fun k g3=>(bif ab k 0 then some [.i (gi g3 0).int] else some [.i 0])))
def eH:Option (List G)→List (List G)→Int
 |_,[]=>0
 |none,x::q=>if dF x≠0 then dF x else eH (some x) q
 |some y,x::q=>if dF x≠0 then dF x else if 0≤cP y x then 7 else eH (some x) q
def gO(l:List (List G)):Int:=if 2000<l.length then 2 else eH none l
section
variable {C D:List G→Option (List G)} (hC:∀ r,dT r→C [.l [r]]=some [.i (dF r)]) (hD:∀ r s,dT r→dT s→D [.l [r],.l [s]]=some [.i (cP r s)])
include hC hD
theorem TG:∀(q p:List (List G)),(∀ z∈p++q,dT z)→p.length+q.length<100000 →
  bq (sd [.int .i64,.int .i64,.str,.str,.int .i64,.int .i64,.str,.str] C D) [.l (p++q),.l (p++q),.i ((p.length+q.length:Nat):Int),.i (p.length:Int)] (q.length+1) fun c g=>(c=0∧g=[.i (eH p.getLast? q)])∨c=1∧eH p.getLast? q=0
 | [],p,I,N=>by
  refine bq.stop (x:=1) (d':=[]) (aa.toEq ?_) (.inr ⟨rfl,by unfold eH; rfl⟩);unfold sd
  (dsimp +instances only[Aa,Ab,Ac,Ad,Ae,Af,Ag])
  (repeat first|refine aa.p ?_|refine aa.n ?_)
  exact aa.some rfl
 | x::q,p,I,N=>by
  simp only[cn]at N;have d:dT x:=I x (by simp);have g1:(p++x::q).getD (p.length:Int).toNat []=x:=nw _ _ _ _ _ (by simp);have hlen:(p++x::q).length=p.length+q.length+1:=by simp; omega
  by_cases k:dF x=0
  ·have M := TG q (p ++ [x]) (by simpa using I) (by simp; omega)
   rw[List.getLast?_concat]at M;rcases List.eq_nil_or_concat p with rfl|⟨B,y,rfl⟩
   ·have e : eH ([] : List (List G)).getLast? (x :: q) = eH (some x) q := by simp [eH, k]
    rw[e];refine bq.next (aa.toEq ?_) M
    unfold sd
    (dsimp +instances only[Aa,Ab,Ac,Ad,Ae,Af,Ag])
    simp only[g1,hlen,cn,d.eta]
    (repeat first|refine aa.p ?_|refine aa.n ?_)
    refine aa.cE (hC x d) ?_
    (dsimp +instances only[Aa,Ab,Ac,Ad,Ae,Af,Ag])
    simp only[k]
    (repeat first|refine aa.p ?_|refine aa.n ?_)
    refine aa.some ?_;simp;omega
   ·rw [List.concat_eq_append] at *
    have J:dT y:=I y (by simp);have g2:((B++[y])++x::q).getD (((B++[y]).length:Int)-1).toNat []=y:=by
     have e:(B++[y])++x::q=B++y::x::q:=by simp
     rw[e]; exact nw _ _ _ _ _ (by simp)
    have U:(B++[y]).length=B.length+1:=by simp
    have O:(B++[y]).getLast? = some y:=by simp
    rw[O];by_cases ho:0≤cP y x
    ·refine bq.stop (x := 0) (d' := [.i 7]) (aa.toEq ?_) (.inl ⟨rfl, by simp [eH, k, ho]⟩)
     unfold sd
     (dsimp +instances only[Aa,Ab,Ac,Ad,Ae,Af,Ag])
     simp only[g1,g2,hlen,cn,d.eta,J.eta]
     (repeat first|refine aa.p ?_|refine aa.n ?_)
     refine aa.cE (hC x d) ?_
     (dsimp +instances only[Aa,Ab,Ac,Ad,Ae,Af,Ag])
     simp only[k]
     (repeat first|refine aa.p ?_|refine aa.n ?_)
     refine aa.cE (hD y x J d) ?_
     (dsimp +instances only[Aa,Ab,Ac,Ad,Ae,Af,Ag])
     (repeat first|refine aa.p ?_|refine aa.n ?_)
     exact aa.some rfl
    ·have e : eH (some y) (x :: q) = eH (some x) q := by simp [eH, k, ho]
     rw[e];refine bq.next (aa.toEq ?_) M
     unfold sd
     (dsimp +instances only[Aa,Ab,Ac,Ad,Ae,Af,Ag])
     simp only[g1,g2,hlen,cn,d.eta,J.eta]
     (repeat first|refine aa.p ?_|refine aa.n ?_)
     refine aa.cE (hC x d) ?_
     (dsimp +instances only[Aa,Ab,Ac,Ad,Ae,Af,Ag])
     simp only[k]
     (repeat first|refine aa.p ?_|refine aa.n ?_)
     refine aa.cE (hD y x J d) ?_
     (dsimp +instances only[Aa,Ab,Ac,Ad,Ae,Af,Ag])
     (repeat first|refine aa.p ?_|refine aa.n ?_)
     refine aa.some ?_;simp;omega
  ·refine bq.stop (x := 0) (d' := [.i (dF x)]) (aa.toEq ?_) (.inl ⟨rfl, by cases hg : p.getLast? <;> simp [eH, k]⟩)
   unfold sd
   (dsimp +instances only[Aa,Ab,Ac,Ad,Ae,Af,Ag])
   simp only[g1,hlen,cn,d.eta]
   (repeat first|refine aa.p ?_|refine aa.n ?_)
   refine aa.cE (hC x d) ?_
   (dsimp +instances only[Aa,Ab,Ac,Ad,Ae,Af,Ag])
   refine aa.pos (by simpa using k) (aa.some rfl)
theorem aiF(l:List (List G))(d:∀ z∈l,dT z)(hn:l.length<100000):TF [.int .i64,.int .i64,.str,.str,.int .i64,.int .i64,.str,.str] C D [.l l]=some [.i (gO l)]:=by
 refine aa.toEq ?_;unfold TF gO
 (dsimp +instances only[Aa,Ab,Ac,Ad,Ae,Af,Ag])
 by_cases h:2000<l.length
 ·(repeat first|refine aa.p ?_|refine aa.n ?_)
  exact aa.some (by simp[h])
 ·(repeat first|refine aa.p ?_|refine aa.n ?_)
  have h1:=TG hC hD l [] (by simpa using d) (by simpa using hn);have h0:((0:Nat):Int)=0:=rfl;simp only[ki,lN,di,h0]at h1;refine aa.loop (h1.to (by omega)) (by(first|rfl|assumption|(simp only[aw,sl]<;>omega))) ?_;rintro c g (⟨rfl,rfl⟩|⟨rfl,k⟩)
  ·(dsimp +instances only [Aa,Ab,Ac,Ad,Ae,Af,Ag])
   (repeat first|refine aa.p ?_|refine aa.n ?_)
   refine aa.some ?_;rw[if_neg h];rfl
  ·(repeat first|refine aa.p ?_|refine aa.n ?_)
   refine aa.some ?_;rw[if_neg h];exact congrArg (fun z=>[G.i z]) k.symm
end
theorem TH(l:List (List G))(d:∀ z∈l,dT z)(hn:l.length<100000):xA [.l l]=some [.i (gO l)] :=
 aiF (fun _ h=>TE h) (fun _ _ h h'=>Tz h h') l d hn
end
end Go.Proofs.gl

namespace Go.Proofs.gl
open Go Go.AL Go.Proofs
noncomputable section
def TI:List (List G)→Bool
 | []=>false
 | [_]=>false
 |x::y::q=>cP x y==0||TI (y::q)
def amD(m:List (List G)):List G:=bif TI m then [.l [],.i 13] else bif Nat.blt 2000 m.length then [.l [],.i 2] else [.l m,.i 0]
end
end Go.Proofs.gl

namespace Go.Proofs.gl
open Go Go.AL Go.Proofs
noncomputable section
structure amE (s:List (List G) × List (List G)) (i:Nat):Prop where
 l1:s.1.length≤i
 l2:s.2.length≤i
 r1:∀ r∈s.1,∃ a b,r=[.i a,.i b]∧0≤b∧b≤i+1
 r2:∀ r∈s.2,∃ a,r=[.i a]
def uR(r:List G):Prop:=∃(t m:Int) (b c:ByteArray) (s h:Int) (x y:ByteArray),r=[.i t,.i m,.s b,.s c,.i s,.i h,.s x,.s y]
theorem dT.row{r:List G}(h:dT r):uR r:=by
 obtain⟨t,m,b,c,s,h,x,y,e,_⟩:=h;exact⟨t,m,b,c,s,h,x,y,e⟩
theorem uR.eta{r:List G}(h:uR r):aU [.int .i64,.int .i64,.str,.str,.int .i64,.int .i64,.str,.str] r=r:=by
 obtain⟨t,m,b,c,s,h,x,y,rfl⟩:=h;rfl
theorem uR.put{r:List G}(h:uR r)(n:Int):uR (dR [.int .i64,.int .i64,.str,.str,.int .i64,.int .i64,.str,.str] r 4 [.i n]):=by
 obtain⟨t,m,b,c,s,h,x,y,rfl⟩:=h;exact⟨t,m,b,c,n,h,x,y,rfl⟩
def has(a b t:Int):Bool:=bx a t&&ao t b
structure amF (s:List (List G) × Int) (i:Nat):Prop where
 len:s.1.length≤i
 rows:∀ r∈s.1,∃ a b,r=[.i a,.i b]
 at0:0≤s.2
 at1:s.2≤345686400000
structure amI (s:List (List G)) (n i:Nat):Prop where
 len:s.length=n
 rows:∀ r∈s,∃ v,r=[.i v]∧0≤v∧v≤i
theorem TJ:∀ a b:List UInt8,eT b a = - eT a b
 | [],[]=>rfl
 | [],_::_=>rfl
 |_::_,[]=>rfl
 | a::xs,b::k=>by
  simp only[eT];have q:=TJ xs k;by_cases h1:a<b
  ·have d : ¬ b < a := fun h => VW a (amc h1 h)
   simp[h1,d]
  ·by_cases d : b < a
   ·simp[h1,d]
   ·simp[h1,d,q]
theorem TK:∀{a b c:List UInt8},eT a b<0→eT b c<0→eT a c<0
 | [],[],_,h,_=>by simp[eT]at h
 | [],_::_,[],_,h=>by simp[eT]at h
 | [],_::_,_::_,_,_=>by simp[eT]
 |_::_,[],_,h,_=>by simp[eT]at h
 |_::_,_::_,[],_,h=>by simp[eT]at h
 | a::xs,b::N,c::O,h1,d=>by
  simp only[eT]at h1 d⊢;by_cases k:a<b
  ·by_cases q : b < c
   ·rw [if_pos (amc k q)]
    omega
   ·by_cases I : c < b
    ·rw [if_neg q, if_pos I] at d
     omega
    ·have e : b = c := Dj (pv.1 I) (pv.1 q)
     subst e;rw[if_pos k];omega
  ·by_cases J : b < a
   ·rw [if_neg k, if_pos J] at h1
    omega
   ·have e : a = b := Dj (pv.1 J) (pv.1 k)
    subst e;rw[if_neg (VW a),if_neg (VW a)]at h1;by_cases B:a<c
    ·rw [if_pos B]
     omega
    ·by_cases M : c < a
     ·rw [if_neg B, if_pos M] at d
      omega
     ·rw [if_neg B, if_neg M] at d ⊢
      exact TK h1 d
theorem aiG{a b:ByteArray}(h:(a.toList==b.toList)=true):a=b:=by
 rw[sF,sF,beq_iff_eq]at h;exact ByteArray.ext (Array.toList_inj.1 h)
theorem lx{a b:ByteArray}:cJ a b=0↔a=b:=by
 have h:=ye a b;constructor
 ·intro e
  rw[decide_eq_true (p:=cJ a b=0) e]at h;exact aiG h
 ·rintro rfl
  have d:(a.toList==a.toList)=true:=by simp
  rw[d]at h;exact of_decide_eq_true h.symm
theorem TL{a b:Int}:ew a b=0↔a=b:=by
 unfold ew;constructor
 ·intro h
  split at h
  ·omega
  ·split at h<;>omega
 ·rintro rfl
  simp
theorem se{a b:Int}:ew a b<0↔a<b:=by
 unfold ew;constructor
 ·intro h
  split at h
  ·assumption
  ·split at h<;>omega
 ·intro h
  rw[if_pos h];omega
theorem oW(a b:ByteArray):(a.toList==b.toList)=decide (a=b):=by
 rw[ye,mI,decide_eq_true_eq,decide_eq_true_eq];exact lx
structure qp {α:Type} (c:α→α→Int):Prop where
 flip:∀ a b,c b a = - c a b
 eq:∀ a b,c a b=0→a=b
 tr:∀ a b d,c a b<0→c b d<0→c a d<0
theorem jM:qp ew:=⟨fun a b=>by unfold ew; split<;>split<;>first|omega|(split<;>omega)|skip,fun a b h=>TL.1 h,fun a b d h1 k=>se.2 (Int.lt_trans (se.1 h1) (se.1 k))⟩
theorem gB:qp cJ:=⟨fun a b=>TJ _ _,fun a b h=>lx.1 h,fun a b d h1 k=>TK h1 k⟩
theorem qp.le{α:Type}{c:α→α→Int}(h:qp c)(a b d:α)(h1:c a b≤0)(k:c b d≤0):c a d≤0:=by
 by_cases q:c a b=0
 ·rw [h.eq a b q]
  exact k
 ·by_cases B : c b d = 0
  ·rw [← h.eq b d B]
   exact h1
  ·have := h.tr a b d (by omega) (by omega)
   omega
theorem qp.refl{α:Type}{c:α→α→Int}(h:qp c)(a:α):c a a=0:=by
 have:=h.flip a a;omega
def fD(a b:Int):Int:=if a≠0 then a else b
theorem Je{α:Type}{c:α→α→Int}(h:qp c)(a b d:α)(x y z:Int)(h1:fD (c a b) x≤0)(k:fD (c b d) y≤0)(I:x≤0→y≤0→z≤0):fD (c a d) z≤0:=by
 unfold fD at *;by_cases B:c a b=0
 ·have e := h.eq a b B
  subst e;rw[if_neg (by simpa using B)]at h1;by_cases q:c a d=0
  ·rw [if_neg (by simpa using q)] at k ⊢
   exact I h1 k
  ·rw [if_pos q] at k ⊢
   exact k
 ·rw [if_pos B] at h1
  by_cases q:c b d=0
  ·have e := h.eq b d q
   subst e;rw[if_pos B];exact h1
  ·rw [if_pos q] at k
   have:=h.tr a b d (by omega) (by omega);rw[if_pos (by omega)];omega
theorem Jf{α:Type}{c:α→α→Int}(h:qp c)(a b d:α)(x y z:Int)(h1:fD (c a b) x<0)(k:fD (c b d) y<0)(I:x<0→y<0→z<0):fD (c a d) z<0:=by
 unfold fD at *;by_cases B:c a b=0
 ·have e := h.eq a b B
  subst e;rw[if_neg (by simpa using B)]at h1;by_cases q:c a d=0
  ·rw [if_neg (by simpa using q)] at k ⊢
   exact I h1 k
  ·rw [if_pos q] at k ⊢
   exact k
 ·rw [if_pos B] at h1
  by_cases q:c b d=0
  ·have e := h.eq b d q
   subst e;rw[if_pos B];exact h1
  ·rw [if_pos q] at k
   have:=h.tr a b d (by omega) (by omega);rw[if_pos (by omega)];omega
theorem yf{a b d k:Int}(h1:d = - a)(q:k = - b):fD d k = - fD a b:=by
 unfold fD;subst h1 q;by_cases e:a=0
 ·subst e
  simp
 ·rw[if_pos e,if_pos (by omega)]
theorem Jg{c:List G→List G→Int}(k:∀ a b,c b a = - c a b)(q:∀ a b d,c a b≤0→c b d≤0→c a d≤0):fk (bM c) (fun _=>True):=by
 have lt:∀ r s,bM c r s=decide (c r s<0):=fun r s=>by unfold bM; rw[dD]
 refine⟨fun a b d _ _ _ h1 B=>?_,fun a b _ _ h=>?_⟩
 ·rw [lt, decide_eq_false_iff_not] at *
  have:=q d b a (by have:=k d b; omega) (by have:=k b a; omega);have:=k a d;omega
 ·rw [lt, decide_eq_true_eq] at h
  rw[lt,decide_eq_false_iff_not];have:=k a b;omega
def aiH:List ByteArray:=[⟨#[97,108,108]⟩,⟨#[99,111,100,101]⟩,⟨#[65]⟩]
def aiI:List ByteArray:=[⟨#[]⟩,⟨#[107,112,50,48,108,102]⟩,⟨#[107,112,50,48]⟩]
def TM(r:List G):Prop:=∃(c k:ByteArray) (p:Int) (q:ByteArray),r=[.s c,.s k,.i p,.s q]∧c∈calls∧k∈aiH ∧ -1099511627776≤p∧p≤1099511627776∧q∈aiI
theorem TM.eta{r:List G}(h:TM r):aU [.str,.str,.int .i64,.str] r=r:=by
 obtain⟨c,k,p,q,rfl,_⟩:=h;rfl
def two:List (List G):=[[.s (⟨#[97,108,108]⟩:ByteArray)],[.s (⟨#[99,111,100,101]⟩:ByteArray)]]
def kK:List ByteArray:=[⟨#[]⟩,⟨#[115,97]⟩,⟨#[115,98]⟩,⟨#[115,99]⟩]
def mg(si:ByteArray)(no at_ kd t m:Int)(b c:ByteArray)(s h:Int)(x y bd a_:ByteArray)(ot:Int):List G :=
 [.s si,.i no,.i at_,.i kd,.i t,.i m,.s b,.s c,.i s,.i h,.s x,.s y,.s bd,.s a_,.i ot]
def qs(si:ByteArray)(no at_ kd t m:Int)(b c:ByteArray)(s h:Int)(x y bd a_:ByteArray)(ot:Int):Prop :=
 si∈kK∧small no∧small at_∧small kd∧(small t∧small m∧b∈jJ∧c∈kJ∧small s∧small h∧x∈names∧y∈names)∧bd∈jJ∧a_∈kK∧small ot
def cu(r:List G):Prop:=∃ si no at_ kd t m b c s h x y bd a_ ot,r=mg si no at_ kd t m b c s h x y bd a_ ot∧qs si no at_ kd t m b c s h x y bd a_ ot
theorem cu.eta{r:List G}(h:cu r):aU aF r=r:=by
 obtain⟨_,_,_,_,_,_,_,_,_,_,_,_,_,_,_,rfl,_⟩:=h;rfl
section
variable {l out mm:List (List G)} {a no at_ kd t m s h ot u v w:Int} {ck:Nat} {si b c x y bd a_:ByteArray}
theorem aiJ(hn:out.length≤1000) :
  oT [.l l,.i a,.l out,.l mm,.i (ck:Int),.s si,.i no,.i at_,.i kd,.i t,.i m,.s b,.s c,.i s,.i h,.s x,.s y,.s bd,.s a_,.i ot,.i u,.i v,.i w] =
   some (some 0,[.l l,.i a,.l (out++[mg si no at_ kd t m b c s h x y bd a_ ot]),.l mm,.i (ck:Int),.i u,.i v,.i w]):=by
 refine aa.toEq ?_;unfold oT
 (dsimp +instances only[Aa,Ab,Ac,Ad,Ae,Af,Ag])
 simp only[ba]
 (repeat first|refine aa.p ?_|refine aa.n ?_)
 exact aa.some rfl
theorem CA{n:Int}(h : -1099511627776≤n∧(n≤1000000001∨n=1099511627776)):small n:=by
 unfold small;omega
theorem aiK(ha:0≤a)(ha1:a≤800000)(hn:out.length≤1000)(q:qs si no at_ kd t m b c s h x y bd a_ ot) :
  aa (qm [.l l,.i a,.l out,.l mm,.i (ck:Int),.s si,.i no,.i at_,.i kd,.i t,.i m,.s b,.s c,.i s,.i h,.s x,.s y,.s bd,.s a_,.i ot,.i u,.i v,.i w]) fun o =>
   ∃ k,o.1=some k∧∃ d r,o.2=[.l l,.i d,.l (out++[r]),.l mm,.i (ck:Int),.i u,.i v,.i w]∧a≤d∧d≤a+20∧cu r∧(gi r 2).int=at_:=by
 obtain⟨d1,d2,d3,d4,d5,d6,d7,d8⟩:=q;have fin:∀(d:Int) (si:ByteArray) (no kd s:Int) (bd a_:ByteArray) (ot:Int),a≤d→d≤a+20→qs si no at_ kd t m b c s h x y bd a_ ot →
   aa (aO ((ab out.length out.length)&&true) (cf (oT [.l l,.i d,.l out,.l mm,.i (ck:Int),.s si,.i no,.i at_,.i kd,.i t,.i m,.s b,.s c,.i s,.i h,.s x,.s y,.s bd,.s a_,.i ot,.i u,.i v,.i w])) fun W g10 =>
    (bif ((ab (gi g10 2).rows.length (gi g10 2).rows.length)&&true) then (some (some 0,[G.l (gi g10 0).rows,G.i (gi g10 1).int,G.l (gi g10 2).rows,G.l (gi g10 3).rows,G.i (((gi g10 4).int.toNat:Nat):Int),G.i (gi g10 5).int,G.i (gi g10 6).int,G.i (gi g10 7).int]):Option (Option Nat × List G)) else none)) fun o =>
   ∃ k,o.1=some k∧∃ d r,o.2=[.l l,.i d,.l (out++[r]),.l mm,.i (ck:Int),.i u,.i v,.i w]∧a≤d∧d≤a+20∧cu r∧(gi r 2).int=at_:=by
  intro d si no kd s bd a_ ot h1 U q;refine aa.tail (P:=fun _ g=>g=[.l l,.i d,.l (out++[mg si no at_ kd t m b c s h x y bd a_ ot]),.l mm,.i (ck:Int),.i u,.i v,.i w]) ⟨_,aiJ hn,0,rfl,rfl⟩ (by simp) ?_;rintro _ _ rfl
  (dsimp +instances only[Aa,Ab,Ac,Ad,Ae,Af,Ag])
  simp only[ba];refine aa.pos (by simp) (aa.some ⟨0,rfl,d,_,rfl,h1,U,⟨_,_,_,_,_,_,_,_,_,_,_,_,_,_,_,rfl,q⟩,rfl⟩)
 unfold qm
 (dsimp +instances only[Aa,Ab,Ac,Ad,Ae,Af,Ag])
 simp only[ba];refine aa.call (Cv l a 100 ha (by omega) (by omega) (by omega)) ?_;rintro _ ⟨f,rfl⟩
 (dsimp +instances only[Aa,Ab,Ac,Ad,Ae,Af,Ag])
 refine aa.test (fun _=>?_) fun _=>fin (a+1) _ _ _ _ _ _ _ (by omega) (by omega) ⟨d1,d2,d3,d4,d5,d6,d7,d8⟩;refine aa.call (uQ l _ 4 (by omega) (by omega) (by omega) (by omega)) ?_;rintro _ ⟨n,rfl,hn0,hn1⟩
 (dsimp +instances only[Aa,Ab,Ac,Ad,Ae,Af,Ag])
 refine aa.test (fun _=>?_) fun _=>aa.test (fun _=>?_) fun _=>aa.test (fun _=>?_) fun _=>?_
 ·refine aa.call (j9 kK l _ _ (by omega) (by omega) (by kernel_rfl) (by kernel_rfl)) ?_
  rintro _ ⟨si',rfl,B⟩
  (dsimp +instances only[Aa,Ab,Ac,Ad,Ae,Af,Ag])
  refine aa.call (qo l _ 1 9 (by omega) (by omega) (by omega) (by omega) (by omega)) ?_;rintro _ ⟨no',rfl,I⟩
  (dsimp +instances only[Aa,Ab,Ac,Ad,Ae,Af,Ag])
  exact fin (a+1+1+1+2) _ _ _ _ _ _ _ (by omega) (by omega) ⟨B,CA I,d3,d4,d5,d6,d7,d8⟩
 ·refine aa.call (qo l _ 1 5 (by omega) (by omega) (by omega) (by omega) (by omega)) ?_
  rintro _ ⟨kd',rfl,J⟩
  (dsimp +instances only[Aa,Ab,Ac,Ad,Ae,Af,Ag])
  exact fin (a+1+1+2) _ _ _ _ _ _ _ (by omega) (by omega) ⟨d1,d2,d3,CA J,d5,d6,d7,d8⟩
 ·refine aa.call (j9 jJ l _ _ (by omega) (by omega) (by kernel_rfl) (by kernel_rfl)) ?_
  rintro _ ⟨bd',rfl,M⟩
  (dsimp +instances only[Aa,Ab,Ac,Ad,Ae,Af,Ag])
  refine aa.call (j9 kK l _ _ (by omega) (by omega) (by kernel_rfl) (by kernel_rfl)) ?_;rintro _ ⟨of',rfl,N⟩
  (dsimp +instances only[Aa,Ab,Ac,Ad,Ae,Af,Ag])
  exact fin (a+1+1+1+1) _ _ _ _ _ _ _ (by omega) (by omega) ⟨d1,d2,d3,d4,d5,M,N,d8⟩
 ·refine aa.call (qo l _ 1 99999 (by omega) (by omega) (by omega) (by omega) (by omega)) ?_
  rintro _ ⟨s',rfl,V⟩
  (dsimp +instances only[Aa,Ab,Ac,Ad,Ae,Af,Ag])
  refine aa.call (qo l _ 0 5 (by omega) (by omega) (by omega) (by omega) (by omega)) ?_;rintro _ ⟨ot',rfl,O⟩
  (dsimp +instances only[Aa,Ab,Ac,Ad,Ae,Af,Ag])
  exact fin (a+1+1+2+2) _ _ _ _ _ _ _ (by omega) (by omega) ⟨d1,d2,d3,d4,⟨d5.1,d5.2.1,d5.2.2.1,d5.2.2.2.1,CA V,d5.2.2.2.2.2⟩,d6,d7,CA O⟩
end
def mh(mm:List (List G))(i:Int):Prop:=∀ k,0≤(gi (bZ [Kd.str] mm k [.i 0]) 0).int∧(gi (bZ [Kd.str] mm k [.i 0]) 0).int≤i
theorem mh.nil:mh [] 0:=fun k=>by
 rw[xm];simp[gi,G.int]
theorem mh.put{mm:List (List G)}{i v:Int}(h:mh mm i)(k:List G)(h0:0≤v)(h1:v≤i+1)(c:Nat):mh (dv [Kd.str] mm k [.i v] c) (i+1):=fun x=>by
 rw[oP];cases aI [Kd.str] x k with
 |true=>exact⟨h0,h1⟩
 | false =>
  have:=h x;simp only[cond_false];omega
theorem TN(l out mm:List (List G))(a no at_ kd t m s h ot u v w i:Int)(ck:Nat)(si b c x y bd a_:ByteArray)(f:Bool)(ha:0≤a)(U:a≤800000)(V:0≤i)(hi:i≤1000)(hM:mh mm i)(M:qs si no at_ kd t m b c s h x y bd a_ ot) :
  aa (xE [.l l,.i a,.l out,.l mm,.i (ck:Int),.s si,.i no,.i at_,.i kd,.i t,.i m,.s b,.s c,.i s,.i h,.s x,.s y,.s bd,.s a_,.i ot,.i u,.i v,.i w,.t f]) fun o =>
   ∃ k,o.1=some k∧∃ B s' q d,o.2=[.l l,.i B,.l out,.l mm,.i (ck:Int),.s si,.i no,.i at_,.i kd,.i t,.i m,.s b,.s c,.i s',.i h,.s x,.s y,.s bd,.s q,.i d,.i u,.i v,.i w]∧a≤B∧B≤a+5∧qs si no at_ kd t m b c s' h x y bd q d:=by
 obtain⟨d1,d2,d3,d4,d5,d6,d7,d8⟩:=M;have W:=hM [.s (⟨#[115,97]⟩:ByteArray)];unfold xE
 (dsimp +instances only[Aa,Ab,Ac,Ad,Ae,Af,Ag])
 simp only[ba];cases f with
 | true =>
  refine aa.pos rfl ?_;refine aa.call (yc l a 1 7 ha (by omega) (by omega) (by omega) (by omega)) ?_;rintro _ ⟨s',rfl,hs0,hs1⟩
  (dsimp +instances only[Aa,Ab,Ac,Ad,Ae,Af,Ag])
  refine aa.pos (by simp) (aa.some ⟨0,rfl,a+1,s',a_,ot,rfl,by omega,by omega,⟨d1,d2,d3,d4,⟨d5.1,d5.2.1,d5.2.2.1,d5.2.2.2.1,by unfold small; omega,d5.2.2.2.2.2⟩,d6,d7,d8⟩⟩)
 | false =>
  refine aa.neg rfl ?_;refine aa.call (j9 kK l _ _ ha (by omega) (by kernel_rfl) (by kernel_rfl)) ?_;rintro _ ⟨q,rfl,J⟩
  (dsimp +instances only[Aa,Ab,Ac,Ad,Ae,Af,Ag])
  refine aa.call (yc l _ 1 _ (by omega) (by omega) (by split<;>omega) (by omega) (by split<;>omega)) ?_;rintro _ ⟨d,rfl,N,I⟩
  (dsimp +instances only[Aa,Ab,Ac,Ad,Ae,Af,Ag])
  have O:d≤1001:=by
   revert I
   split<;>intro _<;>omega
  refine aa.pos (by simp) (aa.some ⟨0,rfl,a+1+1,s,q,d,rfl,by omega,by omega,⟨d1,d2,d3,d4,d5,d6,J,by unfold small; omega⟩⟩)
theorem aiL:(⟨#[]⟩:ByteArray)∈jJ∧(⟨#[]⟩:ByteArray)∈kJ∧(⟨#[]⟩:ByteArray)∈names∧(⟨#[]⟩:ByteArray)∈kK:=by
 refine⟨?_,?_,?_,?_⟩<;>simp[jJ,kJ,names,kK]
theorem jh:small 0:=by unfold small; omega
theorem aiM(l out mm:List (List G))(a at_:Int)(ck n i:Nat)(ha:0≤a)(ha1:a≤700000)(hn:n≤20)(hi:i<n)(ho:out.length≤100)(ht0:0≤at_)(ht1:at_≤5*(i:Int))(hM:mh mm i) :
  aa (uy [.l l,.i a,.l out,.l mm,.i (ck:Int),.i at_,.i (n:Int),.i (i:Int)]) fun o=>∃ k r d q v,o=(none,[.l l,.i k,.l (out++[r]),.l d,.i ((q:Nat):Int),.i (at_+v),.i (n:Int),.i ((i:Int)+1)])∧a≤k∧k≤a+100∧cu r∧(gi r 2).int=at_+v∧0≤v∧v≤5∧mh d ((i:Int)+1):=by
 unfold uy
 (dsimp +instances only[Aa,Ab,Ac,Ad,Ae,Af,Ag])
 simp only[ba];refine aa.p ?_;refine aa.call (yd 0 5 l a _ ha (by omega) (by kernel_rfl) (by kernel_rfl)) ?_;rintro _ ⟨v,rfl,hv0,hv1⟩
 (dsimp +instances only[Aa,Ab,Ac,Ad,Ae,Af,Ag])
 refine aa.p ?_;refine aa.call (j9 kK l _ _ (by omega) (by omega) (by kernel_rfl) (by kernel_rfl)) ?_;rintro _ ⟨si,rfl,U⟩
 (dsimp +instances only[Aa,Ab,Ac,Ad,Ae,Af,Ag])
 refine aa.call (yd 1 5 l _ _ (by omega) (by omega) (by kernel_rfl) (by kernel_rfl)) ?_;rintro _ ⟨kd,rfl,hk0,hk1⟩
 (dsimp +instances only[Aa,Ab,Ac,Ad,Ae,Af,Ag])
 have hs:=hM [.s si];have O:=hM.put [.s si] (v:=(gi (bZ [Kd.str] mm [.s si] [.i 0]) 0).int+1) (by omega) (by omega) ck;generalize hmm:dv [Kd.str] mm [.s si] [.i ((gi (bZ [Kd.str] mm [.s si] [.i 0]) 0).int+1)] ck=d at O⊢;generalize dM [Kd.str] mm [.s si] ck=q;have hno:=O [.s si];generalize (gi (bZ [Kd.str] d [.s si] [.i 0]) 0).int=no at hno⊢;have V:small no:=by unfold small; omega
 have sat:small (at_+v):=by unfold small; omega
 have W:small kd:=by unfold small; omega
 obtain⟨M,ec,N,es⟩:=aiL;refine aa.p ?_;have fin:∀(k t m s h ot:Int) (b c x y bd a_:ByteArray),a≤k→k≤a+50→qs si no (at_+v) kd t m b c s h x y bd a_ ot →
   aa (aO ((ab out.length out.length)&&true) (cf (qm [.l l,.i k,.l out,.l d,.i (q:Int),.s si,.i no,.i (at_+v),.i kd,.i t,.i m,.s b,.s c,.i s,.i h,.s x,.s y,.s bd,.s a_,.i ot,.i (at_+v),.i (n:Int),.i (i:Int)])) fun cg20 g20 =>
    (bif (aw ((gi g20 7).int+1)) then (bif ((ab (gi g20 2).rows.length (gi g20 2).rows.length)&&true) then (some (none,[G.l (gi g20 0).rows,G.i (gi g20 1).int,G.l (gi g20 2).rows,G.l (gi g20 3).rows,G.i (((gi g20 4).int.toNat:Nat):Int),G.i (gi g20 5).int,G.i (gi g20 6).int,G.i ((gi g20 7).int+1)]):Option (Option Nat × List G)) else none) else none)) fun o =>
   ∃ k r d q w,o=(none,[.l l,.i k,.l (out++[r]),.l d,.i ((q:Nat):Int),.i (at_+w),.i (n:Int),.i ((i:Int)+1)])∧a≤k∧k≤a+100∧cu r∧(gi r 2).int=at_+w∧0≤w∧w≤5∧mh d ((i:Int)+1):=by
  intro k t m s h ot b c x y bd a_ h1 h2 hd;refine aa.tail (P:=fun _ g=>∃ a2 r,g=[.l l,.i a2,.l (out++[r]),.l d,.i (q:Int),.i (at_+v),.i (n:Int),.i (i:Int)]∧k≤a2∧a2≤k+20∧cu r∧(gi r 2).int=at_+v) (aiK (by omega) (by omega) (by omega) hd) (by simp) ?_;rintro _ _ ⟨a2,r,rfl,q1,q2,J,q4⟩
  (dsimp +instances only[Aa,Ab,Ac,Ad,Ae,Af,Ag])
  simp only[ba];refine aa.p (aa.pos (by simp) (aa.some ⟨a2,r,d,q,v,rfl,by omega,by omega,J,q4,hv0,hv1,O⟩))
 refine aa.test (fun _=>?_) fun _=>aa.test (fun _=>?_) fun _=>aa.test (fun _=>?_) fun _=>?_
 ·refine aa.p ?_
  refine aa.call (yc l _ _ _ (by omega) (by omega) (by split<;>omega) (by split<;>omega) (by omega)) ?_;rintro _ ⟨t,rfl,ht2,ht3⟩
  (dsimp +instances only[Aa,Ab,Ac,Ad,Ae,Af,Ag])
  have ht4:0≤t:=by
   revert ht2
   split<;>intro _<;>omega
  refine aa.call (aiB l _ t (by omega) (by omega) (by unfold sc; omega)) ?_;rintro _ ⟨b0,r,rfl,q1,q2,J⟩;obtain⟨t',m,b,c,s,h,x,y,rfl,p1,p2,p3,p4,p5,p6,p7,p8⟩:=J;have p1:=p1.to;have p2:=p2.to;have p3:=p3.to;have p4:=p4.to
  (dsimp +instances only[Aa,Ab,Ac,Ad,Ae,Af,Ag])
  exact fin b0 _ _ _ _ _ _ _ _ _ _ _ (by omega) (by omega) ⟨U,V,sat,W,⟨p1,p2,p5,p6,p3,p4,p7,p8⟩,M,es,jh⟩
 ·refine aa.call (j9 jJ l _ _ (by omega) (by omega) (by kernel_rfl) (by kernel_rfl)) ?_
  rintro _ ⟨bd,rfl,hbd⟩
  (dsimp +instances only[Aa,Ab,Ac,Ad,Ae,Af,Ag])
  exact fin (a+1+1+1+1) _ _ _ _ _ _ _ _ _ _ _ (by omega) (by omega) ⟨U,V,sat,W,⟨jh,jh,M,ec,jh,jh,N,N⟩,hbd,es,jh⟩
 ·refine aa.tail (P:=fun _ g=>∃ a2 s' B I,g=[.l l,.i a2,.l out,.l d,.i (q:Int),.s si,.i no,.i (at_+v),.i kd,.i 0,.i 0,.s (⟨#[]⟩:ByteArray),.s (⟨#[]⟩:ByteArray),.i s',.i 0,.s (⟨#[]⟩:ByteArray),.s (⟨#[]⟩:ByteArray),.s (⟨#[]⟩:ByteArray),.s B,.i I,.i (at_+v),.i (n:Int),.i (i:Int)] ∧
   a+1+1+1≤a2∧a2≤a+1+1+1+5∧qs si no (at_+v) kd 0 0 ⟨#[]⟩ ⟨#[]⟩ s' 0 ⟨#[]⟩ ⟨#[]⟩ ⟨#[]⟩ B I) (TN l out d _ no (at_+v) kd 0 0 0 0 0 _ _ _ ((i:Int)+1) q si _ _ _ _ _ _ _ (by omega) (by omega) (by omega) (by omega) O ⟨U,V,sat,W,⟨jh,jh,M,ec,jh,jh,N,N⟩,M,es,jh⟩) (by simp) ?_
  rintro _ _ ⟨a2,s',B,I,rfl,q1,q2,J⟩
  (dsimp +instances only[Aa,Ab,Ac,Ad,Ae,Af,Ag])
  simp only[ba];exact fin a2 _ _ _ _ _ _ _ _ _ _ _ (by omega) (by omega) J
 ·refine aa.tail (P:=fun _ g=>∃ a2 s' B I,g=[.l l,.i a2,.l out,.l d,.i (q:Int),.s si,.i no,.i (at_+v),.i kd,.i 0,.i 0,.s (⟨#[]⟩:ByteArray),.s (⟨#[]⟩:ByteArray),.i s',.i 0,.s (⟨#[]⟩:ByteArray),.s (⟨#[]⟩:ByteArray),.s (⟨#[]⟩:ByteArray),.s B,.i I,.i (at_+v),.i (n:Int),.i (i:Int)] ∧
   a+1+1+1≤a2∧a2≤a+1+1+1+5∧qs si no (at_+v) kd 0 0 ⟨#[]⟩ ⟨#[]⟩ s' 0 ⟨#[]⟩ ⟨#[]⟩ ⟨#[]⟩ B I) (TN l out d _ no (at_+v) kd 0 0 0 0 0 _ _ _ ((i:Int)+1) q si _ _ _ _ _ _ _ (by omega) (by omega) (by omega) (by omega) O ⟨U,V,sat,W,⟨jh,jh,M,ec,jh,jh,N,N⟩,M,es,jh⟩) (by simp) ?_
  rintro _ _ ⟨a2,s',B,I,rfl,q1,q2,J⟩
  (dsimp +instances only[Aa,Ab,Ac,Ad,Ae,Af,Ag])
  simp only[ba];exact fin a2 _ _ _ _ _ _ _ _ _ _ _ (by omega) (by omega) J
def Jh(z:List G):Prop:=cu z∧0≤(gi z 2).int∧(gi z 2).int≤100
theorem TO(l:List (List G))(n:Nat)(hn:n≤20):∀(k i:Nat) (a t:Int) (ck:Nat) (acc mm:List (List G)),i+k=n→0≤a→a+100*(k:Int)≤700000→0≤t→t≤5*(i:Int)→(∀ z∈acc,Jh z)→acc.length=i→mh mm i →
  bq uy [.l l,.i a,.l acc,.l mm,.i (ck:Int),.i t,.i (n:Int),.i (i:Int)] (k+1) fun c g=>c=0∧∃ b rows,g=[.l l,.i b,.l rows]∧a≤b∧b≤a+100*k∧(∀ z∈rows,Jh z)∧rows.length=n
 | 0,i,a,t,ck,acc,mm,hi,ha,hb,I,B,q,J,hM=>by
  refine bq.stop (x:=0) (aa.toEq ?_) ⟨rfl,a,acc,rfl,by omega,by omega,q,by omega⟩;unfold uy
  (dsimp +instances only[Aa,Ab,Ac,Ad,Ae,Af,Ag])
  (repeat first|refine aa.p ?_|refine aa.n ?_)
  exact aa.some rfl
 | k+1,i,a,t,ck,acc,mm,hi,ha,hb,I,B,q,J,hM=>by
  obtain⟨_,h,b,r,M,N,v,rfl,h1,h2,O,h7,h4,h5,U⟩:=aiM l acc mm a t ck n i ha (by omega) hn (by omega) (by omega) I B hM;have V:=TO l n hn k (i+1) b (t+v) N (acc++[r]) M (by omega) (by omega) (by omega) (by omega) (by omega) (by
   intro z d;rcases cQ.1 d with d|d
   ·exact q z d
   ·simp at d; exact d▸⟨O,by omega,by omega⟩) (by simp[J]) (by simpa using U)
  refine bq.next h (V.mono ?_)
  rintro c g ⟨rfl,W,rows,rfl,q1,q2,q3,q4⟩;exact⟨rfl,W,rows,rfl,by omega,by omega,q3,q4⟩
def gP(r s:List G):Int:=if (gi r 2).int≠(gi s 2).int then ew (gi r 2).int (gi s 2).int else if cJ (gi r 0).str (gi s 0).str≠0 then cJ (gi r 0).str (gi s 0).str else ew (gi r 1).int (gi s 1).int
theorem TP{r s:List G}(hr:cu r)(I:cu s):uw [.l [r],.l [s]]=some [.i (gP r s)]:=by
 obtain⟨si,no,at_,_,_,_,_,_,_,_,_,_,_,_,_,rfl,_,hn,ha,_⟩:=hr;obtain⟨d,B,at',_,_,_,_,_,_,_,_,_,_,_,_,rfl,_,J,M,_⟩:=I;unfold small at *;refine aa.toEq ?_;unfold uw gP mg
 (dsimp +instances only[Aa,Ab,Ac,Ad,Ae,Af,Ag])
 simp only[ye];by_cases q:at_=at'
 ·subst q
  by_cases k:cJ si d=0
  ·simp only [k]
   (repeat first|refine aa.p ?_|refine aa.n ?_)
   refine aa.cE (sign_eq no B) ?_
   (dsimp +instances only[Aa,Ab,Ac,Ad,Ae,Af,Ag])
   exact aa.some (by simp)
  ·refine aa.neg (by simp) (aa.pos (by simp [k]) ?_)
   refine aa.cE (rfl:j8 [.s si,.s d]=some [.i (cJ si d)]) ?_
   (dsimp +instances only[Aa,Ab,Ac,Ad,Ae,Af,Ag])
   exact aa.some (by simp[k])
 ·(repeat first|refine aa.p ?_|refine aa.n ?_)
  refine aa.cE (sign_eq at_ at') ?_
  (dsimp +instances only[Aa,Ab,Ac,Ad,Ae,Af,Ag])
  exact aa.some (by simp[q])
theorem aiN:oQ aF uw cu gP:=⟨fun _ _ hr d=>TP hr d,fun _ h=>h.eta⟩
theorem aiO(rows:List (List G))(hr:∀ y∈rows,cu y)(hn:rows.length≤20):Hf [.l rows]=some [.l (eu (bM gP) rows)]:=aaU aiN rows hr hn
theorem aiP(l:List (List G))(a n:Int)(ha:0≤a)(I:a≤600000)(h0:0≤n)(h1:n≤20) :
  aa (xF [.l l,.i a,.i n]) fun g=>∃ b rows,g=[.l l,.i b,.l rows]∧a≤b∧b≤a+2000∧(∀ z∈rows,Jh z)∧(rows.length:Int)≤n:=by
 obtain⟨n,rfl⟩:=Int.eq_ofNat_of_zero_le h0;unfold xF
 (dsimp +instances only[Aa,Ab,Ac,Ad,Ae,Af,Ag])
 refine aa.loop ((TO l n (by omega) n 0 a 0 0 [] [] (by omega) ha (by omega) (by omega) (by omega) (by simp) rfl (by simpa using mh.nil)).to (by omega)) rfl ?_;rintro c g ⟨rfl,b,rows,rfl,J,M,d,N⟩
 (dsimp +instances only[Aa,Ab,Ac,Ad,Ae,Af,Ag])
 have q:=aaQ (lt:=bM gP) d;have k:=BA (bM gP) rows;refine aa.nt (aa.eq (aiO rows (fun z B=>(d z B).1) (by omega))) (by(first|rfl|assumption|(simp only[aw,sl]<;>omega))) ?_;rintro _ rfl
 (dsimp +instances only[Aa,Ab,Ac,Ad,Ae,Af,Ag])
 exact aa.pos (by simp[k]) (aa.some ⟨b,_,rfl,by omega,by omega,q,by omega⟩)
theorem aiQ(l:List (List G))(a n:Int)(ha:0≤a)(d:a≤600000)(h0:0≤n)(h1:n≤20) :
  aa (xF [.l l,.i a,.i n]) fun g=>∃ b rows,g=[.l l,.i b,.l rows]∧a≤b∧b≤a+2000∧(∀ z∈rows,cu z)∧(rows.length:Int)≤n :=
 (aiP l a n ha d h0 h1).mono fun _ ⟨b,rows,e,k,q,B,I⟩=>⟨b,rows,e,k,q,fun z J=>(B z J).1,I⟩
def mn(s:ByteArray):Bool:=oV [⟨#[115,97]⟩,⟨#[115,98]⟩,⟨#[115,99]⟩] s
theorem TQ{s:ByteArray}(h:s∈kK):nA [.s s]=some [.t (mn s)]:=by
 simp only[kK,bN,mM,or_false]at h;rcases h with rfl|rfl|rfl|rfl<;>kernel_rfl
theorem TR{s:ByteArray}(h:s∈kK):oU [.s s]=some [.t (mn s)]:=by
 simp only[kK,bN,mM,or_false]at h;rcases h with rfl|rfl|rfl|rfl<;>kernel_rfl
def qt(r:List G):List G:=[.i (gi r 4).int,.i (gi r 5).int,.s (gi r 6).str,.s (gi r 7).str,.i (gi r 8).int,.i (gi r 9).int,.s (gi r 10).str,.s (gi r 11).str]
def uS(r:List G):List G:=[.s (gi r 0).str,.i (gi r 1).int,.i (gi r 2).int,.i (gi r 3).int]
def kL(r:List G):Int :=
 bif !mn (gi r 0).str then 5 else bif !ch (gi r 1).int 1 1000000 then 1 else bif !ch (gi r 2).int 0 345686399999 then 1 else bif !ch (gi r 3).int 1 5 then 4 else
 bif (gi r 3).int==1 then (bif dF (qt r) != 0 then dF (qt r) else bif ao (gi r 2).int (gi r 4).int then 1 else
  bif !aI aF r (uS r++qt r++[.s (⟨#[]⟩:ByteArray),.s (⟨#[]⟩:ByteArray),.i 0]) then 3 else 0)
 else bif (gi r 3).int==2 then (bif !jK (gi r 12).str then 5 else
  bif !aI aF r (uS r++[.i 0,.i 0,.s (⟨#[]⟩:ByteArray),.s (⟨#[]⟩:ByteArray),.i 0,.i 0,.s (⟨#[]⟩:ByteArray),.s (⟨#[]⟩:ByteArray),.s (gi r 12).str,.s (⟨#[]⟩:ByteArray),.i 0]) then 3 else 0)
 else bif (gi r 3).int==5 then (bif !mn (gi r 13).str then 5 else bif !ch (gi r 14).int 1 1000000 then 1 else
  bif !aI aF r (uS r++[.i 0,.i 0,.s (⟨#[]⟩:ByteArray),.s (⟨#[]⟩:ByteArray),.i 0,.i 0,.s (⟨#[]⟩:ByteArray),.s (⟨#[]⟩:ByteArray),.s (⟨#[]⟩:ByteArray),.s (gi r 13).str,.i (gi r 14).int]) then 3 else 0)
 else (bif !ch (gi r 8).int 1 99999 then 1 else
  bif !aI aF r (uS r++[.i 0,.i 0,.s (⟨#[]⟩:ByteArray),.s (⟨#[]⟩:ByteArray),.i (gi r 8).int,.i 0,.s (⟨#[]⟩:ByteArray),.s (⟨#[]⟩:ByteArray),.s (⟨#[]⟩:ByteArray),.s (⟨#[]⟩:ByteArray),.i 0]) then 3 else 0)
theorem oX(b:Bool):(bif !b then some [G.i 3] else some [G.i 0])=some [G.i (bif !b then 3 else 0)]:=by cases b<;>rfl
theorem aiR{r:List G}(hr:cu r):BR [.l [r]]=some [.i (kL r)]:=by
 obtain⟨si,no,at_,kd,t,m,b,c,s,h,x,y,bd,a_,ot,rfl,d1,_,_,_,⟨c1,c2,d,k,q,B,I,J⟩,d6,d7,_⟩:=hr;have M:xH [.l [[.i t,.i m,.s b,.s c,.i s,.i h,.s x,.s y]]]=some [.i (dF [.i t,.i m,.s b,.s c,.i s,.i h,.s x,.s y])] :=
  aiE ⟨t,m,b,c,s,h,x,y,rfl,c1,c2,q,B,d,Cw k,I,J⟩
 have N:=TR d1;have O:=TR d7;have U:=Cz (.inl d6);unfold BR xG kL mg qt uS
 (dsimp +instances only[Aa,Ab,Ac,Ad,Ae,Af,Ag])
 simp only[TA,NR rfl,N,O,U,M]
 (dsimp +instances only[Aa,Ab,Ac,Ad,Ae,Af,Ag])
 generalize mn si=b1;generalize ch no 1 1000000=V;generalize ch at_ 0 345686399999=W;generalize ch kd 1 5=b4;generalize dF [.i t,.i m,.s b,.s c,.i s,.i h,.s x,.s y]=v;cases b1<;>cases V<;>cases W<;>cases b4<;>try rfl
 cases kd==1
 ·cases kd == 2
  ·cases kd == 5
   ·cases ch s 1 99999
    ·rfl
    ·exact oX _
   ·cases mn a_<;>cases ch ot 1 1000000<;>first|rfl|exact oX _
  ·cases jK bd<;>first|rfl|exact oX _
 ·cases v != 0<;>cases ao at_ t<;>first|rfl|exact oX _
theorem aiS(no at_ t m s h ot:Int)(si b c x y bd a_:ByteArray):lv [.l [[.s si,.i no,.i at_,.i 1,.i t,.i m,.s b,.s c,.i s,.i h,.s x,.s y,.s bd,.s a_,.i ot]]]=some [.t (aI aF [.s si,.i no,.i at_,.i 1,.i t,.i m,.s b,.s c,.i s,.i h,.s x,.s y,.s bd,.s a_,.i ot] [.s si,.i no,.i at_,.i 1,.i t,.i m,.s b,.s c,.i s,.i h,.s x,.s y,.s (⟨#[]⟩:ByteArray),.s (⟨#[]⟩:ByteArray),.i 0])]:=by
 have e:aI aF [.s si,.i no,.i at_,.i 1,.i t,.i m,.s b,.s c,.i s,.i h,.s x,.s y,.s bd,.s a_,.i ot] [.s si,.i no,.i at_,.i 1,.i t,.i m,.s b,.s c,.i s,.i h,.s x,.s y,.s (⟨#[]⟩:ByteArray),.s (⟨#[]⟩:ByteArray),.i 0]=((si.toList==si.toList)&&((no==no)&&((at_==at_)&&(((1:Int)==1)&&((t==t)&&((m==m)&&((b.toList==b.toList)&&((c.toList==c.toList)&&((s==s)&&((h==h)&&((x.toList==x.toList)&&((y.toList==y.toList)&&((bd.toList==(⟨#[]⟩:ByteArray).toList)&&((a_.toList==(⟨#[]⟩:ByteArray).toList)&&((ot==0)&&true))))))))))))))):=rfl;have d:aI [.int .i64,.int .i64,.str,.str,.int .i64,.int .i64,.str,.str] [.i t,.i m,.s b,.s c,.i s,.i h,.s x,.s y] [.i 0,.i 0,.s (⟨#[]⟩:ByteArray),.s (⟨#[]⟩:ByteArray),.i 0,.i 0,.s (⟨#[]⟩:ByteArray),.s (⟨#[]⟩:ByteArray)]=((t==0)&&((m==0)&&((b.toList==(⟨#[]⟩:ByteArray).toList)&&((c.toList==(⟨#[]⟩:ByteArray).toList)&&((s==0)&&((h==0)&&((x.toList==(⟨#[]⟩:ByteArray).toList)&&((y.toList==(⟨#[]⟩:ByteArray).toList)&&true)))))))):=rfl;rw[e];unfold lv
 (dsimp +instances only[Aa,Ab,Ac,Ad,Ae,Af,Ag])
 try rw[d]
 simp only[beq_self_eq_true,iO,eS,mL];generalize (bd.toList==(⟨#[]⟩:ByteArray).toList)=k;generalize (a_.toList==(⟨#[]⟩:ByteArray).toList)=q;generalize (ot==0)=B;cases k<;>cases q<;>cases B<;>rfl
theorem aiT(no at_ t m s h ot:Int)(si b c x y bd a_:ByteArray):lv [.l [[.s si,.i no,.i at_,.i 2,.i t,.i m,.s b,.s c,.i s,.i h,.s x,.s y,.s bd,.s a_,.i ot]]]=some [.t (aI aF [.s si,.i no,.i at_,.i 2,.i t,.i m,.s b,.s c,.i s,.i h,.s x,.s y,.s bd,.s a_,.i ot] [.s si,.i no,.i at_,.i 2,.i 0,.i 0,.s (⟨#[]⟩:ByteArray),.s (⟨#[]⟩:ByteArray),.i 0,.i 0,.s (⟨#[]⟩:ByteArray),.s (⟨#[]⟩:ByteArray),.s bd,.s (⟨#[]⟩:ByteArray),.i 0])]:=by
 have e:aI aF [.s si,.i no,.i at_,.i 2,.i t,.i m,.s b,.s c,.i s,.i h,.s x,.s y,.s bd,.s a_,.i ot] [.s si,.i no,.i at_,.i 2,.i 0,.i 0,.s (⟨#[]⟩:ByteArray),.s (⟨#[]⟩:ByteArray),.i 0,.i 0,.s (⟨#[]⟩:ByteArray),.s (⟨#[]⟩:ByteArray),.s bd,.s (⟨#[]⟩:ByteArray),.i 0]=((si.toList==si.toList)&&((no==no)&&((at_==at_)&&(((2:Int)==2)&&((t==0)&&((m==0)&&((b.toList==(⟨#[]⟩:ByteArray).toList)&&((c.toList==(⟨#[]⟩:ByteArray).toList)&&((s==0)&&((h==0)&&((x.toList==(⟨#[]⟩:ByteArray).toList)&&((y.toList==(⟨#[]⟩:ByteArray).toList)&&((bd.toList==bd.toList)&&((a_.toList==(⟨#[]⟩:ByteArray).toList)&&((ot==0)&&true))))))))))))))):=rfl;have k:aI [.int .i64,.int .i64,.str,.str,.int .i64,.int .i64,.str,.str] [.i t,.i m,.s b,.s c,.i s,.i h,.s x,.s y] [.i 0,.i 0,.s (⟨#[]⟩:ByteArray),.s (⟨#[]⟩:ByteArray),.i 0,.i 0,.s (⟨#[]⟩:ByteArray),.s (⟨#[]⟩:ByteArray)]=((t==0)&&((m==0)&&((b.toList==(⟨#[]⟩:ByteArray).toList)&&((c.toList==(⟨#[]⟩:ByteArray).toList)&&((s==0)&&((h==0)&&((x.toList==(⟨#[]⟩:ByteArray).toList)&&((y.toList==(⟨#[]⟩:ByteArray).toList)&&true)))))))):=rfl;rw[e];unfold lv
 (dsimp +instances only[Aa,Ab,Ac,Ad,Ae,Af,Ag])
 try rw[k]
 simp only[beq_self_eq_true,iO,eS,mL];generalize (bd.toList==(⟨#[]⟩:ByteArray).toList)=q;generalize (a_.toList==(⟨#[]⟩:ByteArray).toList)=B;generalize (ot==0)=I;generalize ((t==0))=J;generalize ((m==0))=M;generalize ((b.toList==(⟨#[]⟩:ByteArray).toList))=N;generalize ((c.toList==(⟨#[]⟩:ByteArray).toList))=O;generalize ((s==0))=U;generalize ((h==0))=V;generalize ((x.toList==(⟨#[]⟩:ByteArray).toList))=W;generalize ((y.toList==(⟨#[]⟩:ByteArray).toList))=d;cases J
 ·rfl
 cases M
 ·rfl
 cases N
 ·rfl
 cases O
 ·rfl
 cases U
 ·rfl
 cases V
 ·rfl
 cases W
 ·rfl
 cases d
 ·rfl
 cases q<;>cases B<;>cases I<;>rfl
theorem aiU(no at_ t m s h ot:Int)(si b c x y bd a_:ByteArray):lv [.l [[.s si,.i no,.i at_,.i 3,.i t,.i m,.s b,.s c,.i s,.i h,.s x,.s y,.s bd,.s a_,.i ot]]]=some [.t (aI aF [.s si,.i no,.i at_,.i 3,.i t,.i m,.s b,.s c,.i s,.i h,.s x,.s y,.s bd,.s a_,.i ot] [.s si,.i no,.i at_,.i 3,.i 0,.i 0,.s (⟨#[]⟩:ByteArray),.s (⟨#[]⟩:ByteArray),.i s,.i 0,.s (⟨#[]⟩:ByteArray),.s (⟨#[]⟩:ByteArray),.s (⟨#[]⟩:ByteArray),.s (⟨#[]⟩:ByteArray),.i 0])]:=by
 have e:aI aF [.s si,.i no,.i at_,.i 3,.i t,.i m,.s b,.s c,.i s,.i h,.s x,.s y,.s bd,.s a_,.i ot] [.s si,.i no,.i at_,.i 3,.i 0,.i 0,.s (⟨#[]⟩:ByteArray),.s (⟨#[]⟩:ByteArray),.i s,.i 0,.s (⟨#[]⟩:ByteArray),.s (⟨#[]⟩:ByteArray),.s (⟨#[]⟩:ByteArray),.s (⟨#[]⟩:ByteArray),.i 0]=((si.toList==si.toList)&&((no==no)&&((at_==at_)&&(((3:Int)==3)&&((t==0)&&((m==0)&&((b.toList==(⟨#[]⟩:ByteArray).toList)&&((c.toList==(⟨#[]⟩:ByteArray).toList)&&((s==s)&&((h==0)&&((x.toList==(⟨#[]⟩:ByteArray).toList)&&((y.toList==(⟨#[]⟩:ByteArray).toList)&&((bd.toList==(⟨#[]⟩:ByteArray).toList)&&((a_.toList==(⟨#[]⟩:ByteArray).toList)&&((ot==0)&&true))))))))))))))):=rfl;have d:aI [.int .i64,.int .i64,.str,.str,.int .i64,.int .i64,.str,.str] [.i t,.i m,.s b,.s c,.i s,.i h,.s x,.s y] [.i 0,.i 0,.s (⟨#[]⟩:ByteArray),.s (⟨#[]⟩:ByteArray),.i s,.i 0,.s (⟨#[]⟩:ByteArray),.s (⟨#[]⟩:ByteArray)]=((t==0)&&((m==0)&&((b.toList==(⟨#[]⟩:ByteArray).toList)&&((c.toList==(⟨#[]⟩:ByteArray).toList)&&((s==s)&&((h==0)&&((x.toList==(⟨#[]⟩:ByteArray).toList)&&((y.toList==(⟨#[]⟩:ByteArray).toList)&&true)))))))):=rfl;rw[e];unfold lv
 (dsimp +instances only[Aa,Ab,Ac,Ad,Ae,Af,Ag])
 try rw[d]
 simp only[beq_self_eq_true,iO,eS,mL];generalize (bd.toList==(⟨#[]⟩:ByteArray).toList)=k;generalize (a_.toList==(⟨#[]⟩:ByteArray).toList)=q;generalize (ot==0)=B;generalize ((t==0))=I;generalize ((m==0))=J;generalize ((b.toList==(⟨#[]⟩:ByteArray).toList))=M;generalize ((c.toList==(⟨#[]⟩:ByteArray).toList))=N;generalize ((h==0))=O;generalize ((x.toList==(⟨#[]⟩:ByteArray).toList))=U;generalize ((y.toList==(⟨#[]⟩:ByteArray).toList))=V;cases I
 ·rfl
 cases J
 ·rfl
 cases M
 ·rfl
 cases N
 ·rfl
 cases O
 ·rfl
 cases U
 ·rfl
 cases V
 ·rfl
 cases k<;>cases q<;>cases B<;>rfl
theorem aiV(no at_ t m s h ot:Int)(si b c x y bd a_:ByteArray):lv [.l [[.s si,.i no,.i at_,.i 4,.i t,.i m,.s b,.s c,.i s,.i h,.s x,.s y,.s bd,.s a_,.i ot]]]=some [.t (aI aF [.s si,.i no,.i at_,.i 4,.i t,.i m,.s b,.s c,.i s,.i h,.s x,.s y,.s bd,.s a_,.i ot] [.s si,.i no,.i at_,.i 4,.i 0,.i 0,.s (⟨#[]⟩:ByteArray),.s (⟨#[]⟩:ByteArray),.i s,.i 0,.s (⟨#[]⟩:ByteArray),.s (⟨#[]⟩:ByteArray),.s (⟨#[]⟩:ByteArray),.s (⟨#[]⟩:ByteArray),.i 0])]:=by
 have e:aI aF [.s si,.i no,.i at_,.i 4,.i t,.i m,.s b,.s c,.i s,.i h,.s x,.s y,.s bd,.s a_,.i ot] [.s si,.i no,.i at_,.i 4,.i 0,.i 0,.s (⟨#[]⟩:ByteArray),.s (⟨#[]⟩:ByteArray),.i s,.i 0,.s (⟨#[]⟩:ByteArray),.s (⟨#[]⟩:ByteArray),.s (⟨#[]⟩:ByteArray),.s (⟨#[]⟩:ByteArray),.i 0]=((si.toList==si.toList)&&((no==no)&&((at_==at_)&&(((4:Int)==4)&&((t==0)&&((m==0)&&((b.toList==(⟨#[]⟩:ByteArray).toList)&&((c.toList==(⟨#[]⟩:ByteArray).toList)&&((s==s)&&((h==0)&&((x.toList==(⟨#[]⟩:ByteArray).toList)&&((y.toList==(⟨#[]⟩:ByteArray).toList)&&((bd.toList==(⟨#[]⟩:ByteArray).toList)&&((a_.toList==(⟨#[]⟩:ByteArray).toList)&&((ot==0)&&true))))))))))))))):=rfl;have d:aI [.int .i64,.int .i64,.str,.str,.int .i64,.int .i64,.str,.str] [.i t,.i m,.s b,.s c,.i s,.i h,.s x,.s y] [.i 0,.i 0,.s (⟨#[]⟩:ByteArray),.s (⟨#[]⟩:ByteArray),.i s,.i 0,.s (⟨#[]⟩:ByteArray),.s (⟨#[]⟩:ByteArray)]=((t==0)&&((m==0)&&((b.toList==(⟨#[]⟩:ByteArray).toList)&&((c.toList==(⟨#[]⟩:ByteArray).toList)&&((s==s)&&((h==0)&&((x.toList==(⟨#[]⟩:ByteArray).toList)&&((y.toList==(⟨#[]⟩:ByteArray).toList)&&true)))))))):=rfl;rw[e];unfold lv
 (dsimp +instances only[Aa,Ab,Ac,Ad,Ae,Af,Ag])
 try rw[d]
 simp only[beq_self_eq_true,iO,eS,mL];generalize (bd.toList==(⟨#[]⟩:ByteArray).toList)=k;generalize (a_.toList==(⟨#[]⟩:ByteArray).toList)=q;generalize (ot==0)=B;generalize ((t==0))=I;generalize ((m==0))=J;generalize ((b.toList==(⟨#[]⟩:ByteArray).toList))=M;generalize ((c.toList==(⟨#[]⟩:ByteArray).toList))=N;generalize ((h==0))=O;generalize ((x.toList==(⟨#[]⟩:ByteArray).toList))=U;generalize ((y.toList==(⟨#[]⟩:ByteArray).toList))=V;cases I
 ·rfl
 cases J
 ·rfl
 cases M
 ·rfl
 cases N
 ·rfl
 cases O
 ·rfl
 cases U
 ·rfl
 cases V
 ·rfl
 cases k<;>cases q<;>cases B<;>rfl
theorem aiW(no at_ t m s h ot:Int)(si b c x y bd a_:ByteArray):lv [.l [[.s si,.i no,.i at_,.i 5,.i t,.i m,.s b,.s c,.i s,.i h,.s x,.s y,.s bd,.s a_,.i ot]]]=some [.t (aI aF [.s si,.i no,.i at_,.i 5,.i t,.i m,.s b,.s c,.i s,.i h,.s x,.s y,.s bd,.s a_,.i ot] [.s si,.i no,.i at_,.i 5,.i 0,.i 0,.s (⟨#[]⟩:ByteArray),.s (⟨#[]⟩:ByteArray),.i 0,.i 0,.s (⟨#[]⟩:ByteArray),.s (⟨#[]⟩:ByteArray),.s (⟨#[]⟩:ByteArray),.s a_,.i ot])]:=by
 have e:aI aF [.s si,.i no,.i at_,.i 5,.i t,.i m,.s b,.s c,.i s,.i h,.s x,.s y,.s bd,.s a_,.i ot] [.s si,.i no,.i at_,.i 5,.i 0,.i 0,.s (⟨#[]⟩:ByteArray),.s (⟨#[]⟩:ByteArray),.i 0,.i 0,.s (⟨#[]⟩:ByteArray),.s (⟨#[]⟩:ByteArray),.s (⟨#[]⟩:ByteArray),.s a_,.i ot]=((si.toList==si.toList)&&((no==no)&&((at_==at_)&&(((5:Int)==5)&&((t==0)&&((m==0)&&((b.toList==(⟨#[]⟩:ByteArray).toList)&&((c.toList==(⟨#[]⟩:ByteArray).toList)&&((s==0)&&((h==0)&&((x.toList==(⟨#[]⟩:ByteArray).toList)&&((y.toList==(⟨#[]⟩:ByteArray).toList)&&((bd.toList==(⟨#[]⟩:ByteArray).toList)&&((a_.toList==a_.toList)&&((ot==ot)&&true))))))))))))))):=rfl;have k:aI [.int .i64,.int .i64,.str,.str,.int .i64,.int .i64,.str,.str] [.i t,.i m,.s b,.s c,.i s,.i h,.s x,.s y] [.i 0,.i 0,.s (⟨#[]⟩:ByteArray),.s (⟨#[]⟩:ByteArray),.i 0,.i 0,.s (⟨#[]⟩:ByteArray),.s (⟨#[]⟩:ByteArray)]=((t==0)&&((m==0)&&((b.toList==(⟨#[]⟩:ByteArray).toList)&&((c.toList==(⟨#[]⟩:ByteArray).toList)&&((s==0)&&((h==0)&&((x.toList==(⟨#[]⟩:ByteArray).toList)&&((y.toList==(⟨#[]⟩:ByteArray).toList)&&true)))))))):=rfl;rw[e];unfold lv
 (dsimp +instances only[Aa,Ab,Ac,Ad,Ae,Af,Ag])
 try rw[k]
 simp only[beq_self_eq_true,iO,eS,mL];generalize (bd.toList==(⟨#[]⟩:ByteArray).toList)=q;generalize (a_.toList==(⟨#[]⟩:ByteArray).toList)=B;generalize (ot==0)=I;generalize ((t==0))=J;generalize ((m==0))=M;generalize ((b.toList==(⟨#[]⟩:ByteArray).toList))=N;generalize ((c.toList==(⟨#[]⟩:ByteArray).toList))=O;generalize ((s==0))=U;generalize ((h==0))=V;generalize ((x.toList==(⟨#[]⟩:ByteArray).toList))=W;generalize ((y.toList==(⟨#[]⟩:ByteArray).toList))=d;cases J
 ·rfl
 cases M
 ·rfl
 cases N
 ·rfl
 cases O
 ·rfl
 cases U
 ·rfl
 cases V
 ·rfl
 cases W
 ·rfl
 cases d
 ·rfl
 cases q<;>cases B<;>cases I<;>rfl
section
variable (si b c x y bd a_:ByteArray) (no at_ t m s h ot:Int)
theorem aiX(v:Int)(k:r7 [.l [[.i t,.i m,.s b,.s c,.i s,.i h,.s x,.s y]]]=some [.i v]) :
  nD [.l [[.s si,.i no,.i at_,.i 1,.i t,.i m,.s b,.s c,.i s,.i h,.s x,.s y,.s bd,.s a_,.i ot]]]=some [.i (bif v != 0 then v else bif ao at_ t then 1 else 0)]:=by
 have e:B0 [.l [[.s si,.i no,.i at_,.i 1,.i t,.i m,.s b,.s c,.i s,.i h,.s x,.s y,.s bd,.s a_,.i ot]]]=some [.i (bif v != 0 then v else bif ao at_ t then 1 else 0)]:=by
  refine aa.toEq ?_;unfold B0
  (dsimp +instances only[Aa,Ab,Ac,Ad,Ae,Af,Ag])
  refine aa.cE k ?_
  (dsimp +instances only[Aa,Ab,Ac,Ad,Ae,Af,Ag])
  refine aa.test (fun h1=>aa.some ?_) fun h1=>aa.test (fun d=>aa.some ?_) fun d=>aa.some ?_
  ·simp only[h1,cond_true]
  ·simp only[h1,d,cond_true,cond_false]
  ·simp only[h1,d,cond_false]
 refine aa.toEq ?_;unfold nD
 (dsimp +instances only[Aa,Ab,Ac,Ad,Ae,Af,Ag])
 try refine aa.pos rfl ?_
 refine aa.cE e ?_;exact aa.some rfl
theorem aiY(hb:bd∈jJ) :
  nD [.l [[.s si,.i no,.i at_,.i 2,.i t,.i m,.s b,.s c,.i s,.i h,.s x,.s y,.s bd,.s a_,.i ot]]]=some [.i (bif !jK bd then 5 else 0)]:=by
 refine aa.toEq ?_;unfold nD
 (dsimp +instances only[Aa,Ab,Ac,Ad,Ae,Af,Ag])
 try refine aa.neg rfl ?_
 try refine aa.pos rfl ?_
 refine aa.cE (TB (.inl hb)) ?_;cases jK bd<;>exact aa.some rfl
theorem aiZ(hb:a_∈kK) :
  nD [.l [[.s si,.i no,.i at_,.i 5,.i t,.i m,.s b,.s c,.i s,.i h,.s x,.s y,.s bd,.s a_,.i ot]]]=some [.i (bif !mn a_ then 5 else bif !ch ot 1 1000000 then 1 else 0)]:=by
 refine aa.toEq ?_;unfold nD
 (dsimp +instances only[Aa,Ab,Ac,Ad,Ae,Af,Ag])
 try refine aa.neg rfl ?_
 try refine aa.neg rfl ?_
 try refine aa.pos rfl ?_
 refine aa.cE (TQ hb) ?_;cases mn a_
 ·exact aa.some rfl
 refine aa.neg rfl ?_;refine aa.cE (nF ot 1 1000000) ?_;cases ch ot 1 1000000<;>exact aa.some rfl
theorem ai0(kd:Int)(hk:kd=3∨kd=4) :
  nD [.l [[.s si,.i no,.i at_,.i kd,.i t,.i m,.s b,.s c,.i s,.i h,.s x,.s y,.s bd,.s a_,.i ot]]]=some [.i (bif !ch s 1 99999 then 1 else 0)]:=by
 refine aa.toEq ?_;unfold nD
 (dsimp +instances only[Aa,Ab,Ac,Ad,Ae,Af,Ag])
 refine aa.neg (by rcases hk with rfl|rfl<;>rfl) (aa.neg (by rcases hk with rfl|rfl<;>rfl) (aa.neg (by rcases hk with rfl|rfl<;>rfl) ?_));refine aa.cE (nF s 1 99999) ?_;cases ch s 1 99999<;>exact aa.some rfl
end
theorem TS(v:Int):rZ [.i v]=some [.t (ch v 0 345686399999)]:=by
 refine aa.toEq ?_;unfold rZ
 (dsimp +instances only[Aa,Ab,Ac,Ad,Ae,Af,Ag])
 refine aa.cE (nF v 0 345686399999) ?_;cases ch v 0 345686399999<;>exact aa.some rfl
theorem ai1{r:List G}(hr:cu r):B1 [.l [r]]=some [.i (kL r)]:=by
 obtain⟨si,no,at_,kd,t,m,b,c,s,h,x,y,bd,a_,ot,rfl,d1,_,_,_,⟨c1,c2,k,q,B,I,J,M⟩,d6,d7,_⟩:=hr;have N:r7 [.l [[.i t,.i m,.s b,.s c,.i s,.i h,.s x,.s y]]]=some [.i (dF [.i t,.i m,.s b,.s c,.i s,.i h,.s x,.s y])] :=
  TE ⟨t,m,b,c,s,h,x,y,rfl,c1,c2,B,I,k,Cw q,J,M⟩
 have hk:ch kd 1 5=true→kd=1∨kd=2∨kd=5∨kd=3∨kd=4:=by
  unfold ch;rw[eV,eV,az,decide_eq_true_eq,decide_eq_true_eq];omega
 refine aa.toEq ?_;unfold B1 kL mg qt uS
 (dsimp +instances only[Aa,Ab,Ac,Ad,Ae,Af,Ag])
 refine aa.cE (TQ d1) ?_;cases mn si
 ·exact aa.some rfl
 refine aa.neg rfl ?_;refine aa.cE (nF no 1 1000000) ?_;cases ch no 1 1000000
 ·exact aa.some rfl
 refine aa.neg rfl ?_;refine aa.cE (TS at_) ?_;cases ch at_ 0 345686399999
 ·exact aa.some rfl
 refine aa.neg rfl ?_;refine aa.cE (nF kd 1 5) ?_;cases d:ch kd 1 5
 ·exact aa.some rfl
 refine aa.neg rfl ?_;rcases hk d with rfl|rfl|rfl|hk
 ·refine aa.call (aa.eq (aiX si b c x y bd a_ no at_ t m s h ot _ N)) ?_
  rintro _ rfl
  (dsimp +instances only[Aa,Ab,Ac,Ad,Ae,Af,Ag])
  generalize dF [.i t,.i m,.s b,.s c,.i s,.i h,.s x,.s y]=v;cases O:v != 0
  ·cases ao at_ t
   ·refine aa.neg rfl ?_
    refine aa.cE (aiS no at_ t m s h ot si b c x y bd a_) ?_;exact⟨_,oX _,rfl⟩
   ·exact aa.pos rfl (aa.some rfl)
  ·exact aa.pos O (aa.some rfl)
 ·refine aa.call (aa.eq (aiY si b c x y bd a_ no at_ t m s h ot d6)) ?_
  rintro _ rfl;cases jK bd
  ·exact aa.pos rfl (aa.some rfl)
  refine aa.neg rfl ?_;refine aa.cE (aiT no at_ t m s h ot si b c x y bd a_) ?_;exact⟨_,oX _,rfl⟩
 ·refine aa.call (aa.eq (aiZ si b c x y bd a_ no at_ t m s h ot d7)) ?_
  rintro _ rfl;cases mn a_
  ·exact aa.pos rfl (aa.some rfl)
  cases ch ot 1 1000000
  ·exact aa.pos rfl (aa.some rfl)
  refine aa.neg rfl ?_;refine aa.cE (aiW no at_ t m s h ot si b c x y bd a_) ?_;exact⟨_,oX _,rfl⟩
 ·refine aa.call (aa.eq (ai0 si b c x y bd a_ no at_ t m s h ot kd hk)) ?_
  rintro _ rfl;cases ch s 1 99999
  ·refine aa.pos rfl (aa.some ?_)
   rcases hk with rfl|rfl<;>rfl
  refine aa.neg rfl ?_;rcases hk with rfl|rfl
  ·refine aa.call (aa.eq (aiU no at_ t m s h ot si b c x y bd a_)) ?_
   rintro _ rfl;exact⟨_,oX _,rfl⟩
  ·refine aa.call (aa.eq (aiV no at_ t m s h ot si b c x y bd a_)) ?_
   rintro _ rfl;exact⟨_,oX _,rfl⟩
def qu(rows:List (List G))(i:Nat):Prop:=(∀ j,j<i→kL (rows.getD j [])=0)∧∀ j,j+1<i→gP (rows.getD j []) (rows.getD (j+1) [])<0
def ly(rows:List (List G))(i:Nat)(v:Int):Prop:=qu rows i∧i<rows.length ∧
 ((kL (rows.getD i [])≠0∧v=kL (rows.getD i []))∨(kL (rows.getD i [])=0∧0<i∧¬ gP (rows.getD (i-1) []) (rows.getD i [])<0∧v=7))
theorem ly.ne{rows:List (List G)}{i:Nat}{v:Int}(h:ly rows i v):v≠0:=by
 rcases h.2.2 with⟨h1,rfl⟩|⟨_,_,_,rfl⟩
 ·exact h1
 ·decide
theorem ly.CB{rows:List (List G)}{i j:Nat}{v:Int}(h:ly rows i v)(d:i<j):¬ qu rows j:=by
 rintro⟨h1,k⟩;rcases h.2.2 with⟨q,_⟩|⟨_,I,B,_⟩
 ·exact q (h1 i d)
 ·have := k (i - 1) (by omega)
  rw[show i-1+1=i by omega]at this;exact B this
theorem ly.unique{rows:List (List G)}{i j:Nat}{v w:Int}(h:ly rows i v)(h':ly rows j w):v=w:=by
 have e:i=j:=by
  rcases Nat.lt_trichotomy i j with e|e|e
  ·exact(h.CB e h'.1).elim
  ·exact e
  ·exact(h'.CB e h.1).elim
 subst e;rcases h.2.2 with⟨h1,rfl⟩|⟨h1,_,_,rfl⟩<;>rcases h'.2.2 with⟨d,rfl⟩|⟨d,_,_,rfl⟩
 ·rfl
 ·exact(h1 d).elim
 ·exact(d h1).elim
 ·rfl
theorem ai2(rows:List (List G))(hr:∀ z∈rows,cu z)(hn:rows.length≤20) :
  gN xI [.l rows,.l rows,.i (rows.length:Int),.i 0] fun c g=>(qu rows rows.length∧c=1∧g=[.l rows])∨(c=0∧∃ v,(∃ i,ly rows i v)∧g=[.i v]):=by
 refine(uh (σ:=Unit) (fun _ i=>[.l rows,.l rows,.i (rows.length:Int),.i (i:Int)]) rows (fun _=>(1,[.l rows])) (fun _ i=>qu rows i) (fun c g=>c=0∧∃ v,(∃ i,ly rows i v)∧g=[.i v]) () (by omega) ⟨fun j h=>by omega,fun j h=>by omega⟩ ?_ ?_).mono ?_
 ·intro _ i x q hi d hm _
  unfold xI
  (dsimp +instances only[Aa,Ab,Ac,Ad,Ae,Af,Ag])
  have ex:=(hr x hm).eta;refine aa.p (aa.p ?_);simp only[ba,d,ex];refine aa.cE (aiR (hr x hm)) ?_
  (dsimp +instances only[Aa,Ab,Ac,Ad,Ae,Af,Ag])
  refine aa.test (fun h1=>aa.some (.inr ⟨0,_,rfl,rfl,_,⟨i,q,hi,.inl ⟨by rw[d]; simpa using h1,by rw[d]⟩⟩,rfl⟩)) fun h1=>?_;have h1:kL x=0:=by simpa using h1
  refine aa.test (fun k=>?_) fun k=>?_
  ·have k:0<i:=by
    rw[dD,decide_eq_true_eq]at k;omega
   have M:((i:Int)-1).toNat=i-1:=by omega
   have J:rows.getD (i-1) []∈rows:=rS (by omega);refine aa.p (aa.p ?_);simp only[M,(hr _ J).eta];refine aa.cE (TP (hr _ J) (hr x hm)) ?_
   (dsimp +instances only[Aa,Ab,Ac,Ad,Ae,Af,Ag])
   refine aa.test (fun B=>aa.some (.inr ⟨0,_,rfl,rfl,7,⟨i,q,hi,.inr ⟨by rw[d]; exact h1,k,by rw[eV,decide_eq_true_eq]at B; rw[d]; omega,rfl⟩⟩,rfl⟩)) fun B=>?_;refine aa.p (aa.some (.inl ⟨(),rfl,fun j I=>?_,fun j I=>?_⟩))
   ·by_cases e : j = i
    ·rw[e,d,h1]
    ·exact q.1 j (by omega)
   ·by_cases e : j + 1 = i
    ·rw [eV, decide_eq_false_iff_not] at B
     rw[e,d,show j=i-1 from by omega];omega
    ·exact q.2 j (by omega)
  ·have k:i=0:=by
    rw[dD,decide_eq_false_iff_not]at k;omega
   refine aa.p (aa.some (.inl ⟨(),rfl,fun j I=>?_,fun j I=>by omega⟩));rw[show j=i from by omega,d,h1]
 ·intro _ _
  unfold xI
  (dsimp +instances only[Aa,Ab,Ac,Ad,Ae,Af,Ag])
  refine aa.n (aa.some rfl)
 ·rintro c g (⟨_, h, rfl, rfl⟩ | h)
  ·exact .inl ⟨h,rfl,rfl⟩
  ·exact .inr h
def dO(r s:List G):Bool:=((gi r 0).str.toList==(gi s 0).str.toList)&&((gi r 1).int==(gi s 1).int)
theorem ai3{r s:List G}(hr:cu r)(d:cu s):BT [.l [r],.l [s]]=some [.t (dO r s)]:=by
 have e:BS [.l [r],.l [s]]=some [.t (dO r s)]:=by
  refine aa.toEq ?_;unfold BS dO
  (dsimp +instances only[Aa,Ab,Ac,Ad,Ae,Af,Ag])
  cases (gi r 0).str.toList==(gi s 0).str.toList<;>exact aa.some rfl
 refine aa.toEq ?_;unfold BT
 (dsimp +instances only[Aa,Ab,Ac,Ad,Ae,Af,Ag])
 simp only[hr.eta,d.eta];refine aa.cE e ?_;exact aa.some rfl
theorem ai4(p:List (List G))(x:List G)(q:∀ z∈p,cu z)(d:cu x)(hn:p.length≤20) :
  aa (BW [.l p,.l [x]]) fun g=>∃ b,g=[.t b]∧(b=false→∀ j,j<p.length→dO (p.getD j []) x=false)∧(b=true→∃ j,j<p.length∧dO (p.getD j []) x=true):=by
 have key:aa (BV [.l p,.l [x]]) fun g=>∃ v:Int,g=[.i v]∧(v<0→∀ j,j<p.length→dO (p.getD j []) x=false)∧(0≤v→∃ j,j<p.length∧dO (p.getD j []) x=true):=by
  unfold BV
  (dsimp +instances only[Aa,Ab,Ac,Ad,Ae,Af,Ag])
  simp only[d.eta];refine aa.loop (P:=fun c g=>(c=1∧g=[]∧∀ j,j<p.length→dO (p.getD j []) x=false)∨(c=0∧∃ v:Int,0≤v∧g=[.i v]∧∃ j,j<p.length∧dO (p.getD j []) x=true)) ((uh (σ:=Unit) (fun _ i=>[.l p,.l [x],.i (p.length:Int),.i (i:Int)]) p (fun _=>(1,[])) (fun _ i=>∀ j,j<i→dO (p.getD j []) x=false) (fun c g=>c=0∧∃ v:Int,0≤v∧g=[.i v]∧∃ j,j<p.length∧dO (p.getD j []) x=true) () (by omega) (fun j h=>by omega) ?_ ?_).mono ?_) rfl ?_
  ·intro _ i z B hi k hm _
   unfold BU
   (dsimp +instances only[Aa,Ab,Ac,Ad,Ae,Af,Ag])
   refine aa.p (aa.p ?_);simp only[ba,k,(q z hm).eta,d.eta];refine aa.cE (ai3 (q z hm) d) ?_
   (dsimp +instances only[Aa,Ab,Ac,Ad,Ae,Af,Ag])
   refine aa.test (fun h1=>aa.some (.inr ⟨0,_,rfl,rfl,_,by omega,rfl,i,hi,by rw[k]; exact h1⟩)) fun h1=>?_;refine aa.p (aa.some (.inl ⟨(),rfl,fun j I=>?_⟩));by_cases e:j=i
   ·rw[e,k,h1]
   ·exact B j (by omega)
  ·intro _ _
   unfold BU
   (dsimp +instances only[Aa,Ab,Ac,Ad,Ae,Af,Ag])
   exact aa.n (aa.some rfl)
  ·rintro c g (⟨_, h, rfl, rfl⟩ | h)
   ·exact .inl ⟨rfl,rfl,h⟩
   ·exact .inr h
  ·rintro c g (⟨rfl, rfl, h⟩ | ⟨rfl, v, J, rfl, h⟩)
   ·exact aa.neg rfl (aa.some ⟨-1,rfl,fun _=>h,fun h=>by omega⟩)
   ·exact aa.pos rfl (aa.some ⟨v,rfl,fun h=>by omega,fun _=>h⟩)
 unfold BW
 (dsimp +instances only[Aa,Ab,Ac,Ad,Ae,Af,Ag])
 simp only[d.eta];refine aa.call key ?_;rintro _ ⟨v,rfl,h,h'⟩;refine aa.some ⟨bx 0 v,rfl,fun e=>h ?_,fun e=>h' ?_⟩
 ·rw [eV, decide_eq_false_iff_not] at e
  omega
 ·rw [eV, decide_eq_true_eq] at e
  exact e
def kM(rows:List (List G))(n:Nat):Prop:=∀ i,i<n→∀ j,j<i→dO (rows.getD j []) (rows.getD i [])=false
theorem ai5(rows:List (List G))(hr:∀ z∈rows,cu z)(hn:rows.length≤20) :
  gN xJ [.l rows,.l rows,.i (rows.length:Int),.i 0] fun c g=>(kM rows rows.length∧c=1∧g=[])∨(c=0∧¬ kM rows rows.length∧g=[.i 6]):=by
 refine(uh (σ:=Unit) (fun _ i=>[.l rows,.l rows,.i (rows.length:Int),.i (i:Int)]) rows (fun _=>(1,[])) (fun _ i=>kM rows i) (fun c g=>c=0∧¬ kM rows rows.length∧g=[.i 6]) () (by omega) (fun j h=>by omega) ?_ ?_).mono ?_
 ·intro _ i x J hi d hm _
  unfold xJ
  (dsimp +instances only[Aa,Ab,Ac,Ad,Ae,Af,Ag])
  refine aa.p (aa.p (aa.p ?_));simp only[ba,d,(hr x hm).eta];have O:(rows.take i).length=i:=by rw[jq]; omega
  refine aa.call (ai4 (rows.take i) x (fun z M=>hr z (List.mem_of_mem_take M)) (hr x hm) (by omega)) ?_;rintro _ ⟨b,rfl,hb,I⟩
  (dsimp +instances only[Aa,Ab,Ac,Ad,Ae,Af,Ag])
  refine aa.test (fun h1=>aa.some (.inr ⟨0,_,rfl,rfl,fun N=>?_,rfl⟩)) fun h1=>?_
  ·obtain ⟨j, q, B⟩ := I h1
   have:=N i hi j (by omega);rw[bz,KA (by omega),←bz]at B;rw[d,B]at this;cases this
  refine aa.p (aa.some (.inl ⟨(),rfl,fun k hk j q=>?_⟩));by_cases e:k=i
  ·have := hb h1 j (by omega)
   rw[bz,KA (by omega),←bz]at this;rw[e,d,this]
  ·exact J k (by omega) j q
 ·intro _ _
  unfold xJ
  (dsimp +instances only[Aa,Ab,Ac,Ad,Ae,Af,Ag])
  exact aa.n (aa.some rfl)
 ·rintro c g (⟨_, h, rfl, rfl⟩ | h)
  ·exact .inl ⟨h,rfl,rfl⟩
  ·exact .inr h
def j_(rows:List (List G)):Prop:=qu rows rows.length∧kM rows rows.length
def ka(rows:List (List G))(v:Int):Prop:=(∃ i,ly rows i v)∨(qu rows rows.length∧((kM rows rows.length∧v=0)∨(¬ kM rows rows.length∧v=6)))
def mo(rows:List (List G)):Int:=Classical.epsilon (ka rows)
theorem ka.unique{rows:List (List G)}{v w:Int}(h:ka rows v)(h':ka rows w):v=w:=by
 rcases h with⟨i,h⟩|⟨h1,h⟩<;>rcases h' with⟨j,h'⟩|⟨q,h'⟩
 ·exact h.unique h'
 ·exact(h.CB h.2.1 q).elim
 ·exact(h'.CB h'.2.1 h1).elim
 ·rcases h with ⟨d, rfl⟩ | ⟨d, rfl⟩ <;> rcases h' with ⟨k, rfl⟩ | ⟨k, rfl⟩
  ·rfl
  ·exact(k d).elim
  ·exact(d k).elim
  ·rfl
theorem ka.eq{rows:List (List G)}{v:Int}(h:ka rows v):v=mo rows:=h.unique (Classical.epsilon_spec (p:=ka rows) ⟨v,h⟩)
theorem ka.zero{rows:List (List G)}(h:ka rows 0):j_ rows:=by
 rcases h with⟨i,h⟩|⟨h1,⟨h,_⟩|⟨_,h⟩⟩
 ·exact(h.ne rfl).elim
 ·exact⟨h1,h⟩
 ·cases h
theorem j_.chk{rows:List (List G)}(h:j_ rows):ka rows 0:=.inr ⟨h.1,.inl ⟨h.2,rfl⟩⟩
theorem j_.mo{rows:List (List G)}(h:j_ rows):mo rows=0:=h.chk.eq.symm
theorem ai7(rows:List (List G))(hr:∀ z∈rows,cu z)(hn:rows.length≤20):uz [.l rows]=some [.i (mo rows)]∧ka rows (mo rows):=by
 have key:aa (uz [.l rows]) fun g=>∃ v:Int,g=[.i v]∧ka rows v:=by
  unfold uz
  (dsimp +instances only[Aa,Ab,Ac,Ad,Ae,Af,Ag])
  refine aa.n ?_;refine aa.loop (ai2 rows hr hn) rfl ?_;rintro c g (⟨h1,rfl,rfl⟩|⟨rfl,v,d,rfl⟩)
  ·refine aa.neg rfl ?_
   refine aa.loop (ai5 rows hr hn) rfl ?_;rintro c g (⟨k,rfl,rfl⟩|⟨rfl,d,rfl⟩)
   ·exact aa.neg rfl (aa.some ⟨0,rfl,.inr ⟨h1,.inl ⟨k,rfl⟩⟩⟩)
   ·exact aa.pos rfl (aa.some ⟨6,rfl,.inr ⟨h1,.inr ⟨d,rfl⟩⟩⟩)
  ·exact aa.pos rfl (aa.some ⟨v,rfl,.inl d⟩)
 obtain⟨_,h,v,rfl,d⟩:=key;have e:=d.eq;subst e;exact⟨h,d⟩
theorem ai8(rows:List (List G))(hr:∀ z∈rows,cu z)(hn:rows.length≤20) :
  aa (uz [.l rows]) fun g=>∃ v:Int,g=[.i v]∧(v=0→j_ rows):=by
 obtain⟨h1,d⟩:=ai7 rows hr hn;exact⟨_,h1,_,rfl,fun e=>by rw[e]at d; exact d.zero⟩
theorem j_.nil:j_ []:=⟨⟨fun j h=>by simp at h,fun j h=>by simp at h⟩,fun i h=>by simp at h⟩
theorem ai9(l:List (List G))(a0 n:Int)(N:0≤a0)(O:a0≤500000)(h0:0≤n)(h1:n≤20) :
  aa (BZ [.l l,.i a0,.i n]) fun g=>∃ b rows,g=[.l l,.i b,.l rows]∧0≤b∧b≤a0+10000∧(∀ z∈rows,cu z)∧rows.length≤20∧j_ rows:=by
 unfold BZ
 (dsimp +instances only[Aa,Ab,Ac,Ad,Ae,Af,Ag])
 refine aa.loop (P:=fun c g=>(c=1∧∃ b:Int,g=[.l l,.i b]∧0≤b∧b≤a0+10000)∨(c=0∧∃(b:Int) (rows:List (List G)),g=[.l l,.i b,.l rows]∧0≤b∧b≤a0+10000∧(∀ z∈rows,cu z)∧rows.length≤20∧j_ rows))
  (((F8 (σ:=Int) (fun a i=>[.l l,.i a,.i n,.i (i:Int)]) 5 (fun a=>(1,[.l l,.i a])) (fun a i=>0≤a∧a≤a0+2000*(i:Int)) (fun c g=>c=0∧∃(b:Int) (rows:List (List G)),g=[.l l,.i b,.l rows]∧0≤b∧b≤a0+10000∧(∀ z∈rows,cu z)∧rows.length≤20∧j_ rows) ?_ ?_ 5 a0 0 (by omega) (by omega)).to (by omega)).mono ?_) rfl ?_
 ·rintro a i ⟨ha, I⟩ hi
  unfold BY
  (dsimp +instances only[Aa,Ab,Ac,Ad,Ae,Af,Ag])
  refine aa.p ?_;refine aa.call (aiQ l a n ha (by omega) h0 h1) ?_;rintro _ ⟨b,rows,rfl,d,k,q,B⟩
  (dsimp +instances only[Aa,Ab,Ac,Ad,Ae,Af,Ag])
  refine aa.call (ai8 rows q (by omega)) ?_;rintro _ ⟨v,rfl,J⟩
  (dsimp +instances only[Aa,Ab,Ac,Ad,Ae,Af,Ag])
  refine aa.test (fun e=>aa.some (.inr ⟨0,_,rfl,rfl,b,rows,rfl,by omega,by omega,q,by omega,J (by simpa using e)⟩)) fun _=>?_;exact aa.p (aa.some (.inl ⟨b,rfl,by omega,by omega⟩))
 ·intro a _
  unfold BY
  (dsimp +instances only[Aa,Ab,Ac,Ad,Ae,Af,Ag])
  exact aa.n (aa.some rfl)
 ·rintro c g (⟨a, ⟨ha, I⟩, rfl, rfl⟩ | h)
  ·exact .inl ⟨rfl,a,rfl,ha,by omega⟩
  ·exact .inr h
 ·rintro c g (⟨rfl, b, rfl, d, k⟩ | ⟨rfl, b, rows, rfl, d, k, q, B, M⟩)
  ·exact aa.neg rfl (aa.some ⟨b,[],rfl,d,k,by simp,by simp,j_.nil⟩)
  ·exact aa.pos rfl (aa.some ⟨b,rows,rfl,d,k,q,B,M⟩)
theorem ai_(a b c:Int):nB [.l [[.i a],[.i b],[.i c]]]=some [.i (if a≠0 then a else if b≠0 then b else c)]:=by
 refine aa.toEq ?_;unfold nB
 (dsimp +instances only[Aa,Ab,Ac,Ad,Ae,Af,Ag])
 have h:=Jd [[.i a],[.i b],[.i c]] [] (by simp);refine aa.loop (h.to (by simp)) (by(first|rfl|assumption|(simp only[aw,sl]<;>omega))) ?_;rintro x g ⟨q,rfl⟩;have e:nE [[.i a],[.i b],[.i c]]=if a≠0 then a else if b≠0 then b else c:=by
  simp only[nE]
  (dsimp +instances only[Aa,Ab,Ac,Ad,Ae,Af,Ag])
  by_cases h1:a=0<;>by_cases d:b=0<;>by_cases k:c=0<;>simp[h1,d,k]
 rw[e]
 (dsimp +instances only[Aa,Ab,Ac,Ad,Ae,Af,Ag])
 exact aa.test (fun _=>aa.some rfl) fun _=>aa.some rfl
theorem TT{a b:Int}:(ew a b≠0)↔a≠b:=by
 unfold ew;split
 ·constructor<;>intro _<;>omega
 ·split<;>constructor<;>intro _<;>omega
theorem ai'{r s:List G}(hr:cu r)(q:cu s):B2 [.l [r],.l [s]]=some [.i (gP r s)]:=by
 obtain⟨si,no,at_,_,_,_,_,_,_,_,_,_,_,_,_,rfl,_⟩:=hr;obtain⟨d,k,at',_,_,_,_,_,_,_,_,_,_,_,_,rfl,_⟩:=q;refine aa.toEq ?_;unfold B2 gP mg
 (dsimp +instances only[Aa,Ab,Ac,Ad,Ae,Af,Ag])
 refine aa.cE (Cy at_ at') ?_;refine aa.cE (rfl:j8 [.s si,.s d]=some [.i (cJ si d)]) ?_;refine aa.cE (Cy no k) ?_
 (dsimp +instances only[Aa,Ab,Ac,Ad,Ae,Af,Ag])
 refine aa.cE (ai_ _ _ _) ?_
 (dsimp +instances only[Aa,Ab,Ac,Ad,Ae,Af,Ag])
 by_cases h:at_=at'
 ·subst h
  exact aa.some (by simp[ew])
 ·have := (TT (a := at_) (b := at')).2 h
  exact aa.some (by simp[this,h])
theorem aja(rows:List (List G))(hr:∀ z∈rows,cu z)(hn:rows.length≤20) :
  gN xK [.l rows,.l rows,.i (rows.length:Int),.i 0] fun c g=>(qu rows rows.length∧c=1∧g=[.l rows])∨(c=0∧∃ v,(∃ i,ly rows i v)∧g=[.i v]):=by
 refine(uh (σ:=Unit) (fun _ i=>[.l rows,.l rows,.i (rows.length:Int),.i (i:Int)]) rows (fun _=>(1,[.l rows])) (fun _ i=>qu rows i) (fun c g=>c=0∧∃ v,(∃ i,ly rows i v)∧g=[.i v]) () (by omega) ⟨fun j h=>by omega,fun j h=>by omega⟩ ?_ ?_).mono ?_
 ·intro _ i x q hi d hm _
  unfold xK
  (dsimp +instances only[Aa,Ab,Ac,Ad,Ae,Af,Ag])
  have ex:=(hr x hm).eta;refine aa.p (aa.p ?_);simp only[ba,d,ex];refine aa.cE (ai1 (hr x hm)) ?_
  (dsimp +instances only[Aa,Ab,Ac,Ad,Ae,Af,Ag])
  refine aa.test (fun h1=>aa.some (.inr ⟨0,_,rfl,rfl,_,⟨i,q,hi,.inl ⟨by rw[d]; simpa using h1,by rw[d]⟩⟩,rfl⟩)) fun h1=>?_;have h1:kL x=0:=by simpa using h1
  refine aa.test (fun k=>?_) fun k=>?_
  ·have k:0<i:=by
    rw[dD,decide_eq_true_eq]at k;omega
   have M:((i:Int)-1).toNat=i-1:=by omega
   have J:rows.getD (i-1) []∈rows:=rS (by omega);refine aa.p (aa.p ?_);simp only[M,(hr _ J).eta];refine aa.cE (ai' (hr _ J) (hr x hm)) ?_
   (dsimp +instances only[Aa,Ab,Ac,Ad,Ae,Af,Ag])
   refine aa.test (fun B=>aa.some (.inr ⟨0,_,rfl,rfl,7,⟨i,q,hi,.inr ⟨by rw[d]; exact h1,k,by rw[eV,decide_eq_true_eq]at B; rw[d]; omega,rfl⟩⟩,rfl⟩)) fun B=>?_;refine aa.p (aa.some (.inl ⟨(),rfl,fun j I=>?_,fun j I=>?_⟩))
   ·by_cases e : j = i
    ·rw[e,d,h1]
    ·exact q.1 j (by omega)
   ·by_cases e : j + 1 = i
    ·rw [eV, decide_eq_false_iff_not] at B
     rw[e,d,show j=i-1 from by omega];omega
    ·exact q.2 j (by omega)
  ·have k:i=0:=by
    rw[dD,decide_eq_false_iff_not]at k;omega
   refine aa.p (aa.some (.inl ⟨(),rfl,fun j I=>?_,fun j I=>by omega⟩));rw[show j=i from by omega,d,h1]
 ·intro _ _
  unfold xK
  (dsimp +instances only[Aa,Ab,Ac,Ad,Ae,Af,Ag])
  refine aa.n (aa.some rfl)
 ·rintro c g (⟨_, h, rfl, rfl⟩ | h)
  ·exact .inl ⟨h,rfl,rfl⟩
  ·exact .inr h
abbrev dU:List Kd:=[.str,.int .i64]
theorem Ji(r s:List G):dO r s=dO s r:=by
 unfold dO;rw[xk (gi r 0).str.toList,xk (gi r 1).int]
theorem TU{r s:List G}(hr:cu r)(d:cu s):aI dU (aU dU r) (aU dU s)=dO r s:=by
 obtain⟨_,_,_,_,_,_,_,_,_,_,_,_,_,_,_,rfl,_⟩:=hr;obtain⟨_,_,_,_,_,_,_,_,_,_,_,_,_,_,_,rfl,_⟩:=d;simp only[aI,aU,oB,dO,mg]
 (dsimp +instances only[Aa,Ab,Ac,Ad,Ae,Af,Ag])
 simp[eS,NQ,G.str,G.int]
def sf(m rows:List (List G))(i:Nat):Prop:=∀ r,cu r→((gi (bZ dU m (aU dU r) [.t false]) 0).bool=true↔∃ j,j<i∧dO (rows.getD j []) r=true)
theorem sf.nil(rows:List (List G)):sf [] rows 0:=fun r _=>by
 rw[xm];constructor
 ·intro h; cases h
 ·rintro⟨j,d,_⟩; omega
theorem sf.put{m rows:List (List G)}{i:Nat}{x:List G}(h:sf m rows i)(q:cu x)(e:rows.getD i []=x)(c:Nat):sf (dv dU m (aU dU x) [.t true] c) rows (i+1):=fun r hr=>by
 rw[oP,TU hr q,Ji];cases k:dO x r with
 | true =>
  simp only[cond_true];exact⟨fun _=>⟨i,by omega,by rw[e]; exact k⟩,fun _=>rfl⟩
 | false =>
  simp only[cond_false];rw[h r hr];constructor
  ·rintro⟨j,B,d⟩; exact⟨j,by omega,d⟩
  ·rintro ⟨j, B, d⟩
   by_cases I:j=i
   ·rw[I,e,k]at d; cases d
   ·exact⟨j,by omega,d⟩
theorem ajb(rows:List (List G))(hr:∀ z∈rows,cu z)(hn:rows.length≤20) :
  gN xL [.l [],.i 0,.l rows,.i (rows.length:Int),.i 0] fun c g=>(kM rows rows.length∧c=1∧g=[])∨(c=0∧¬ kM rows rows.length∧g=[.i 6]):=by
 refine(uh (σ:=List (List G) × Nat) (fun s i=>[.l s.1,.i (s.2:Int),.l rows,.i (rows.length:Int),.i (i:Int)]) rows (fun _=>(1,[])) (fun s i=>kM rows i∧sf s.1 rows i) (fun c g=>c=0∧¬ kM rows rows.length∧g=[.i 6]) ([],0) (by omega) ⟨fun j h=>by omega,sf.nil rows⟩ ?_ ?_).mono ?_
 ·rintro ⟨m, ck⟩ i x ⟨J, hM⟩ hi d hm _
  have B:=hr x hm;unfold xL
  (dsimp +instances only[Aa,Ab,Ac,Ad,Ae,Af,Ag])
  refine aa.p (aa.p ?_);simp only[ba,d];refine aa.test (fun h1=>aa.some (.inr ⟨0,_,rfl,rfl,fun M=>?_,rfl⟩)) fun h1=>?_
  ·obtain ⟨j, q, I⟩ := (hM x B).1 h1
   have:=M i hi j q;rw[d,I]at this;cases this
  ·refine aa.p (aa.some (.inl ⟨(dv dU m (aU dU x) [.t true] ck, dM dU m (aU dU x) ck), rfl, fun k hk j q => ?_, hM.put B d ck⟩))
   by_cases e:k=i
   ·subst e
    rw[d];cases I:dO (rows.getD j []) x with
    |false=>rfl
    | true =>
     rw[(hM x B).2 ⟨j,q,I⟩]at h1;cases h1
   ·exact J k (by omega) j q
 ·rintro ⟨m, ck⟩ _
  unfold xL
  (dsimp +instances only[Aa,Ab,Ac,Ad,Ae,Af,Ag])
  exact aa.n (aa.some rfl)
 ·rintro c g (⟨_, h, rfl, rfl⟩ | h)
  ·exact .inl ⟨h.1,rfl,rfl⟩
  ·exact .inr h
theorem ajc(rows:List (List G))(hr:∀ z∈rows,cu z)(hn:rows.length≤20):xM [.l rows]=some [.i (mo rows)]∧ka rows (mo rows):=by
 have key:aa (xM [.l rows]) fun g=>∃ v:Int,g=[.i v]∧ka rows v:=by
  unfold xM
  (dsimp +instances only[Aa,Ab,Ac,Ad,Ae,Af,Ag])
  refine aa.n ?_;refine aa.loop (aja rows hr hn) rfl ?_;rintro c g (⟨h1,rfl,rfl⟩|⟨rfl,v,d,rfl⟩)
  ·refine aa.neg rfl ?_
   refine aa.loop (ajb rows hr hn) rfl ?_;rintro c g (⟨k,rfl,rfl⟩|⟨rfl,d,rfl⟩)
   ·exact aa.neg rfl (aa.some ⟨0,rfl,.inr ⟨h1,.inl ⟨k,rfl⟩⟩⟩)
   ·exact aa.pos rfl (aa.some ⟨6,rfl,.inr ⟨h1,.inr ⟨d,rfl⟩⟩⟩)
  ·exact aa.pos rfl (aa.some ⟨v,rfl,.inl d⟩)
 obtain⟨_,h,v,rfl,d⟩:=key;have e:=d.eq;subst e;exact⟨h,d⟩
def CC(r:List G):Prop:=∃ n:Int,r=[.i n]
theorem TV:∀(n:Nat) (mid p q:List (List G)),mid.length≤n→(∀ z∈mid,CC z)→p.length+mid.length+q.length<100000 →
  bq ur [.l (p++mid++q),.i (p.length:Int),.i ((p.length:Int)+(mid.length:Int)-1)] (n+1) fun c g=>c=0∧g=[.l (p++mid.reverse++q)]
 | n,[],p,q,_,_,d=>by
  refine bq.stop (x:=0) (aa.toEq ?_) ⟨rfl,rfl⟩;unfold ur
  (dsimp +instances only[Aa,Ab,Ac,Ad,Ae,Af,Ag])
  refine aa.neg (by simp only[lN,dD,decide_eq_false_iff_not]; omega) ?_;exact aa.some (by simp)
 | n,[x],p,q,_,_,d=>by
  refine bq.stop (x:=0) (aa.toEq ?_) ⟨rfl,rfl⟩;unfold ur
  (dsimp +instances only[Aa,Ab,Ac,Ad,Ae,Af,Ag])
  refine aa.neg (by simp only[cn,lN,dD,decide_eq_false_iff_not]; omega) ?_;exact aa.some (by simp)
 |0,x::k::m0,p,q,h,_,_=>by simp at h
 | n+1,x::k::m0,p,q,h,B,d=>by
  obtain⟨m,y,e⟩:∃ m y,k::m0=m++[y]:=⟨(k::m0).dropLast,(k::m0).getLast (by simp),(List.dropLast_concat_getLast (by simp)).symm⟩
  rw[e]at h B d⊢;have U:CC x:=B x (by simp);have V:CC y:=B y (by simp);simp only[cn,List.length_append,lN]at h d⊢;have W:=TV n m (p++[y]) (x::q) (by omega) (fun z hz=>B z (by simp[hz])) (by simp; omega);have e1:p++x::(m++[y])++q=p++x::(m++y::q):=by simp
  have e2:p++x::(m++y::q)=(p++x::m)++y::q:=by simp
  have ji:((p.length:Int)+((m.length+(0+1)+1:Nat):Int)-1).toNat=(p++x::m).length:=by simp; omega
  have g1:(p++x::(m++y::q)).getD p.length []=x:=nw _ _ _ _ _ rfl;have g2:(p++x::(m++y::q)).getD (p++x::m).length []=y:=by rw[e2]; exact nw _ _ _ _ _ rfl
  have s1:(p++x::(m++y::q)).set p.length y=p++y::(m++y::q):=By _ _ _ _ _ rfl;have J:p++y::(m++y::q)=(p++y::m)++y::q:=by simp
  have M:(p++x::m).length=(p++y::m).length:=by simp
  have s2:(p++y::(m++y::q)).set (p++x::m).length x=(p++y::m)++x::q:=by rw[J,M]; exact By _ _ _ _ _ rfl
  have g3:(p++y::(m++y::q)).getD (p++x::m).length []=y:=by rw[J,M]; exact nw _ _ _ _ _ rfl
  have n1:(p++x::(m++y::q)).length=p.length+m.length+q.length+2:=by simp; omega
  have n2:(p++y::(m++y::q)).length=p.length+m.length+q.length+2:=by simp; omega
  have n3:((p++y::m)++x::q).length=p.length+m.length+q.length+2:=by simp; omega
  have n4:(p++x::m).length=p.length+m.length+1:=by simp; omega
  obtain⟨N,ex⟩:=U;obtain⟨O,I⟩:=V;have i1:(gi x 0).int=N:=by rw[ex]; rfl
  have i2:(gi y 0).int=O:=by rw[I]; rfl
  have q1:dR [Kd.int .i64] x 0 [.i O]=y:=by rw[ex,I]; rfl
  have q2:dR [Kd.int .i64] y 0 [.i N]=x:=by rw[ex,I]; rfl
  refine bq.next (d1:=[.l ((p++[y])++m++(x::q)),.i (((p++[y]).length:Nat):Int),.i ((((p++[y]).length:Nat):Int)+(m.length:Int)-1)]) (aa.toEq ?_) (W.mono ?_)
  ·rw [e1]
   unfold ur
   (dsimp +instances only[Aa,Ab,Ac,Ad,Ae,Af,Ag])
   simp only[di,ba,ji,g1,g2,i1,i2,q1,q2,s1,g3,s2,n1,n2,n3]
   (repeat first|refine aa.p ?_|refine aa.n ?_)
   refine aa.some ?_;rw[show p++[y]++m++x::q=p++y::m++x::q from by simp,show (((p++[y]).length:Nat):Int)=(p.length:Int)+1 from by simp,show (p.length:Int)+1+(m.length:Int)-1=(p.length:Int)+((m.length+(0+1)+1:Nat):Int)-1-1 from by omega]
  ·rintro c g ⟨rfl, rfl⟩
   exact⟨rfl,by simp⟩
theorem ajd(rows:List (List G))(hr:∀ z∈rows,CC z)(hn:rows.length<90000):BK [.l rows]=some [.l rows.reverse]:=by
 refine aa.toEq ?_;unfold BK
 (dsimp +instances only[Aa,Ab,Ac,Ad,Ae,Af,Ag])
 refine aa.p ?_;have h:=TV rows.length rows [] [] (aD _) hr (by simp; omega);simp only[ki,List.append_nil,lN]at h;have e:((0:Nat):Int)+(rows.length:Int)-1=(rows.length:Int)-1:=by omega
 rw[e]at h;refine aa.loop (h.to (by omega)) (by(first|rfl|assumption|(simp only[aw,sl]<;>omega))) ?_;rintro _ _ ⟨rfl,rfl⟩
 (dsimp +instances only[Aa,Ab,Ac,Ad,Ae,Af,Ag])
 (repeat first|refine aa.p ?_|refine aa.n ?_)
 exact aa.some rfl
theorem TW{st:Int→List G→List G→Option (List G)}{rows:List (List G)}(I:Nat→List G→Prop) (k:∀(n:Nat) (d:List G),n<rows.length→I (n+1) d→aa (st (n:Int) (rows.getD n []) d) (I n)) :
  ∀(n:Nat) (d:List G),n≤rows.length→I n d→aa (qi st rows n d) (I 0)
 |0,d,_,h=>aa.some h
 | n+1,d,hn,h=>by
  obtain⟨d',h1,q⟩:=k n d (by omega) h;simp only[qi,h1];exact TW I k n d' (by omega) q
def yg(r:List G):List G:=[.s (gi r 13).str,.i (gi r 14).int]
def yh(k:List G)(u:List (List G)):Bool:=u.any fun o=>aI dU k o
def uA(a:Int):List (List G)→List (List G)
 | []=>[]
 |x::l=>bif ao a (gi x 2).int||yh (aU dU x) (uA a l) then uA a l else bif (gi x 3).int==5 then yg x::uA a l else uA a l
def mq(a:Int)(x:List G)(l:List (List G)):Bool := !(ao a (gi x 2).int||yh (aU dU x) (uA a l))
def cA(a:Int):Nat→List (List G)→List (List G)
 |_,[]=>[]
 |i,x::l=>bif mq a x l then [.i (i:Int)]::cA a (i+1) l else cA a (i+1) l
theorem aje(a:Int)(x:List G)(l:List (List G)):uA a (x::l)=bif mq a x l&&(gi x 3).int==5 then yg x::uA a l else uA a l:=by
 simp only[uA,mq];cases ao a (gi x 2).int||yh (aU dU x) (uA a l)<;>rfl
theorem yk(a:Int):∀(i:Nat) (l:List (List G)),(cA a i l).length≤l.length
 |_,[]=>aD _
 | i,x::l=>by
  simp only[cA];have:=yk a (i+1) l;cases mq a x l<;>simp only[cond_true,cond_false,cn]<;>omega
theorem Jj{a:Int}:∀{i:Nat} {l:List (List G)} {z:List G},z∈cA a i l→∃ j:Nat,z=[.i (j:Int)]∧i≤j∧j<i+l.length
 |_,[],z,h=>by simp[cA]at h
 | i,x::l,z,h=>by
  have d:z∈cA a (i+1) l→∃ j:Nat,z=[.i (j:Int)]∧i≤j∧j<i+(x::l).length:=fun h=>by
   obtain⟨j,e,h1,q⟩:=Jj h;exact⟨j,e,by omega,by simp only[cn]; omega⟩
  simp only[cA]at h;cases k:mq a x l with
  |false=>rw[k]at h; exact d h
  | true =>
   rw[k]at h;rcases bN.1 h with rfl|h
   ·exact⟨i,rfl,aD _,by simp only[cn]; omega⟩
   ·exact d h
def sg(m u:List (List G)):Prop:=∀ k,(gi (bZ dU m k [.t false]) 0).bool=yh k u
theorem sg.nil:sg [] []:=fun k=>by rw[xm]; rfl
theorem sg.put{m u:List (List G)}(h:sg m u)(t:List G)(c:Nat):sg (dv dU m t [.t true] c) (t::u):=fun k=>by
 rw[oP];simp only[yh,zd];cases hk:aI dU k t with
 |true=>rfl
 | false =>
  simp only[cond_false,mH];exact h k
theorem ajf(rows:List (List G))(a:Int)(hr:∀ z∈rows,cu z)(hn:rows.length≤1000):B6 [.l rows,.i a]=some [.l (cA a 0 rows)]:=by
 refine aa.toEq ?_;unfold B6
 (dsimp +instances only[Aa,Ab,Ac,Ad,Ae,Af,Ag])
 have key:aa (B5 [.i a,.l [],.i 0,.l rows]) fun o=>∃ x,o.1=some x∧o.2=[.l (cA a 0 rows)]:=by
  unfold B5 xh;have J:(gi [G.i a,G.l [],G.i 0,G.l rows] 3).rows=rows:=rfl;have N:=TW (st:=HQ) (rows:=rows) (fun n d=>∃ m c,d=[.i a,.l m,.i c,.l (cA a n (rows.drop n)).reverse]∧sg m (uA a (rows.drop n))) (fun n d q B=>by
   obtain⟨m,c,rfl,hm⟩:=B;have O:rows.getD n []∈rows:=rS q;have U:rows.drop n=rows.getD n []::rows.drop (n+1):=by
    rw[List.drop_eq_getElem_cons q,bz,bf q];rfl
   rw[U];generalize rows.getD n []=x at O;have hlen:=yk a (n+1) (rows.drop (n+1));rw[List.length_drop]at hlen;unfold HQ
   (dsimp +instances only[Aa,Ab,Ac,Ad,Ae,Af,Ag])
   have hk:=hm (aU dU x);simp only[cA,aje];refine aa.test (fun h1=>?_) fun h1=>?_
   ·have e : mq a x (rows.drop (n + 1)) = false := by unfold mq; rw [h1]; rfl
    rw[e];exact aa.pos (by simp) (aa.some ⟨m,_,rfl,hm⟩)
   refine aa.test (fun k=>?_) fun k=>?_
   ·have e : mq a x (rows.drop (n + 1)) = false := by unfold mq; rw [← hk, k, Bool.or_true]; rfl
    rw[e];exact aa.pos (by simp) (aa.some ⟨m,_,rfl,hm⟩)
   have e:mq a x (rows.drop (n+1))=true:=by unfold mq; rw[←hk,k,h1]; rfl
   rw[e];refine aa.pos (by simp only[sl,amd]; simp; omega) ?_;refine aa.test (fun I=>?_) fun I=>?_
   ·rw [I]
    exact aa.pos (by simp) (aa.some ⟨dv dU m (yg x) [.t true] c.toNat,((dM dU m (yg x) c.toNat:Nat):Int),by simp only[cond_true,VX]; rfl,hm.put (yg x) _⟩)
   ·rw [I]
    exact aa.pos (by simp) (aa.some ⟨m,((c.toNat:Nat):Int),by simp only[Bool.and_false,cond_true,cond_false,VX],hm⟩)) rows.length (R6 [.i a,.l [],.i 0,.l rows]) (aD _) ⟨[],_,by rw[ame]; rfl,by rw[ame]; exact sg.nil⟩
  obtain⟨d,B,m,c,rfl,_⟩:=N;rw[J];refine aa.pos (by simp[uB,R7]; omega) ?_;have M:qi uB.st rows rows.length (uB.init [.i a,.l [],.i 0,.l rows])=some [.i a,.l m,.i c,.l (cA a 0 (rows.drop 0)).reverse]:=B;rw[M];simp only[Option.bind_some,List.drop_zero];unfold HR
  (dsimp +instances only[Aa,Ab,Ac,Ad,Ae,Af,Ag])
  have hlen:=yk a 0 rows;refine aa.nt (aa.eq (ajd (cA a 0 rows).reverse (fun z V=>by
   obtain⟨j,e,_⟩:=Jj (List.mem_reverse.1 V);exact⟨_,e⟩) (by rw[amd]; omega))) (by simp) ?_
  rintro _ rfl
  (dsimp +instances only[Aa,Ab,Ac,Ad,Ae,Af,Ag])
  exact aa.pos (by simp) (aa.some ⟨0,rfl,by rw[List.reverse_reverse]⟩)
 refine aa.tail (P:=fun _ g=>g=[.l (cA a 0 rows)]) (key.mono ?_) (by simp) ?_
 ·rintro o ⟨x, h1, k⟩
  exact⟨x,h1,k⟩
 rintro _ _ rfl
 (dsimp +instances only[Aa,Ab,Ac,Ad,Ae,Af,Ag])
 exact aa.pos (by simp) (aa.some rfl)
theorem Jk(r s:List G):gP r s=fD (ew (gi r 2).int (gi s 2).int) (fD (cJ (gi r 0).str (gi s 0).str) (ew (gi r 1).int (gi s 1).int)):=by
 unfold gP fD;by_cases h:(gi r 2).int=(gi s 2).int
 ·have e : ew (gi r 2).int (gi s 2).int = 0 := by rw [h]; simp [ew]
  simp[h,e,ew]
 ·have := (TT (a := (gi r 2).int) (b := (gi s 2).int)).2 h
  simp[h,this]
theorem ajg(r s:List G):gP s r = - gP r s:=by
 rw[Jk,Jk];exact yf (jM.flip _ _) (yf (gB.flip _ _) (jM.flip _ _))
theorem uT{a b:List G}:dO a b=true↔(gi a 0).str=(gi b 0).str∧(gi a 1).int=(gi b 1).int:=by
 unfold dO;rw[az,beq_iff_eq,beq_iff_eq];constructor
 ·rintro ⟨h1, d⟩
  have:=ye (gi a 0).str (gi b 0).str;rw[h1,beq_self_eq_true]at this;exact⟨gB.eq _ _ (by simpa using this.symm),d⟩
 ·rintro ⟨h1, d⟩
  rw[h1];exact⟨rfl,d⟩
theorem ajh{a b:List G}(h:gP a b=0):dO a b=true:=by
 rw[Jk]at h;unfold fD at h;split at h
 ·rename_i h1; exact(h1 h).elim
 ·split at h
  ·rename_i h1; exact(h1 h).elim
  ·rename_i d
   exact uT.2 ⟨gB.eq _ _ (by simpa using d),jM.eq _ _ h⟩
def kO(l:List (List G)):Prop:=l.Pairwise fun a b=>dO a b=false
theorem kM.apart{rows:List (List G)}(h:kM rows rows.length):kO rows:=by
 unfold kO;rw[List.pairwise_iff_getElem];intro i j hi d k;have:=h j d i k;rw[bz,bz,bf hi,bf d]at this;exact this
theorem kO.inj{l:List (List G)}(h:kO l):∀ a∈l,∀ b∈l,dO a b=true→a=b:=by
 intro a ha b hb e;refine Gc (f:=fun r:List G=>((gi r 0).str,(gi r 1).int)) (amf ?_ h) a ha b hb ?_
 ·intro x y d he
  rw[(uT (a:=x) (b:=y)).2 ⟨congrArg Prod.fst he,congrArg Prod.snd he⟩]at d;cases d
 ·obtain ⟨h1, k⟩ := uT.1 e
  exact Prod.ext h1 k
theorem kO.zero{l:List (List G)}(h:kO l):∀ a∈l,∀ b∈l,bM gP a b=false→bM gP b a=false→a=b:=by
 intro a ha b hb h1 d;unfold bM at h1 d;rw[dD,decide_eq_false_iff_not]at h1 d;have:=ajg a b;exact h.inj a ha b hb (ajh (by omega))
theorem kO.sort{l:List (List G)}(h:kO l):kO (eu (bM gP) l):=(ny (lt:=bM gP) l).symm.pairwise h (fun e=>by rw[Ji]; exact e)
theorem aji{out:List (List G)}{x:List G}(h:(out.find? fun o=>dO o x)=none):∀ o∈out,dO o x=false:=fun o ho=>by
 have:=KB.1 h o ho;simpa using this
theorem kO.snoc{out:List (List G)}{x:List G}(h:kO out)(d:∀ o∈out,dO o x=false):kO (out++[x]):=by
 unfold kO;rw[amg];exact⟨h,by simp,fun a ha b hb=>by simp at hb; rw[hb]; exact d a ha⟩
def zD:List G:=[.s (⟨#[]⟩:ByteArray),.i 0,.i 0,.i 0,.i 0,.i 0,.s (⟨#[]⟩:ByteArray),.s (⟨#[]⟩:ByteArray),.i 0,.i 0,.s (⟨#[]⟩:ByteArray),.s (⟨#[]⟩:ByteArray),.s (⟨#[]⟩:ByteArray),.s (⟨#[]⟩:ByteArray),.i 0]
def ym(m out:List (List G)):Prop:=∀ r,cu r→du dU m (aU dU r)=(out.find? fun o=>dO o r).isSome∧∀ o,(out.find? fun o=>dO o r)=some o→bZ dU m (aU dU r) zD=o
theorem ym.nil:ym [] []:=fun r _=>⟨rfl,fun o h=>by cases h⟩
theorem ym.put{m out:List (List G)}{x:List G}(h:ym m out)(k:cu x)(hn:(out.find? fun o=>dO o x)=none)(c:Nat):ym (dv dU m (aU dU x) (aU aF x) c) (out++[x]):=fun r hr=>by
 obtain⟨h1,N⟩:=h r hr;rw[Bw,oP,TU hr k,Ji r x,amh];cases d:dO x r with
 | true =>
  have J:(out.find? fun o=>dO o r)=none:=KB.2 fun o ho M=>by
   have q:=uT.1 d;have B:=uT.1 M;have I:=aji hn o ho;rw[uT.2 ⟨B.1.trans q.1.symm,B.2.trans q.2.symm⟩]at I;cases I
  rw[J];simp[d,k.eta]
 | false =>
  simp only[mH,cond_false];have e:([x].find? fun o=>dO o r)=none:=by simp[d]
  rw[e,ami];exact⟨h1,N⟩
def sk(rows:List (List G))(t:Int):Int:=bif mo rows != 0 then mo rows else bif ch t 0 345686399999 then 0 else 1
theorem ajj(rows:List (List G))(t:Int)(hr:∀ z∈rows,cu z)(hn:rows.length≤20):B4 [.l rows,.i t]=some [.i (sk rows t)]:=by
 refine aa.toEq ?_;unfold B4 sk
 (dsimp +instances only[Aa,Ab,Ac,Ad,Ae,Af,Ag])
 refine aa.cE (ajc rows hr hn).1 ?_
 (dsimp +instances only[Aa,Ab,Ac,Ad,Ae,Af,Ag])
 cases mo rows != 0 with
 |true=>exact aa.pos rfl (aa.some rfl)
 | false =>
  refine aa.neg rfl ?_;refine aa.cE (TS t) ?_
  (dsimp +instances only[Aa,Ab,Ac,Ad,Ae,Af,Ag])
  cases ch t 0 345686399999<;>exact⟨_,rfl,rfl⟩
def cz(r:List G):List G:=[.i (gi r 4).int,.i (gi r 5).int,.s (gi r 6).str,.s (gi r 7).str,.i (gi r 8).int,.i (gi r 9).int,.s (gi r 10).str,.s (gi r 11).str]
theorem cu.jk{r:List G}(h:cu r):dT (cz r):=by
 obtain⟨_,_,_,_,t,m,b,c,s,h,x,y,_,_,_,rfl,_,_,_,_,⟨p1,d,k,q,B,I,J,M⟩,_⟩:=h;exact⟨t,m,b,c,s,h,x,y,rfl,p1,d,B,I,k,Cw q,J,M⟩
def fX(r s:List G):Int:=cP (cz r) (cz s)
theorem CD(r s:List G):cP r s=fD (ew (gi r 0).int (gi s 0).int) (fD (cJ (gi r 3).str (gi s 3).str) (fD (cJ (gi r 2).str (gi s 2).str) (ew (gi r 1).int (gi s 1).int))):=rfl
theorem uU(r s:List G):cP s r = - cP r s:=by
 rw[CD,CD];exact yf (jM.flip _ _) (yf (gB.flip _ _) (yf (gB.flip _ _) (jM.flip _ _)))
theorem TX(a b d:List G)(h1:cP a b≤0)(k:cP b d≤0):cP a d≤0:=by
 rw[CD]at *;exact Je jM _ _ _ _ _ _ h1 k fun g1 g2=>Je gB _ _ _ _ _ _ g1 g2 fun q B=>Je gB _ _ _ _ _ _ q B fun m1 m2=>jM.le _ _ _ m1 m2
theorem ajk:fk (bM cP) (fun _=>True):=Jg (fun a b=>uU a b) TX
theorem ajl:fk (bM fX) (fun _=>True):=Jg (fun a b=>uU _ _) (fun a b d=>TX _ _ _)
theorem sn{r s:List G}:cP r s=0↔(gi r 0).int=(gi s 0).int∧(gi r 3).str=(gi s 3).str∧(gi r 2).str=(gi s 2).str∧(gi r 1).int=(gi s 1).int:=by
 have z2:∀ a b:Int,fD a b=0↔a=0∧b=0:=fun a b=>by
  unfold fD;by_cases h:a=0<;>simp[h]
 rw[CD,z2,z2,z2];constructor
 ·rintro ⟨h1, d, k, q⟩
  exact⟨jM.eq _ _ h1,gB.eq _ _ d,gB.eq _ _ k,jM.eq _ _ q⟩
 ·rintro ⟨h1, d, k, q⟩
  rw[h1,d,k,q];exact⟨jM.refl _,gB.refl _,gB.refl _,jM.refl _⟩
theorem TY{α β:Type}(f:α→β){lt:α→α→Bool}{d:β→β→Bool}(h:∀ a b,d (f a) (f b)=lt a b)(x:α):∀ p:List α,fL d (f x) (p.map f)=(fL lt x p).map f
 | []=>rfl
 | y::p=>by
  simp only[fL,dj,h];cases lt x y with
  |true=>simp only[cond_true,dj,TY f h x p]
  |false=>rfl
theorem TZ{α β:Type}(f:α→β){lt:α→α→Bool}{d:β→β→Bool}(h:∀ a b,d (f a) (f b)=lt a b):∀ r p:List α,iH d (p.map f) (r.map f)=(iH lt p r).map f
 | [],p=>rfl
 | x::r,p=>by
  simp only[iH,dj,TY f h];exact TZ f h r (fL lt x p)
theorem ajm{α β:Type}(f:α→β){lt:α→α→Bool}{d:β→β→Bool}(h:∀ a b,d (f a) (f b)=lt a b)(l:List α):eu d (l.map f)=(eu lt l).map f:=by
 unfold eu;have:=TZ f h l [];rw[List.map_nil]at this;rw[this,List.map_reverse]
def yn(rows n:List (List G)):Prop:=∀ z∈n,∃ j:Nat,z=[.i (j:Int)]∧j<rows.length
theorem CE(t:Int)(rows:List (List G)):yn rows (cA t 0 rows):=fun z d=>by
 obtain⟨j,e,_,h⟩:=Jj d;exact⟨j,e,by omega⟩
def jl(rows:List (List G))(z:List G):List G:=rows.getD (gi z 0).int.toNat []
def uV(k:List (List G))(d:List G):Bool:=k.any fun o=>fX o d==0
def yo(rows:List (List G))(s:List (List G) × List (List G))(z:List G):List (List G) × List (List G) :=
 bif (gi (jl rows z) 3).int != 1 then s else bif uV s.1 (jl rows z) then (s.1,s.2++[z]) else (s.1++[jl rows z],s.2)
def gQ(rows n:List (List G)):List (List G) × List (List G):=n.foldl (yo rows) ([],[])
structure jm (rows:List (List G)) (k:Nat) (s:List (List G) × List (List G)):Prop where
 mem:∀ d∈s.1,d∈rows∧(gi d 3).int=1
 idx:yn rows s.2
 apart:s.1.Pairwise fun a b=>fX a b≠0
 CF:s.1.length≤k
 T0:s.2.length≤k
theorem jm.nil(rows:List (List G)):jm rows 0 ([],[]):=⟨by simp,fun z d=>by simp at d,by simp,by simp,by simp⟩
theorem jm.step{rows:List (List G)}{k:Nat}{s:List (List G) × List (List G)}(h:jm rows k s){z:List G}(q:∃ j:Nat,z=[.i (j:Int)]∧j<rows.length):jm rows (k+1) (yo rows s z):=by
 obtain⟨j,rfl,B⟩:=q;have I:jl rows [.i (j:Int)]∈rows:=rS B;unfold yo;generalize jl rows [.i (j:Int)]=d at I;have h1:=h.CF;have N:=h.T0;cases M:(gi d 3).int != 1 with
 |true=>exact⟨h.mem,h.idx,h.apart,by simp only[cond_true]; omega,by simp only[cond_true]; omega⟩
 | false =>
  cases J:uV s.1 d with
  | true =>
   refine⟨h.mem,fun z q=>?_,h.apart,by simp only[cond_true,cond_false]; omega,by simp only[cond_true,cond_false]; simp; omega⟩;simp only[cond_true,cond_false,cQ,po]at q;rcases q with q|rfl
   ·exact h.idx z q
   ·exact⟨j,rfl,B⟩
  | false =>
   refine⟨fun o ho=>?_,h.idx,?_,by simp only[cond_false]; simp; omega,by simp only[cond_false]; omega⟩
   ·simp only [cond_false, cQ, po] at ho
    rcases ho with ho|rfl
    ·exact h.mem o ho
    ·exact⟨I,by simpa using M⟩
   ·simp only [cond_false]
    rw[amg];refine⟨h.apart,by simp,fun a ha b hb=>?_⟩;simp only[po]at hb;subst hb;unfold uV at J;have:=Dl.1 J a ha;simpa using this
theorem Jl{rows n:List (List G)}(hn:yn rows n):∀ i,i≤n.length→jm rows i (gQ rows (n.take i))
 |0,_=>by rw[List.take_zero]; exact jm.nil rows
 | i+1,hi=>by
  have d:i<n.length:=hi;have k:=Jl hn i (by omega);have e:n.take (i+1)=n.take i++[n.getD i []]:=Oz d;rw[e];unfold gQ at k⊢;rw[ze];exact k.step (hn _ (rS d))
theorem CG{rows n:List (List G)}(hn:yn rows n):jm rows n.length (gQ rows n):=by
 have:=Jl hn n.length (aD _)
 rwa [KC]at this
theorem jm.T3{rows:List (List G)}{k:Nat}{s:List (List G) × List (List G)}(h:jm rows k s)(hr:∀ z∈rows,cu z):∀ d∈s.1,cu d:=fun d q=>hr d (h.mem d q).1
theorem jm.zero{rows:List (List G)}{k:Nat}{s:List (List G) × List (List G)}(h:jm rows k s):∀ a∈s.1,∀ b∈s.1,bM fX a b=false→bM fX b a=false→a=b:=by
 intro a ha b hb h1 d;unfold bM at h1 d;rw[dD,decide_eq_false_iff_not]at h1 d;have B:fX a b=0:=by
  have:=uU (cz a) (cz b);unfold fX at *;omega
 refine Gc (f:=fun r:List G=>((gi r 4).int,(gi r 7).str,(gi r 6).str,(gi r 5).int)) (amf ?_ h.apart) a ha b hb ?_
 ·intro x y q he
  refine q (sn.2 ?_);simp only[a8]at he;exact he
 ·have := sn.1 B
  simp only[a8];exact this
def Jm(d:List (List G)):List (List G):=eu (bM fX) d
theorem T4(d:List (List G)):(Jm d).length=d.length:=BA _ _
def Jn(rows:List (List G))(t:Int):List (List G):=(cA t 0 rows).map (jl rows)
section
variable (rows:List (List G)) (t:Int) (hr:∀ z∈rows,cu z) (hn:rows.length≤20) (bF:j_ rows)
include hr hn bF
end
def gC(c:List G):List G:=[.i (gi c 0).int,.i (gi c 1).int,.s (gi c 2).str,.s (gi c 3).str,.i 0,.i 0,.s (⟨#[]⟩:ByteArray),.s (⟨#[]⟩:ByteArray)]
theorem Jo{c:List G}:B7 [.l [c]]=some [.l [gC c]]:=rfl
theorem ajn(c o:List G):aI [.int .i64,.int .i64,.str,.str,.int .i64,.int .i64,.str,.str] (gC c) (gC o)=(cP o c==0):=by
 have e:aI [.int .i64,.int .i64,.str,.str,.int .i64,.int .i64,.str,.str] (gC c) (gC o)=(((gi c 0).int==(gi o 0).int)&&(((gi c 1).int==(gi o 1).int)&&(((gi c 2).str.toList==(gi o 2).str.toList)&&(((gi c 3).str.toList==(gi o 3).str.toList)&&true)))):=by
  simp only[aI,gC,oB];simp[eS,G.str,G.int]
 have cs:∀ a b:ByteArray,(a.toList==b.toList)=decide (a=b):=fun a b=>by
  rw[ye];by_cases h:a=b
  ·rw[h]; simp[gB.refl b]
  ·have k : ¬ cJ a b = 0 := fun e => h (gB.eq _ _ e)
   simp[h,k]
 rw[e,cs,cs];have z:=sn (r:=o) (s:=c);cases h:cP o c==0 with
 | true =>
  obtain⟨h1,k,B,I⟩:=z.1 (by simpa using h);rw[h1,k,B,I];simp
 | false =>
  have aA:¬ cP o c=0:=by simpa using h
  have aA:=fun q=>aA (z.2 q);rw[Bool.eq_false_iff];intro d;simp only[az,beq_iff_eq,decide_eq_true_eq,and_true]at d;exact aA ⟨d.1.symm,d.2.2.2.symm,d.2.2.1.symm,d.2.1.symm⟩
def lz(m d:List (List G)):Prop:=∀ c,du [.int .i64,.int .i64,.str,.str,.int .i64,.int .i64,.str,.str] m (gC c)=(d.any fun o=>cP (cz o) c==0)∧∀ o,(d.find? fun o=>cP (cz o) c==0)=some o→bZ [.int .i64,.int .i64,.str,.str,.int .i64,.int .i64,.str,.str] m (gC c) zD=o
theorem lz.nil:lz [] []:=fun c=>⟨rfl,fun o h=>by cases h⟩
theorem lz.put{m d:List (List G)}{x:List G}(h:lz m d)(hn:uV d x=false)(c:Nat):lz (dv [.int .i64,.int .i64,.str,.str,.int .i64,.int .i64,.str,.str] m (gC (cz x)) x c) (d++[x]):=fun k=>by
 obtain⟨h1,J⟩:=h k;rw[Bw,oP,ajn,List.any_append,amh];cases q:cP (cz x) k==0 with
 | true =>
  have M:(d.find? fun o=>cP (cz o) k==0)=none:=KB.2 fun o ho hk=>by
   have N:=Dl.1 hn o ho;have B:=sn.1 (show cP (cz x) k=0 by simpa using q);have I:=sn.1 (show cP (cz o) k=0 by simpa using hk);refine N ?_;have:cP (cz o) (cz x)=0:=sn.2 ⟨I.1.trans B.1.symm,I.2.1.trans B.2.1.symm,I.2.2.1.trans B.2.2.1.symm,I.2.2.2.trans B.2.2.2.symm⟩;unfold fX;rw[this];rfl
  rw[M];simp[q]
 | false =>
  simp only[mH,cond_false];have e:([x].find? fun o=>cP (cz o) k==0)=none:=by simp[q]
  rw[e,ami,h1];exact⟨by simp[q],J⟩
def yp(s:List (List G) × Nat)(d:List G):List (List G) × Nat :=
 bif (gi d 3).int==3 then (dv dU s.1 [.s (gi d 0).str,.i (gi d 8).int] [.t true] s.2,dM dU s.1 [.s (gi d 0).str,.i (gi d 8).int] s.2)
 else bif (gi d 3).int==4||(gi d 3).int==1 then (rA dU s.1 [.s (gi d 0).str,.i (gi d 8).int],s.2) else s
def uW(l:List (List G)):List (List G) × Nat:=l.foldl yp ([],0)
section
variable {dd cs ss ot held bT rows n:List (List G)} {ck iI:Nat} {len i j:Int} {si b c x y bd a_:ByteArray} {no at_ kd t m s h qv:Int}
theorem uX(h1:aw (i+1)=true):uD [.l dd,.l cs,.l ss,.l ot,.l held,.i (ck:Int),.l bT,.i (iI:Int),.l rows,.l n,.i len,.i i] =
  some (some 0,[.l dd,.l cs,.l ss,.l ot,.l held,.i (ck:Int),.l bT,.i (iI:Int),.l rows,.l n,.i len,.i (i+1)]):=by
 refine aa.toEq ?_;unfold uD
 (dsimp +instances only[Aa,Ab,Ac,Ad,Ae,Af,Ag])
 simp only[ba];exact aa.pos h1 (aa.pos (by simp) (aa.some rfl))
theorem T5(f:Bool):xO [.l dd,.l cs,.l ss,.l ot,.l held,.i (ck:Int),.l bT,.i (iI:Int),.s si,.i no,.i at_,.i kd,.i t,.i m,.s b,.s c,.i s,.i h,.s x,.s y,.s bd,.s a_,.i qv,.l rows,.i j,.l n,.i len,.i i,.t f] =
  some (some 0,[.l dd,.l cs,.l ss,.l ot,.l (bif f then rA dU held [.s si,.i s] else held),.i (ck:Int),.l bT,.i (iI:Int),.s si,.i no,.i at_,.i kd,.i t,.i m,.s b,.s c,.i s,.i h,.s x,.s y,.s bd,.s a_,.i qv,.l rows,.i j,.l n,.i len,.i i]):=by
 refine aa.toEq ?_;unfold xO
 (dsimp +instances only[Aa,Ab,Ac,Ad,Ae,Af,Ag])
 simp only[ba];cases f with
 |true=>exact aa.pos rfl (aa.pos (by simp) (aa.some rfl))
 |false=>exact aa.neg rfl (aa.pos (by simp) (aa.some rfl))
def yq(kd j:Int)(jk row:List G)(s:List (List G) × List (List G) × List (List G) × Nat):List (List G) × List (List G) × List (List G) × Nat :=
 bif kd != 1 then s else bif du [.int .i64,.int .i64,.str,.str,.int .i64,.int .i64,.str,.str] s.2.2.1 (gC jk) then (s.1,s.2.1++[[.i j]],s.2.2.1,s.2.2.2)
 else (s.1++[jk],s.2.1,dv [.int .i64,.int .i64,.str,.str,.int .i64,.int .i64,.str,.str] s.2.2.1 (gC jk) row s.2.2.2,dM [.int .i64,.int .i64,.str,.str,.int .i64,.int .i64,.str,.str] s.2.2.1 (gC jk) s.2.2.2)
theorem Jp(S:List (List G) × List (List G) × List (List G) × Nat)(q:yq kd j [.i t,.i m,.s b,.s c,.i s,.i h,.s x,.s y] [.s si,.i no,.i at_,.i kd,.i t,.i m,.s b,.s c,.i s,.i h,.s x,.s y,.s bd,.s a_,.i qv] (cs,ot,bT,iI)=S)(B:cs.length≤1000)(I:ot.length≤1000) :
  aa (uC [.l dd,.l cs,.l ss,.l ot,.l held,.i (ck:Int),.l bT,.i (iI:Int),.s si,.i no,.i at_,.i kd,.i t,.i m,.s b,.s c,.i s,.i h,.s x,.s y,.s bd,.s a_,.i qv,.l rows,.i j,.l n,.i len,.i i]) fun o=>∃ k,o.1=some k ∧
   o.2=[.l dd,.l S.1,.l ss,.l S.2.1,.l held,.i (ck:Int),.l S.2.2.1,.i (S.2.2.2:Int),.l rows,.l n,.i len,.i i]:=by
 subst q;unfold uC yq
 (dsimp +instances only[Aa,Ab,Ac,Ad,Ae,Af,Ag])
 simp only[ba];cases J:kd != 1 with
 |true=>exact aa.pos rfl (aa.pos (by simp) (aa.some ⟨0,rfl,rfl⟩))
 | false =>
  refine aa.neg rfl (aa.call (aa.eq (Jo (c:=[.i t,.i m,.s b,.s c,.i s,.i h,.s x,.s y]))) ?_);rintro _ rfl
  (dsimp +instances only[Aa,Ab,Ac,Ad,Ae,Af,Ag])
  have d:aU [.int .i64,.int .i64,.str,.str,.int .i64,.int .i64,.str,.str] (gC [.i t,.i m,.s b,.s c,.i s,.i h,.s x,.s y])=gC [.i t,.i m,.s b,.s c,.i s,.i h,.s x,.s y]:=rfl;rw[d];cases M:du [.int .i64,.int .i64,.str,.str,.int .i64,.int .i64,.str,.str] bT (gC [.i t,.i m,.s b,.s c,.i s,.i h,.s x,.s y])with
  |true=>exact aa.pos rfl (aa.pos (by simp only[sl]; simp; omega) (aa.pos (by simp) (aa.some ⟨0,rfl,rfl⟩)))
  | false =>
   refine aa.neg rfl (aa.call (aa.eq (Jo (c:=[.i t,.i m,.s b,.s c,.i s,.i h,.s x,.s y]))) ?_);rintro _ rfl
   (dsimp +instances only[Aa,Ab,Ac,Ad,Ae,Af,Ag])
   rw[d];exact aa.pos (by simp only[sl]; simp; omega) (aa.pos (by simp) (aa.some ⟨1,rfl,rfl⟩))
end
theorem mr{β:Type}{Q:β→Prop}{c:Bool}{t:Option (Option Nat × List G)}{k:Nat→List G→Option β}{R:List G}(h:aa t fun o=>∃ x,o.1=some x∧o.2=R)(d:c=true)(hk:∀ x,aa (k x R) Q):aa (aO c (cf t) k) Q :=
 aa.tail (P:=fun _ g=>g=R) h d fun x g hg=>by rw[hg]; exact hk x
def qw(rows:List (List G))(s:List (List G) × List (List G) × List (List G) × Nat)(z:List G):List (List G) × List (List G) × List (List G) × Nat :=
 yq (gi (jl rows z) 3).int (gi z 0).int (cz (jl rows z)) (jl rows z) s
theorem ajo(rows n dd:List (List G))(s:List (List G) × List (List G) × List (List G) × Nat)(B:List (List G) × Nat)(i j:Nat)(hr:∀ z∈rows,cu z)(V:n.length≤1000)(hi:i<n.length)(N:n.getD i []=[.i (j:Int)])(O:j<rows.length)
  (h1:s.1.length≤900) (I:s.2.1.length≤900) (U:dd.length≤900) :
  aa (uE [.l dd,.l s.1,.l [],.l s.2.1,.l B.1,.i (B.2:Int),.l s.2.2.1,.i (s.2.2.2:Int),.l rows,.l n,.i (n.length:Int),.i (i:Int)]) fun o =>
   o=(none,[.l (dd++[rows.getD j []]),.l (qw rows s [.i (j:Int)]).1,.l [],.l (qw rows s [.i (j:Int)]).2.1,.l (yp B (rows.getD j [])).1,.i ((yp B (rows.getD j [])).2:Int),.l (qw rows s [.i (j:Int)]).2.2.1,.i ((qw rows s [.i (j:Int)]).2.2.2:Int),.l rows,.l n,.i (n.length:Int),.i ((i:Int)+1)]):=by
 obtain⟨cs,ot,bT,iI⟩:=s;obtain⟨held,ck⟩:=B;have M:=hr _ (rS O);unfold qw;rw[show jl rows [.i (j:Int)]=rows.getD j [] from rfl];unfold uE
 (dsimp +instances only[Aa,Ab,Ac,Ad,Ae,Af,Ag])
 simp only[ba,N]
 (dsimp +instances only[Aa,Ab,Ac,Ad,Ae,Af,Ag])
 simp only[ba];generalize rows.getD j []=d at M;obtain⟨si,no,at_,kd,t,m,b,c,s,h,x,y,bd,a_,qv,rfl,W⟩:=M;rw[show aU aF (mg si no at_ kd t m b c s h x y bd a_ qv)=mg si no at_ kd t m b c s h x y bd a_ qv from rfl];unfold yp;simp only[mg,cz]
 (dsimp +instances only[Aa,Ab,Ac,Ad,Ae,Af,Ag])
 have q:aw ((i:Int)+1)=true:=by(first|rfl|assumption|(simp only[aw,sl]<;>omega))
 have h1:cs.length≤1000:=by simp only at h1; omega
 have I:ot.length≤1000:=by simp only at I; omega
 generalize J:yq kd (j:Int) [.i t,.i m,.s b,.s c,.i s,.i h,.s x,.s y] [.s si,.i no,.i at_,.i kd,.i t,.i m,.s b,.s c,.i s,.i h,.s x,.s y,.s bd,.s a_,.i qv] (cs,ot,bT,iI)=S;refine aa.p (aa.p (aa.p (aa.pos (by simp only[sl]; simp; omega) ?_)));cases U:kd==3 with
 | true =>
  refine aa.pos rfl (mr (Jp S J h1 I) (by simp) fun k=>?_)
  (dsimp +instances only[Aa,Ab,Ac,Ad,Ae,Af,Ag])
  simp only[ba];cases ab k 0 with
  | true =>
   refine aa.pos rfl (mr ⟨_,uX q,0,rfl,rfl⟩ (by simp) fun _=>?_)
   (dsimp +instances only[Aa,Ab,Ac,Ad,Ae,Af,Ag])
   simp only[ba];exact aa.pos (by simp) (aa.some rfl)
  | false =>
   refine aa.neg rfl (mr ⟨_,uX q,0,rfl,rfl⟩ (by simp) fun _=>?_)
   (dsimp +instances only[Aa,Ab,Ac,Ad,Ae,Af,Ag])
   simp only[ba];exact aa.pos (by simp) (aa.some rfl)
 | false =>
  refine aa.neg rfl ?_;have fin:∀ f:Bool,(bif f then (rA dU held [.s si,.i s],ck) else (held,ck))=((bif f then rA dU held [.s si,.i s] else held),ck):=fun f=>by cases f<;>rfl
  cases h4:kd==4 with
  | true =>
   refine aa.pos rfl (mr ⟨_,T5 true,0,rfl,rfl⟩ (by simp) fun _=>?_)
   (dsimp +instances only[Aa,Ab,Ac,Ad,Ae,Af,Ag])
   simp only[ba];refine mr (Jp S J h1 I) (by simp) fun k=>?_
   (dsimp +instances only[Aa,Ab,Ac,Ad,Ae,Af,Ag])
   simp only[ba];cases ab k 0 with
   | true =>
    refine aa.pos rfl (mr ⟨_,uX q,0,rfl,rfl⟩ (by simp) fun _=>?_)
    (dsimp +instances only[Aa,Ab,Ac,Ad,Ae,Af,Ag])
    simp only[ba];exact aa.pos (by simp) (aa.some rfl)
   | false =>
    refine aa.neg rfl (mr ⟨_,uX q,0,rfl,rfl⟩ (by simp) fun _=>?_)
    (dsimp +instances only[Aa,Ab,Ac,Ad,Ae,Af,Ag])
    simp only[ba];exact aa.pos (by simp) (aa.some rfl)
  | false =>
   rw[mH,fin];simp only[cond_false];refine mr ⟨_,T5 (kd==1),0,rfl,rfl⟩ (by simp) fun _=>?_
   (dsimp +instances only[Aa,Ab,Ac,Ad,Ae,Af,Ag])
   simp only[ba];refine mr (Jp S J h1 I) (by simp) fun k=>?_
   (dsimp +instances only[Aa,Ab,Ac,Ad,Ae,Af,Ag])
   simp only[ba];cases ab k 0 with
   | true =>
    refine aa.pos rfl (mr ⟨_,uX q,0,rfl,rfl⟩ (by simp) fun _=>?_)
    (dsimp +instances only[Aa,Ab,Ac,Ad,Ae,Af,Ag])
    simp only[ba];exact aa.pos (by simp) (aa.some rfl)
   | false =>
    refine aa.neg rfl (mr ⟨_,uX q,0,rfl,rfl⟩ (by simp) fun _=>?_)
    (dsimp +instances only[Aa,Ab,Ac,Ad,Ae,Af,Ag])
    simp only[ba];exact aa.pos (by simp) (aa.some rfl)
def so(s:List (List G) × List (List G) × List (List G) × Nat)(l:List (List G) × List (List G)):Prop:=s.1=l.1.map cz∧s.2.1=l.2∧lz s.2.2.1 l.1
theorem so.nil:so ([],[],[],0) ([],[]):=⟨rfl,rfl,lz.nil⟩
theorem so.step{rows:List (List G)}{s:List (List G) × List (List G) × List (List G) × Nat}{l:List (List G) × List (List G)}(h:so s l){j:Nat}:so (qw rows s [.i (j:Int)]) (yo rows l [.i (j:Int)]):=by
 obtain⟨h1,q,k⟩:=h;unfold qw yq yo;generalize jl rows [.i (j:Int)]=d;obtain⟨B,J⟩:=k (cz d);have B:du [.int .i64,.int .i64,.str,.str,.int .i64,.int .i64,.str,.str] s.2.2.1 (gC (cz d))=uV l.1 d:=B;cases (gi d 3).int != 1 with
 |true=>exact⟨h1,q,k⟩
 | false =>
  simp only[cond_false];rw[B];cases I:uV l.1 d with
  |true=>exact⟨h1,by simp only[cond_true]; rw[q]; rfl,k⟩
  |false=>exact⟨by simp only[cond_false]; rw[h1,iP]; rfl,q,k.put I _⟩
theorem ajp(rows n:List (List G))(hr:∀ z∈rows,cu z)(hn:yn rows n)(O:n.length≤800) :
  gN uE [.l [],.l [],.l [],.l [],.l [],.i 0,.l [],.i 0,.l rows,.l n,.i (n.length:Int),.i 0] fun c g=>∃ m iI,lz m (gQ rows n).1 ∧
   g=[.l (n.map (jl rows)),.l ((gQ rows n).1.map cz),.l [],.l (gQ rows n).2,.l (uW (n.map (jl rows))).1,.i ((uW (n.map (jl rows))).2:Int),.l m,.i ((iI:Nat):Int)]:=by
 refine(Bv (σ:=List (List G) × (List (List G) × List (List G) × List (List G) × Nat) × (List (List G) × Nat)) (fun s i=>[.l s.1,.l s.2.1.1,.l [],.l s.2.1.2.1,.l s.2.2.1,.i (s.2.2.2:Int),.l s.2.1.2.2.1,.i (s.2.1.2.2.2:Int),.l rows,.l n,.i (n.length:Int),.i (i:Int)]) n
  (fun s=>(0,[.l s.1,.l s.2.1.1,.l [],.l s.2.1.2.1,.l s.2.2.1,.i (s.2.2.2:Int),.l s.2.1.2.2.1,.i (s.2.1.2.2.2:Int)]))
  (fun s i=>s.1=(n.take i).map (jl rows)∧so s.2.1 (gQ rows (n.take i))∧s.2.2=uW ((n.take i).map (jl rows))) ([],([],[],[],0),([],0)) (by omega) ⟨rfl,so.nil,rfl⟩ ?_ ?_).mono ?_
 ·rintro ⟨dd, s, q⟩ i z ⟨i1, i2, i3⟩ hi B hm d
  simp only at i1 i2 i3;obtain⟨j,rfl,I⟩:=hn z hm;have k:=Jl hn i (by omega);have l1:=k.CF;have l2:=k.T0;have J:s.1.length≤900:=by rw[i2.1,cD]; omega
  have M:s.2.1.length≤900:=by rw[i2.2.1]; omega
  have N:dd.length≤900:=by rw[i1,cD,jq]; omega
  refine(ajo rows n dd s q i j hr (by omega) hi B I J M N).mono ?_;rintro _ rfl;refine⟨(dd++[rows.getD j []],qw rows s [.i (j:Int)],yp q (rows.getD j [])),rfl,?_,?_,?_⟩
  ·simp only
   rw[d,iP,i1];rfl
  ·simp only
   rw[d];unfold gQ at i2⊢;rw[ze];exact i2.step
  ·simp only
   rw[d,iP,i3];unfold uW;rw[ze];rfl
 ·rintro ⟨dd, ⟨cs, ot, m, iI⟩, ⟨held, ck⟩⟩ _
  unfold uE
  (dsimp +instances only[Aa,Ab,Ac,Ad,Ae,Af,Ag])
  simp only[ba];exact aa.n (aa.pos (by simp) (aa.some rfl))
 ·rintro c g ⟨⟨dd, ⟨cs, ot, m, iI⟩, ⟨held, ck⟩⟩, ⟨i1, ⟨i2, i3, i4⟩, i5⟩, rfl, rfl⟩
  rw[KC]at i1 i2 i3 i4 i5;simp only at i1 i2 i3 i4 i5⊢;refine⟨m,iI,i4,?_⟩;rw[←i5,←i1,←i2,←i3]
theorem jm.same{rows:List (List G)}{k:Nat}{s:List (List G) × List (List G)}(h:jm rows k s){a b:List G}(ha:a∈s.1)(hb:b∈s.1)(e:fX a b=0):a=b:=by
 refine h.zero a ha b hb ?_ ?_
 ·unfold bM
  rw[dD,decide_eq_false_iff_not];omega
 ·unfold bM
  have:fX b a = - fX a b:=uU _ _;rw[dD,decide_eq_false_iff_not];omega
theorem lz.site{rows:List (List G)}{k:Nat}{s:List (List G) × List (List G)}(h:jm rows k s){m:List (List G)}(hm:lz m s.1){d:List G}(B:d∈s.1):bZ [.int .i64,.int .i64,.str,.str,.int .i64,.int .i64,.str,.str] m (gC (cz d)) zD=d:=by
 refine(hm (cz d)).2 d ?_;cases q:s.1.find? fun o=>cP (cz o) (cz d)==0 with
 | none =>
  have:=KB.1 q d B;have e:cP (cz d) (cz d)=0:=sn.2 ⟨rfl,rfl,rfl,rfl⟩;rw[e]at this;simp at this
 | some o =>
  have h1:=List.mem_of_find?_eq_some q;have I:=List.find?_some q;simp only[beq_iff_eq]at I;rw[h.same h1 B I]
def uY(d:List G):List G:=[.s (gi d 0).str]
theorem ajq(rows J bT:List (List G)){k:Nat}{ot:List (List G)}(U:jm rows k (J,ot))(hr:∀ z∈rows,cu z)(hm:lz bT J)(q:List (List G))(hs:∀ d∈q,d∈J)(hl:q.length≤800)(dd I held:List (List G))(ck iI:Nat) :
  gN xP [.l dd,.l (q.map cz),.l [],.l I,.l held,.i (ck:Int),.l bT,.i (iI:Int),.i (q.length:Int),.i 0] fun c g=>g=[.l dd,.l (q.map cz),.l (q.map uY),.l I,.l held,.i (ck:Int)]:=by
 refine(Bv (σ:=List (List G)) (fun s i=>[.l dd,.l (q.map cz),.l s,.l I,.l held,.i (ck:Int),.l bT,.i (iI:Int),.i (q.length:Int),.i (i:Int)]) q (fun s=>(0,[.l dd,.l (q.map cz),.l s,.l I,.l held,.i (ck:Int)])) (fun s i=>s=(q.take i).map uY) [] (by omega) rfl ?_ ?_).mono ?_
 ·rintro s i d B hi M W ht
  have en:(q.take (i+1)).map uY=s++[uY d]:=by rw[ht,iP,B]; rfl
  have hsl:s.length≤800:=by rw[B,cD,jq]; omega
  have hc:(q.map cz).getD i []=cz d:=by
   rw[bz,List.getElem?_map,bf hi];rw[bz,bf hi]at M;simp only[Option.getD_some]at M;simp[M]
  have N:(q.map cz).length=q.length:=cD _;have O:d∈J:=hs d W;have V:=(U.T3 hr d O).jk;unfold xP
  (dsimp +instances only[Aa,Ab,Ac,Ad,Ae,Af,Ag])
  simp only[ba,di,hc,V.eta];refine aa.p (aa.pos (by rw[N]; (first|rfl|assumption|(simp only[aw,sl]<;>omega))) (aa.pos (by rw[N]; (first|rfl|assumption|(simp only[aw,sl]<;>omega))) ?_));refine aa.cE (Jo (c:=cz d)) ?_
  (dsimp +instances only[Aa,Ab,Ac,Ad,Ae,Af,Ag])
  have ek:aU [.int .i64,.int .i64,.str,.str,.int .i64,.int .i64,.str,.str] (gC (cz d))=gC (cz d):=rfl;have es:bZ [.int .i64,.int .i64,.str,.str,.int .i64,.int .i64,.str,.str] bT (gC (cz d)) [.s (⟨#[]⟩:ByteArray),.i 0,.i 0,.i 0,.i 0,.i 0,.s (⟨#[]⟩:ByteArray),.s (⟨#[]⟩:ByteArray),.i 0,.i 0,.s (⟨#[]⟩:ByteArray),.s (⟨#[]⟩:ByteArray),.s (⟨#[]⟩:ByteArray),.s (⟨#[]⟩:ByteArray),.i 0]=d:=lz.site U hm O;rw[ek,es];exact aa.pos (by simp only[sl]; simp; omega) (aa.p (aa.pos (by simp) (aa.some ⟨s++[uY d],rfl,en.symm⟩)))
 ·rintro s _
  unfold xP
  (dsimp +instances only[Aa,Ab,Ac,Ad,Ae,Af,Ag])
  simp only[ba];exact aa.n (aa.pos (by simp) (aa.some rfl))
 ·rintro c g ⟨s, B, rfl, rfl⟩
  rw[KC]at B;rw[B]
def lA(rows:List (List G))(t:Int):List (List G):=Jm (gQ rows (cA t 0 rows)).1
def Jq(rows:List (List G))(t:Int):List (List G):=(gQ rows (cA t 0 rows)).2
theorem ajr(rows:List (List G))(t:Int):(lA rows t).length≤rows.length:=by
 have:=(CG (CE t rows)).CF;have h:=yk t 0 rows;unfold lA;rw[T4];omega
theorem CH{rows:List (List G)}{t:Int}{d:List G}(h:d∈lA rows t):d∈rows∧(gi d 3).int=1 :=
 (CG (CE t rows)).mem d ((ny (lt:=bM fX) _).mem_iff.1 h)
theorem ajs(d:List (List G)):eu (bM cP) (d.map cz)=(Jm d).map cz:=ajm cz (fun _ _=>rfl) d
theorem ajt(rows:List (List G))(t:Int)(hr:∀ z∈rows,cu z)(hn:rows.length≤20) :
  B9 [.l rows,.i t]=some [.l (Jn rows t),.l ((lA rows t).map cz),.l ((lA rows t).map uY),.l (Jq rows t),.l (uW (Jn rows t)).1,.i ((uW (Jn rows t)).2:Int),.i 0]:=by
 have M:=CE t rows;have U:=yk t 0 rows;have B:=CG M;have h1:=B.CF;refine aa.toEq ?_;unfold B9
 (dsimp +instances only[Aa,Ab,Ac,Ad,Ae,Af,Ag])
 refine aa.cE (ajf rows t hr (by omega)) ?_
 (dsimp +instances only[Aa,Ab,Ac,Ad,Ae,Af,Ag])
 refine aa.loop (ajp rows (cA t 0 rows) hr M (by omega)) (by simp) ?_;rintro _ _ ⟨m,iI,hm,rfl⟩
 (dsimp +instances only[Aa,Ab,Ac,Ad,Ae,Af,Ag])
 simp only[ba];have I:((gQ rows (cA t 0 rows)).1.map cz).length=(gQ rows (cA t 0 rows)).1.length:=cD _;refine aa.neg (by rw[dD,decide_eq_false_iff_not,I]; omega) ?_;have N:B8 [.l ((gQ rows (cA t 0 rows)).1.map cz)]=some [.l ((lA rows t).map cz)]:=by
  have h:=OP (C:=qk) (Q:=dT) aiC.sgn (ajk.mono fun _ _=>trivial) ((gQ rows (cA t 0 rows)).1.map cz) (fun y O=>by
   obtain⟨d,q,rfl⟩:=cF.1 O;exact(B.T3 hr d q).jk) (by omega) (fun a ha b hb g1 g2=>by
   obtain⟨d,q,rfl⟩:=cF.1 ha;obtain⟨e,he,rfl⟩:=cF.1 hb;rw[B.zero d q e he g1 g2])
  rw[ajs]at h;exact h
 refine aa.nt (aa.eq N) (by simp) ?_;rintro _ rfl
 (dsimp +instances only[Aa,Ab,Ac,Ad,Ae,Af,Ag])
 have J:(lA rows t).length=(gQ rows (cA t 0 rows)).1.length:=T4 _;rw[I,←J];refine aa.loop (ajq rows (gQ rows (cA t 0 rows)).1 m (k:=(cA t 0 rows).length) (ot:=(gQ rows (cA t 0 rows)).2) B hr hm (lA rows t) (fun d q=>(ny (lt:=bM fX) _).mem_iff.1 q) (by omega) _ _ _ _ _) (by simp[J]) ?_;rintro _ _ rfl
 (dsimp +instances only[Aa,Ab,Ac,Ad,Ae,Af,Ag])
 simp only[ba];exact aa.pos (by simp) (aa.some rfl)
theorem aju(rows:List (List G))(t:Int)(hr:∀ z∈rows,cu z)(hn:rows.length≤20) :
  B_ [.l rows,.i t]=some (bif sk rows t != 0 then [.l [],.l [],.i (sk rows t)] else [.l ((lA rows t).map cz),.l (Jq rows t),.i 0]):=by
 refine aa.toEq ?_;unfold B_
 (dsimp +instances only[Aa,Ab,Ac,Ad,Ae,Af,Ag])
 refine aa.cE (ajj rows t hr hn) ?_
 (dsimp +instances only[Aa,Ab,Ac,Ad,Ae,Af,Ag])
 cases h:sk rows t != 0 with
 |true=>exact aa.pos rfl (aa.pos rfl (aa.some rfl))
 | false =>
  refine aa.neg rfl (aa.call (aa.eq (ajt rows t hr hn)) ?_);rintro _ rfl
  (dsimp +instances only[Aa,Ab,Ac,Ad,Ae,Af,Ag])
  exact aa.neg rfl (aa.some rfl)
theorem ajv(rows:List (List G))(t:Int):(lA rows t).Pairwise fun a b=>fX a b<0:=by
 have k:=CG (CE t rows);have h1:=xo (lt:=bM fX) ajl (l:=(gQ rows (cA t 0 rows)).1) (fun _ _=>trivial);have q:(lA rows t).Pairwise fun a b=>fX a b≠0:=(ny (lt:=bM fX) (gQ rows (cA t 0 rows)).1).symm.pairwise k.apart (fun {x y} h e=>h (by
  have:fX x y = - fX y x:=uU _ _;omega))
 refine(amQ h1 q).imp fun {a b} h=>?_;obtain⟨d,B⟩:=h;unfold bM at d;rw[dD,decide_eq_false_iff_not]at d;have:fX b a = - fX a b:=uU _ _;omega
theorem ajw{d:List G}(h:kL d=0)(hk:(gi d 3).int=1):dF (cz d)=0:=by
 unfold kL at h;rw[hk]at h;cases h1:mn (gi d 0).str with
 |false=>rw[h1]at h; cases h
 |true =>
 cases q:ch (gi d 1).int 1 1000000 with
 |false=>rw[h1,q]at h; cases h
 |true =>
 cases I:ch (gi d 2).int 0 345686399999 with
 |false=>rw[h1,q,I]at h; cases h
 |true =>
 rw[h1,q,I]at h;cases k:dF (qt d) != 0 with
 | true =>
  rw[k]at h;have B:dF (qt d)=0:=h;rw[B]at k;cases k
 | false =>
  have B:dF (qt d)=0:=by simpa using k
  exact B
theorem T6:∀{l:List (List G)} {y:List G},(∀ x∈l,dF x=0)→(y::l).Pairwise (fun a b=>cP a b<0)→eH (some y) l=0
 | [],_,_,_=>by unfold eH; rfl
 | x::q,y,h1,d=>by
  obtain⟨k,B⟩:=List.pairwise_cons.1 d;have J:=k x cU;unfold eH;rw[if_neg (by rw[h1 x cU]; simp),if_neg (by omega)];exact T6 (fun z I=>h1 z (dw _ I)) B
theorem ajx{l:List (List G)}(hn:l.length≤2000)(h1:∀ x∈l,dF x=0)(d:l.Pairwise (fun a b=>cP a b<0)):gO l=0:=by
 unfold gO;rw[if_neg (by omega)];cases l with
 |nil=>unfold eH; rfl
 | cons x q =>
  unfold eH;rw[if_neg (by rw[h1 x cU]; simp)];exact T6 (fun z k=>h1 z (dw _ k)) d
def mu(rows:List (List G))(t:Int):List (List G):=(lA rows t).map cz
theorem T7(rows:List (List G))(t:Int):(mu rows t).length≤rows.length:=by
 unfold mu;rw[cD];exact ajr rows t
theorem ajy(rows:List (List G))(t:Int):(mu rows t).Pairwise (fun a b=>cP a b<0):=by
 unfold mu;rw[List.pairwise_map];exact ajv rows t
section
variable (rows:List (List G)) (t:Int) (hr:∀ z∈rows,cu z) (hn:rows.length≤20)
include hr hn
theorem ajz:∀ z∈mu rows t,dT z:=fun z k=>by
 obtain⟨d,q,rfl⟩:=cF.1 k;exact(hr d (CH q).1).jk
theorem ajA(bF:j_ rows):gO (mu rows t)=0:=by
 have h1:=T7 rows t;refine ajx (by omega) (fun x q=>?_) (ajy rows t);obtain⟨d,k,rfl⟩:=cF.1 q;have B:∀ z∈rows,kL z=0:=fun z I=>by
  obtain⟨i,hi,rfl⟩:=List.mem_iff_getElem.1 I;have:=bF.1.1 i hi
  rwa [bz,bf hi]at this
 exact ajw (B d (CH k).1) (CH k).2
end
end
end Go.Proofs.gl
