/-
 What is proved here: what the methods of the stream give on data. No condition.
-/
import Derived.Test.YtopnkdaoanlaiaaGreatDoorML4
import Derived.Test.YtopnkdaoanlaiaaGreatDoorME
import Derived.Test.YtopnkdaoanlaiaaGreatDoorMI
set_option linter.all false
open Bool renaming and_true→dZ,and_eq_true→aw,true_and→iY,or_eq_true→lW,false_or→jF,eq_iff_iff→j7,and_self→lY
open Go.ByteArray renaming toList_eq→yt
open Go.Lib renaming compareBytes→fu
open Int renaming toNat_natCast→aR,tdiv→yq,tmod→yr,tmod_lt_of_pos→aiI,tmod_eq_emod_of_nonneg→aiJ,mul_nonneg→aiK
open List renaming length_cons→di,all_eq_true→dX,getElem?_eq_getElem→bE,getD_eq_getElem?_getD→cH,mem_cons→bI,map_cons→dA,mem_cons_self→cZ,mem_cons_of_mem→cU,any_eq_true→jE,mem_singleton→gA,length_nil→kY,not_mem_nil→iL,any_cons→yu,nodup_append→yv,getElem?_take_of_lt→aiM,length_reverse→aiP,reverse_cons→aiQ,drop_length→aiR
open Nat renaming le_refl→aI,beq→ab,ble→cR,ble_eq→yi,lt_succ_of_lt→lZ
open UInt8 renaming le_antisymm→I7,not_lt→sd,lt_irrefl→Tr,lt_trans→aiL
namespace Go.Proofs.gq
open Go Go.AL Go.Proofs
noncomputable section
theorem HV(x n:Int)(h0:1≤n)(h1:n≤1099511627776):aa (tQ [.i x,.i n]) fun g=>∃ v,g=[.i v]∧0≤v∧v<n:=by
 unfold tQ
 (dsimp +instances only[Aa,Ab,Ac,Ad,Ae,Af,Ag])
 have d:=aiI x (by omega:0<n);have k:=Int.lt_tmod_of_pos x (by omega:0<n)
 (repeat first|refine aa.p ?_|refine aa.n ?_)
 refine aa.test (fun h=>?_) fun h=>?_
 ·simp only [dT, decide_eq_true_eq] at h
  (repeat first|refine aa.p ?_|refine aa.n ?_)
  exact aa.some ⟨_,rfl,by omega,by omega⟩
 ·simp only [dT, decide_eq_false_iff_not] at h
  exact aa.some ⟨_,rfl,by omega,by omega⟩
theorem uf(l:List (List G))(a n:Int)(d:0≤a)(M:a≤1000000)(h0:1≤n)(h1:n≤1099511627776) :
  aa (nL [.l l,.i a,.i n]) fun g=>∃ v,g=[.l l,.i (a+1),.i v]∧0≤v∧v<n:=by
 unfold nL
 (dsimp +instances only[Aa,Ab,Ac,Ad,Ae,Af,Ag])
 have F:a+1-1=a:=by omega
 simp only[F];by_cases N:l.length=0
 ·(repeat first|refine aa.p ?_|refine aa.n ?_)
  refine aa.call (HV _ n h0 h1) ?_;rintro _ ⟨v,rfl,k,A⟩
  (dsimp +instances only[Aa,Ab,Ac,Ad,Ae,Af,Ag])
  exact aa.some ⟨v,rfl,k,A⟩
 ·have I : (0 : Int) < (l.length : Int) := by omega
  have d0:0≤yq a l.length:=Int.tdiv_nonneg d (by omega);have d1:yq a l.length≤a:=by
   rw[Int.tdiv_eq_ediv_of_nonneg d];exact Int.ediv_le_self _ d
  have m0:0≤yr a l.length:=by
   rw[aiJ d];exact Int.emod_nonneg _ (by omega)
  have m1:yr a l.length<l.length:=aiI a I;have m2:yr a l.length≤a:=by
   rw[aiJ d];have:=Int.mul_ediv_add_emod a l.length;have B:0≤(l.length:Int)*(a / l.length):=aiK (by omega) (Int.ediv_nonneg d (by omega));omega
  generalize O:yq a l.length=q at *;generalize hr:yr a l.length=r at *;have p0:0≤q*(7919+r):=aiK d0 (by omega);have p1:q*(7919+r)≤1000000*2000000:=Int.mul_le_mul (by omega) (by omega) (by omega) (by omega);generalize R:q*(7919+r)=z at *
  (repeat first|refine aa.p ?_|refine aa.n ?_)
  refine aa.call (HV _ 1073741824 (by omega) (by omega)) ?_;rintro _ ⟨u,rfl,k,A⟩
  (dsimp +instances only[Aa,Ab,Ac,Ad,Ae,Af,Ag])
  (repeat first|refine aa.p ?_|refine aa.n ?_)
  refine aa.call (HV _ n h0 h1) ?_;rintro _ ⟨v,rfl,B,J⟩
  (dsimp +instances only[Aa,Ab,Ac,Ad,Ae,Af,Ag])
  exact aa.some ⟨v,rfl,B,J⟩
theorem xF(l:List (List G))(a lo hi:Int)(k:0≤a)(d:a≤1000000)(h0:lo≤hi)(h1 : -1000000000≤lo)(q:hi≤1000000000) :
  aa (pJ [.l l,.i a,.i lo,.i hi]) fun g=>∃ v,g=[.l l,.i (a+1),.i v]∧lo≤v∧v≤hi:=by
 unfold pJ
 (dsimp +instances only[Aa,Ab,Ac,Ad,Ae,Af,Ag])
 (repeat first|refine aa.p ?_|refine aa.n ?_)
 refine aa.call (uf l a _ k d (by omega) (by omega)) ?_;rintro _ ⟨v,rfl,A,B⟩
 (dsimp +instances only[Aa,Ab,Ac,Ad,Ae,Af,Ag])
 (repeat first|refine aa.p ?_|refine aa.n ?_)
 exact aa.some ⟨_,rfl,by omega,by omega⟩
theorem Rv{l:List (List G)}{v:Int}(h0:0≤v)(h1:v<l.length):l.getD v.toNat []∈l:=by
 have:v.toNat<l.length:=by omega
 rw[cH,bE this];exact List.getElem_mem this
theorem Rw(P:Int→Prop)(l:List (List G))(a:Int)(xs:List (List G))(k:0≤a)(d:a≤1000000)(h0:1≤xs.length)(h1:xs.length≤1000000)(q:∀ x∈xs,P (gi x 0).int) :
  aa (mL [.l l,.i a,.l xs]) fun g=>∃ v,g=[.l l,.i (a+1),.i v]∧P v:=by
 unfold mL
 (dsimp +instances only[Aa,Ab,Ac,Ad,Ae,Af,Ag])
 refine aa.call (uf l a _ k d (by omega) (by omega)) ?_;rintro _ ⟨v,rfl,A,B⟩
 (dsimp +instances only[Aa,Ab,Ac,Ad,Ae,Af,Ag])
 (repeat first|refine aa.p ?_|refine aa.n ?_)
 exact aa.some ⟨_,rfl,q _ (Rv A B)⟩
theorem afI(P:ByteArray→Prop)(l:List (List G))(a:Int)(xs:List (List G))(k:0≤a)(d:a≤1000000)(h0:1≤xs.length)(h1:xs.length≤1000000)(q:∀ x∈xs,P (gi x 0).str) :
  aa (gL [.l l,.i a,.l xs]) fun g=>∃ v,g=[.l l,.i (a+1),.s v]∧P v:=by
 unfold gL
 (dsimp +instances only[Aa,Ab,Ac,Ad,Ae,Af,Ag])
 refine aa.call (uf l a _ k d (by omega) (by omega)) ?_;rintro _ ⟨v,rfl,A,B⟩
 (dsimp +instances only[Aa,Ab,Ac,Ad,Ae,Af,Ag])
 (repeat first|refine aa.p ?_|refine aa.n ?_)
 exact aa.some ⟨_,rfl,q _ (Rv A B)⟩
theorem B1(l:List (List G))(a n:Int)(k:0≤a)(d:a≤1000000)(h0:1≤n)(h1:n≤1000000) :
  aa (rq [.l l,.i a,.i n]) fun g=>∃ b,g=[.l l,.i (a+1),.t b]:=by
 unfold rq
 (dsimp +instances only[Aa,Ab,Ac,Ad,Ae,Af,Ag])
 refine aa.call (uf l a _ k d (by omega) (by omega)) ?_;rintro _ ⟨v,rfl,q,A⟩;exact aa.some ⟨_,rfl⟩
theorem pM(l:List (List G))(a lo hi:Int)(B:0≤a)(I:a≤900000)(h0:lo≤hi)(h1 : -1000000000≤lo)(F:hi≤1000000000) :
  aa (lM [.l l,.i a,.i lo,.i hi]) fun g=>∃ v,g=[.l l,.i (a+2),.i v] ∧ -1099511627776≤v∧(v≤1000000001∨v=1099511627776):=by
 unfold lM
 (dsimp +instances only[Aa,Ab,Ac,Ad,Ae,Af,Ag])
 have d:a+1+1=a+2:=by omega
 refine aa.call (B1 l a 12 B (by omega) (by omega) (by omega)) ?_;rintro _ ⟨b,rfl⟩
 (dsimp +instances only[Aa,Ab,Ac,Ad,Ae,Af,Ag])
 cases b with
 | true =>
  (repeat first|refine aa.p ?_|refine aa.n ?_)
  refine aa.call (Rw (fun v => -1099511627776≤v∧(v≤1000000001∨v=1099511627776)) l (a+1) _ (by omega) (by omega) (by simp) (by simp) ?_) ?_
  ·intro x k
   simp only[bI,iL,or_false]at k;rcases k with rfl|rfl|rfl|rfl|rfl|rfl<;>(dsimp +instances only[Aa,Ab,Ac,Ad,Ae,Af,Ag])<;>omega
  ·rintro _ ⟨v, rfl, q, A⟩
   (dsimp +instances only[Aa,Ab,Ac,Ad,Ae,Af,Ag])
   exact aa.some ⟨v,by rw[d],q,A⟩
 | false =>
  (repeat first|refine aa.p ?_|refine aa.n ?_)
  refine aa.call (xF l (a+1) lo hi (by omega) (by omega) h0 h1 F) ?_;rintro _ ⟨v,rfl,q,A⟩
  (dsimp +instances only[Aa,Ab,Ac,Ad,Ae,Af,Ag])
  exact aa.some ⟨v,by rw[d],by omega,by omega⟩
def nQ(L:List ByteArray)(s:ByteArray):Bool:=L.any fun x=>tM x s
theorem afJ{L:List ByteArray}{s:ByteArray}(h:nQ L s=true):s∈L:=by
 obtain⟨x,d,he⟩:=jE.1 h;exact M7 he▸d
theorem xG(lo hi:Int)(l:List (List G))(a:Int)(xs:List (List G))(k:0≤a)(d:a≤1000000)(h0:(cR 1 xs.length&&cR xs.length 1000000)=true) (q:(xs.all fun x=>bM lo (gi x 0).int&&bM (gi x 0).int hi)=true) :
  aa (mL [.l l,.i a,.l xs]) fun g=>∃ v,g=[.l l,.i (a+1),.i v]∧lo≤v∧v≤hi:=by
 simp only[aw,yi]at h0;refine Rw (fun v=>lo≤v∧v≤hi) l a xs k d h0.1 h0.2 fun x A=>?_;have:=dX.1 q x A;simpa only[er,aw,decide_eq_true_eq]using this
theorem jv(L:List ByteArray)(l:List (List G))(a:Int)(xs:List (List G))(k:0≤a)(d:a≤1000000)(h0:(cR 1 xs.length&&cR xs.length 1000000)=true) (q:(xs.all fun x=>nQ L (gi x 0).str)=true) :
  aa (gL [.l l,.i a,.l xs]) fun g=>∃ v,g=[.l l,.i (a+1),.s v]∧v∈L:=by
 simp only[aw,yi]at h0;exact afI (fun v=>v∈L) l a xs k d h0.1 h0.2 fun x A=>afJ (dX.1 q x A)
def calls:List ByteArray:=[⟨#[]⟩,⟨#[107,49]⟩,⟨#[75,49,65,66]⟩,⟨#[107,49,97,98,47]⟩,⟨#[49,97]⟩,⟨#[107,49,97,98,47,109,109,47,112]⟩,⟨#[107,49,97,98]⟩,⟨#[107,49,97,97]⟩,⟨#[107,49,97,98,47,52]⟩,
 ⟨#[111,104,50,97,98,99]⟩,⟨#[111,104,50,97,98,100]⟩,⟨#[119,49,97,119]⟩,⟨#[110,49,109,109]⟩,⟨#[103,51,120,121,122,47,112]⟩]
def gM:List ByteArray:=[⟨#[]⟩,⟨#[66]⟩,⟨#[98,50,48]⟩,⟨#[98,52,48]⟩]
def names:List ByteArray:=[⟨#[]⟩,⟨#[65]⟩,⟨#[49]⟩,⟨#[102,105,110]⟩,⟨#[117,115,97]⟩]
def small(n:Int):Prop := -2000000000000≤n∧n≤2000000000000
def iS(r:List G):Prop:=∃(t m:Int) (b c:ByteArray) (s h:Int) (x y:ByteArray),r=[.i t,.i m,.s b,.s c,.i s,.i h,.s x,.s y]∧small t∧small m∧small s∧small h∧b∈gM∧c∈calls∧x∈names∧y∈names
def tight(n:Int):Prop := -1900000000000≤n∧n≤1900000000000
def rK(n:Int):Prop := -1900000000000≤n∧(n≤345000000000∨(345686399999<n∧n≤1900000000000))
def HW(r:List G):Prop:=∃(t m:Int) (b c:ByteArray) (s h:Int) (x y:ByteArray),r=[.i t,.i m,.s b,.s c,.i s,.i h,.s x,.s y]∧rK t∧tight m∧tight s∧tight h∧b∈gM∧c∈calls∧x∈names∧y∈names
theorem tight.to{n:Int}(h:tight n):small n:=⟨by have:=h.1; omega,by have:=h.2; omega⟩
theorem rK.to{n:Int}(h:rK n):small n:=by
 unfold rK at h;exact⟨by omega,by omega⟩
theorem HW.to{r:List G}(h:HW r):iS r:=by
 obtain⟨t,m,b,c,s,h,x,y,e,h1,d,g,k,q⟩:=h;exact⟨t,m,b,c,s,h,x,y,e,h1.to,d.to,g.to,k.to,q⟩
theorem iS.eta{r:List G}(h:iS r):bh [.int .i64,.int .i64,.str,.str,.int .i64,.int .i64,.str,.str] r=r:=by
 obtain⟨t,m,b,c,s,h,x,y,rfl,_⟩:=h;rfl
theorem afK(l:List (List G))(a:Int)(k:0≤a)(q:a≤900000):aa (Bc [.l l,.i a]) fun g=>∃ v,g=[.l l,.i (a+2),.s v]∧v∈calls:=by
 unfold Bc
 (dsimp +instances only[Aa,Ab,Ac,Ad,Ae,Af,Ag])
 have d:a+1+1=a+2:=by omega
 refine aa.call (B1 l a 60 k (by omega) (by omega) (by omega)) ?_;rintro _ ⟨b,rfl⟩
 (dsimp +instances only[Aa,Ab,Ac,Ad,Ae,Af,Ag])
 cases b with
 | true =>
  (repeat first|refine aa.p ?_|refine aa.n ?_)
  refine aa.call (jv calls l (a+1) _ (by omega) (by omega) (by kernel_rfl) (by kernel_rfl)) ?_;rintro _ ⟨v,rfl,h⟩;exact aa.some ⟨v,by(dsimp +instances only[Aa,Ab,Ac,Ad,Ae,Af,Ag]); rw[d],h⟩
 | false =>
  (repeat first|refine aa.p ?_|refine aa.n ?_)
  refine aa.call (jv calls l (a+1) _ (by omega) (by omega) (by kernel_rfl) (by kernel_rfl)) ?_;rintro _ ⟨v,rfl,h⟩;exact aa.some ⟨v,by(dsimp +instances only[Aa,Ab,Ac,Ad,Ae,Af,Ag]); rw[d],h⟩
theorem afL(l:List (List G))(a t:Int)(R:0≤a)(ha1:a≤800000)(d:rK t) :
  aa (Bd [.l l,.i a,.i t]) fun g=>∃ b r,g=[.l l,.i b,.l [r]]∧a≤b∧b≤a+20∧HW r:=by
 unfold rK at d;unfold Bd
 (dsimp +instances only[Aa,Ab,Ac,Ad,Ae,Af,Ag])
 refine aa.call (xG 1 3 l a _ R (by omega) (by kernel_rfl) (by kernel_rfl)) ?_;rintro _ ⟨m,rfl,hm⟩
 (dsimp +instances only[Aa,Ab,Ac,Ad,Ae,Af,Ag])
 refine aa.call (jv gM l _ _ (by omega) (by omega) (by kernel_rfl) (by kernel_rfl)) ?_;rintro _ ⟨bd,rfl,q⟩
 (dsimp +instances only[Aa,Ab,Ac,Ad,Ae,Af,Ag])
 refine aa.call (afK l _ (by omega) (by omega)) ?_;rintro _ ⟨c,rfl,hc⟩
 (dsimp +instances only[Aa,Ab,Ac,Ad,Ae,Af,Ag])
 refine aa.call (xG 0 7 l _ _ (by omega) (by omega) (by kernel_rfl) (by kernel_rfl)) ?_;rintro _ ⟨s,rfl,hs⟩
 (dsimp +instances only[Aa,Ab,Ac,Ad,Ae,Af,Ag])
 refine aa.call (xG 0 9 l _ _ (by omega) (by omega) (by kernel_rfl) (by kernel_rfl)) ?_;rintro _ ⟨h,rfl,hh⟩
 (dsimp +instances only[Aa,Ab,Ac,Ad,Ae,Af,Ag])
 refine aa.call (jv names l _ _ (by omega) (by omega) (by kernel_rfl) (by kernel_rfl)) ?_;rintro _ ⟨x,rfl,A⟩
 (dsimp +instances only[Aa,Ab,Ac,Ad,Ae,Af,Ag])
 refine aa.call (jv names l _ _ (by omega) (by omega) (by kernel_rfl) (by kernel_rfl)) ?_;rintro _ ⟨y,rfl,B⟩
 (dsimp +instances only[Aa,Ab,Ac,Ad,Ae,Af,Ag])
 refine aa.call (B1 l _ 100 (by omega) (by omega) (by omega) (by omega)) ?_;rintro _ ⟨f,rfl⟩
 (dsimp +instances only[Aa,Ab,Ac,Ad,Ae,Af,Ag])
 cases f with
 | false =>
  (repeat first|refine aa.p ?_|refine aa.n ?_)
  exact aa.some ⟨_,_,rfl,by omega,by omega,t,m,bd,c,s,h,x,y,rfl,d,⟨by omega,by omega⟩,⟨by omega,by omega⟩,⟨by omega,by omega⟩,q,hc,A,B⟩
 | true =>
  (repeat first|refine aa.p ?_|refine aa.n ?_)
  refine aa.call (uf l _ 4 (by omega) (by omega) (by omega) (by omega)) ?_;rintro _ ⟨k,rfl,hk⟩
  (dsimp +instances only[Aa,Ab,Ac,Ad,Ae,Af,Ag])
  by_cases F:k=0
  ·subst F
   (repeat first|refine aa.p ?_|refine aa.n ?_)
   refine aa.call (pM l _ 0 500 (by omega) (by omega) (by omega) (by omega) (by omega)) ?_;rintro _ ⟨t',rfl,ht'⟩
   (dsimp +instances only[Aa,Ab,Ac,Ad,Ae,Af,Ag])
   refine aa.call (pM l _ 1 3 (by omega) (by omega) (by omega) (by omega) (by omega)) ?_;rintro _ ⟨m',rfl,hm'⟩
   (dsimp +instances only[Aa,Ab,Ac,Ad,Ae,Af,Ag])
   exact aa.some ⟨_,_,rfl,by omega,by omega,t',m',bd,c,s,h,x,y,rfl,⟨by omega,by omega⟩,⟨by omega,by omega⟩,⟨by omega,by omega⟩,⟨by omega,by omega⟩,q,hc,A,B⟩
  ·refine aa.neg (by simpa using F) ?_
   by_cases I:k=1
   ·subst I
    (repeat first|refine aa.p ?_|refine aa.n ?_)
    refine aa.call (jv gM l _ _ (by omega) (by omega) (by kernel_rfl) (by kernel_rfl)) ?_;rintro _ ⟨U,rfl,M⟩
    (dsimp +instances only[Aa,Ab,Ac,Ad,Ae,Af,Ag])
    exact aa.some ⟨_,_,rfl,by omega,by omega,t,m,U,c,s,h,x,y,rfl,d,⟨by omega,by omega⟩,⟨by omega,by omega⟩,⟨by omega,by omega⟩,M,hc,A,B⟩
   ·refine aa.neg (by simpa using I) ?_
    by_cases J:k=2
    ·subst J
     (repeat first|refine aa.p ?_|refine aa.n ?_)
     refine aa.call (pM l _ 0 99999 (by omega) (by omega) (by omega) (by omega) (by omega)) ?_;rintro _ ⟨s',rfl,hs'⟩
     (dsimp +instances only[Aa,Ab,Ac,Ad,Ae,Af,Ag])
     refine aa.call (pM l _ 0 99999 (by omega) (by omega) (by omega) (by omega) (by omega)) ?_;rintro _ ⟨h',rfl,hh'⟩
     (dsimp +instances only[Aa,Ab,Ac,Ad,Ae,Af,Ag])
     exact aa.some ⟨_,_,rfl,by omega,by omega,t,m,bd,c,s',h',x,y,rfl,d,⟨by omega,by omega⟩,⟨by omega,by omega⟩,⟨by omega,by omega⟩,q,hc,A,B⟩
    ·refine aa.neg (by simpa using J) ?_
     refine aa.call (jv names l _ _ (by omega) (by omega) (by kernel_rfl) (by kernel_rfl)) ?_;rintro _ ⟨W,rfl,N⟩
     (dsimp +instances only[Aa,Ab,Ac,Ad,Ae,Af,Ag])
     refine aa.call (jv names l _ _ (by omega) (by omega) (by kernel_rfl) (by kernel_rfl)) ?_;rintro _ ⟨Y,rfl,O⟩
     (dsimp +instances only[Aa,Ab,Ac,Ad,Ae,Af,Ag])
     exact aa.some ⟨_,_,rfl,by omega,by omega,t,m,bd,c,s,h,W,Y,rfl,d,⟨by omega,by omega⟩,⟨by omega,by omega⟩,⟨by omega,by omega⟩,q,hc,N,O⟩
def eS(a b:Int):Int:=if a<b then -1 else if b<a then 1 else 0
theorem Rx:∀{a b:List UInt8},fu a b=0→a=b
 | [],[],_=>rfl
 | [],_::_,h=>by simp[fu]at h
 |_::_,[],h=>by simp[fu]at h
 | x::a,y::b,h=>by
  unfold fu at h;split at h
  ·cases h
  ·split at h
   ·cases h
   ·rename_i h1 d
    rw[Rx h,I7 (sd.1 d) (sd.1 h1)]
theorem Ry:∀ a:List UInt8,fu a a=0
 | []=>rfl
 |x::a=>by simp[fu,Ry a]
theorem pN(a b:ByteArray):(a.toList==b.toList)=decide (dM a b=0):=by
 rw[yt,yt,j7,decide_eq_true_eq,beq_iff_eq];constructor
 ·intro h
  unfold dM;rw[h];exact Ry _
 ·exact fun h=>Rx h
def B2(a b c d:Int):Int:=if a≠0 then a else if b≠0 then b else if c≠0 then c else d
def eJ(r s:List G):Int:=B2 (eS (gi r 0).int (gi s 0).int) (dM (gi r 3).str (gi s 3).str) (dM (gi r 2).str (gi s 2).str) (eS (gi r 1).int (gi s 1).int)
theorem sign_eq(a b:Int):w7 [.i (a-b)]=some [.i (eS a b)]:=by
 refine aa.toEq ?_;unfold w7 eS
 (dsimp +instances only[Aa,Ab,Ac,Ad,Ae,Af,Ag])
 by_cases h1:a<b
 ·(repeat first|refine aa.p ?_|refine aa.n ?_)
  exact aa.some (by simp[h1])
 ·by_cases d : b < a
  ·(repeat first|refine aa.p ?_|refine aa.n ?_)
   exact aa.some (by simp[h1,d])
  ·(repeat first|refine aa.p ?_|refine aa.n ?_)
   exact aa.some (by simp[h1,d])
theorem xH(a b:Int):nJ [.i a,.i b]=some [.i (eS a b)]:=by
 refine aa.toEq ?_;unfold nJ A7 eS
 (dsimp +instances only[Aa,Ab,Ac,Ad,Ae,Af,Ag])
 simp only[bne_self_eq_false];refine aa.call ⟨_,rfl,rfl⟩ ?_;rintro _ rfl;refine aa.call ⟨_,rfl,rfl⟩ ?_;rintro _ rfl
 (dsimp +instances only[Aa,Ab,Ac,Ad,Ae,Af,Ag])
 (repeat first|refine aa.p ?_|refine aa.n ?_)
 by_cases h1:a<b
 ·(repeat first|refine aa.p ?_|refine aa.n ?_)
  exact aa.some (by simp[h1])
 ·by_cases d : b < a
  ·(repeat first|refine aa.p ?_|refine aa.n ?_)
   exact aa.some (by simp[h1,d])
  ·(repeat first|refine aa.p ?_|refine aa.n ?_)
   exact aa.some (by simp[h1,d])
def kN:List (List G)→Int
 | []=>0
 |x::q=>if (gi x 0).int≠0 then (gi x 0).int else kN q
theorem B3:∀(q p:List (List G)),p.length+q.length<100000 →
  eh tN [.i 0,.l (p++q),.i ((p.length+q.length:Nat):Int),.i (p.length:Int)] (q.length+1) fun c g=>c≤1∧g=[.i (kN q)]
 | [],p,d=>by
  refine eh.stop (x:=1) (aa.toEq ?_) ⟨by omega,rfl⟩;unfold tN
  (dsimp +instances only[Aa,Ab,Ac,Ad,Ae,Af,Ag])
  (repeat first|refine aa.p ?_|refine aa.n ?_)
  exact aa.some rfl
 | y::q,p,d=>by
  simp only[di]at d;have g1:(p++y::q).getD (p.length:Int).toNat []=y:=tK _ _ _ _ _ (by simp);have hlen:(p++y::q).length=p.length+q.length+1:=by simp; omega
  by_cases he:(gi y 0).int=0
  ·have k := B3 q (p ++ [y]) (by simp; omega)
   have e:kN (y::q)=kN q:=by simp[kN,he]
   rw[e];refine eh.next (aa.toEq ?_) k
   unfold tN
   (dsimp +instances only[Aa,Ab,Ac,Ad,Ae,Af,Ag])
   simp only[g1,hlen,di]
   (repeat first|refine aa.p ?_|refine aa.n ?_)
   refine aa.some ?_;simp;omega
  ·refine eh.stop (x := 0) (aa.toEq ?_) ⟨by omega, rfl⟩
   unfold tN
   (dsimp +instances only[Aa,Ab,Ac,Ad,Ae,Af,Ag])
   simp only[g1,hlen,di]
   (repeat first|refine aa.p ?_|refine aa.n ?_)
   refine aa.some ?_;simp[kN,he]
theorem or_eq(a b c d:Int):jR [.l [[.i a],[.i b],[.i c],[.i d]]]=some [.i (B2 a b c d)]:=by
 refine aa.toEq ?_;unfold jR
 (dsimp +instances only[Aa,Ab,Ac,Ad,Ae,Af,Ag])
 have h:=B3 [[.i a],[.i b],[.i c],[.i d]] [] (by simp);refine aa.loop (h.to (by simp)) (by(first|rfl|assumption|(simp only[az,sl]<;>omega))) ?_;rintro x g ⟨B,rfl⟩;have e:kN [[.i a],[.i b],[.i c],[.i d]]=B2 a b c d:=by
  simp only[kN,B2]
  (dsimp +instances only[Aa,Ab,Ac,Ad,Ae,Af,Ag])
  by_cases h1:a=0<;>by_cases k:b=0<;>by_cases q:c=0<;>by_cases A:d=0<;>simp[h1,k,q,A]
 rw[e]
 (dsimp +instances only[Aa,Ab,Ac,Ad,Ae,Af,Ag])
 exact aa.test (fun _=>aa.some rfl) fun _=>aa.some rfl
theorem afM{r s:List G}(hr:iS r)(k:iS s):pI [.l [r],.l [s]]=some [.i (eJ r s)]:=by
 obtain⟨t,m,b,c,_,_,_,_,rfl,B,hm,_⟩:=hr;obtain⟨t',m',d,g,_,_,_,_,rfl,q,A,_⟩:=k;refine aa.toEq ?_;unfold pI
 (dsimp +instances only[Aa,Ab,Ac,Ad,Ae,Af,Ag])
 refine aa.cE (xH t t') ?_;refine aa.cE (rfl:iD [.s c,.s g]=some [.i (dM c g)]) ?_;refine aa.cE (rfl:iD [.s b,.s d]=some [.i (dM b d)]) ?_;refine aa.cE (xH m m') ?_
 (dsimp +instances only[Aa,Ab,Ac,Ad,Ae,Af,Ag])
 refine aa.cE (or_eq _ _ _ _) ?_;exact aa.some rfl
theorem afN:mH [.int .i64,.int .i64,.str,.str,.int .i64,.int .i64,.str,.str] pI iS eJ:=⟨fun _ _ hr d=>afM hr d,fun _ h=>h.eta⟩
def cz(v lo hi:Int):Bool:=bM lo v&&bM v hi
theorem Rz(v lo hi:Int):kJ [.i v,.i lo,.i hi]=some [.t (cz v lo hi)]:=by
 unfold kJ cz
 (dsimp +instances only[Aa,Ab,Ac,Ad,Ae,Af,Ag])
 cases bM lo v<;>rfl
theorem nR(v lo hi:Int):kI [.i v,.i lo,.i hi]=some [.t (!cz v lo hi)]:=by
 unfold kI cz
 (dsimp +instances only[Aa,Ab,Ac,Ad,Ae,Af,Ag])
 have h1:aB v lo = !bM lo v:=by rw[dT,er,j7]; simp
 have d:aB hi v = !bM v hi:=by rw[dT,er,j7]; simp
 rw[h1,d];cases bM lo v<;>cases bM v hi<;>rfl
def jT(s:ByteArray):Bool:=nQ [⟨#[98,50,48]⟩,⟨#[98,52,48]⟩,⟨#[102,105,110]⟩,⟨#[117,115,97]⟩] s
def ug(s:ByteArray):Bool:=nQ [⟨#[]⟩] s||jT s
def xI(s:ByteArray):Bool:=(gi ((wZ [.s s]).getD []) 0).bool
theorem RB{s:ByteArray}(h:s∈gM∨s∈names):mJ [.s s]=some [.t (jT s)]:=by
 simp only[gM,names,bI,iL,or_false]at h;rcases h with(rfl|rfl|rfl|rfl)|(rfl|rfl|rfl|rfl|rfl)<;>kernel_rfl
theorem B4{s:ByteArray}(h:s∈gM∨s∈names):nN [.s s]=some [.t (jT s)]:=by
 simp only[gM,names,bI,iL,or_false]at h;rcases h with(rfl|rfl|rfl|rfl)|(rfl|rfl|rfl|rfl|rfl)<;>kernel_rfl
theorem RC{s:ByteArray}(h:s∈names):A6 [.s s]=some [.t (ug s)]:=by
 simp only[names,bI,iL,or_false]at h;rcases h with(rfl|rfl|rfl|rfl|rfl)<;>kernel_rfl
theorem afO{s:ByteArray}(h:s∈calls):wZ [.s s]=some [.t (xI s)]:=by
 simp only[calls,bI,iL,or_false]at h;rcases h with(rfl|rfl|rfl|rfl|rfl|rfl|rfl|rfl|rfl|rfl|rfl|rfl|rfl|rfl)<;>kernel_rfl
theorem afP{s:ByteArray}(h:s∈calls):GC [.s s]=some [.t (xI s)]:=by
 simp only[calls,bI,iL,or_false]at h;rcases h with(rfl|rfl|rfl|rfl|rfl|rfl|rfl|rfl|rfl|rfl|rfl|rfl|rfl|rfl)<;>kernel_rfl
def lP(r:List G):Int :=
 bif !cz (gi r 0).int 0 345686399999 then 1 else bif !cz (gi r 1).int 1 3 then 4 else bif !jT (gi r 2).str then 5 else bif !xI (gi r 3).str then 3 else
 bif !cz (gi r 4).int 0 99999 then 1 else bif !cz (gi r 5).int 0 99999 then 1 else bif !ug (gi r 6).str then 5 else bif !ug (gi r 7).str then 5 else 0
theorem afQ{r:List G}(hr:iS r):rm [.l [r]]=some [.i (lP r)]:=by
 obtain⟨t,m,b,c,s,h,x,y,rfl,_,_,_,_,d,hc,g,k⟩:=hr;unfold rm rk Fu lP
 (dsimp +instances only[Aa,Ab,Ac,Ad,Ae,Af,Ag])
 have q:=RB (.inl d);have A:=RC g;have ky:=RC k;have B:=afO hc;rw[nR t,nR m];rw[q,B,nR s,nR h,A,ky];generalize cz t 0 345686399999=b1;generalize cz m 1 3=F;generalize jT b=I;generalize xI c=J;generalize cz s 0 99999=M;generalize cz h 0 99999=N;generalize ug x=O;generalize ug y=R;cases b1<;>cases F<;>cases I<;>cases J<;>cases M<;>cases N<;>cases O<;>cases R<;>rfl
theorem empty_eq(s:ByteArray):(s.toList==(⟨#[]⟩:ByteArray).toList)=nQ [⟨#[]⟩] s:=by
 rw[yt,yt];simp only[nQ,tM,yu,List.any_nil,Bool.or_false];rw[j7];simp only[beq_iff_eq];exact eq_comm
theorem afR{r:List G}(hr:iS r):xb [.l [r]]=some [.i (lP r)]:=by
 obtain⟨t,m,b,c,s,h,x,y,rfl,_,_,_,_,k,hc,q,A⟩:=hr;unfold xb xa lP ug
 (dsimp +instances only[Aa,Ab,Ac,Ad,Ae,Af,Ag])
 have B:=B4 (.inl k);have F:=B4 (.inr q);have ky:=B4 (.inr A);have I:=afP hc;have ex:=empty_eq x;have d:=empty_eq y;generalize (⟨#[]⟩:ByteArray)=z at ex d⊢;simp only[Rz,zY rfl,B,I,F,ky]
 (dsimp +instances only[Aa,Ab,Ac,Ad,Ae,Af,Ag])
 rw[ex,d];generalize cz t 0 345686399999=b1;generalize cz m 1 3=J;generalize jT b=M;generalize xI c=N;generalize cz s 0 99999=O;generalize cz h 0 99999=R;generalize jT x=U;generalize jT y=W;generalize nQ [z] x=Y;generalize nQ [z] y=g;cases b1<;>cases J<;>cases M<;>cases N<;>cases O<;>cases R<;>cases U<;>cases W<;>cases Y<;>cases g<;>rfl
section
variable {C D:List G→Option (List G)} (hC:∀ r,iS r→C [.l [r]]=some [.i (lP r)]) (hD:∀ r s,iS r→iS s→D [.l [r],.l [s]]=some [.i (eJ r s)])
include hC hD
end
end
end Go.Proofs.gq

namespace Go.Proofs.gq
open Go Go.AL Go.Proofs
noncomputable section
def RD:List (List G)→Bool
 | []=>false
 | [_]=>false
 |x::y::q=>eJ x y==0||RD (y::q)
def ajj(m:List (List G)):List G:=bif RD m then [.l [],.i 13] else bif Nat.blt 2000 m.length then [.l [],.i 2] else [.l m,.i 0]
end
end Go.Proofs.gq

namespace Go.Proofs.gq
open Go Go.AL Go.Proofs
noncomputable section
structure ajk (s:List (List G) × List (List G)) (i:Nat):Prop where
 l1:s.1.length≤i
 l2:s.2.length≤i
 r1:∀ r∈s.1,∃ a b,r=[.i a,.i b]∧0≤b∧b≤i+1
 r2:∀ r∈s.2,∃ a,r=[.i a]
def uh(r:List G):Prop:=∃(t m:Int) (b c:ByteArray) (s h:Int) (x y:ByteArray),r=[.i t,.i m,.s b,.s c,.i s,.i h,.s x,.s y]
theorem iS.row{r:List G}(h:iS r):uh r:=by
 obtain⟨t,m,b,c,s,h,x,y,e,_⟩:=h;exact⟨t,m,b,c,s,h,x,y,e⟩
theorem uh.eta{r:List G}(h:uh r):bh [.int .i64,.int .i64,.str,.str,.int .i64,.int .i64,.str,.str] r=r:=by
 obtain⟨t,m,b,c,s,h,x,y,rfl⟩:=h;rfl
theorem uh.put{r:List G}(h:uh r)(n:Int):uh (fh [.int .i64,.int .i64,.str,.str,.int .i64,.int .i64,.str,.str] r 4 [.i n]):=by
 obtain⟨t,m,b,c,s,h,x,y,rfl⟩:=h;exact⟨t,m,b,c,n,h,x,y,rfl⟩
structure ajl (s:List (List G) × Int) (i:Nat):Prop where
 len:s.1.length≤i
 rows:∀ r∈s.1,∃ a b,r=[.i a,.i b]
 at0:0≤s.2
 at1:s.2≤345686400000
structure ajo (s:List (List G)) (n i:Nat):Prop where
 len:s.length=n
 rows:∀ r∈s,∃ v,r=[.i v]∧0≤v∧v≤i
theorem RE:∀ a b:List UInt8,fu b a = - fu a b
 | [],[]=>rfl
 | [],_::_=>rfl
 |_::_,[]=>rfl
 | a::xs,b::g=>by
  simp only[fu];have k:=RE xs g;by_cases h1:a<b
  ·have d : ¬ b < a := fun h => Tr a (aiL h1 h)
   simp[h1,d]
  ·by_cases d : b < a
   ·simp[h1,d]
   ·simp[h1,d,k]
theorem RF:∀{a b c:List UInt8},fu a b<0→fu b c<0→fu a c<0
 | [],[],_,h,_=>by simp[fu]at h
 | [],_::_,[],_,h=>by simp[fu]at h
 | [],_::_,_::_,_,_=>by simp[fu]
 |_::_,[],_,h,_=>by simp[fu]at h
 |_::_,_::_,[],_,h=>by simp[fu]at h
 | a::xs,b::I,c::zs,h1,d=>by
  simp only[fu]at h1 d⊢;by_cases g:a<b
  ·by_cases k : b < c
   ·rw [if_pos (aiL g k)]
    omega
   ·by_cases A : c < b
    ·rw [if_neg k, if_pos A] at d
     omega
    ·have e : b = c := I7 (sd.1 A) (sd.1 k)
     subst e;rw[if_pos g];omega
  ·by_cases B : b < a
   ·rw [if_neg g, if_pos B] at h1
    omega
   ·have e : a = b := I7 (sd.1 B) (sd.1 g)
    subst e;rw[if_neg (Tr a),if_neg (Tr a)]at h1;by_cases q:a<c
    ·rw [if_pos q]
     omega
    ·by_cases F : c < a
     ·rw [if_neg q, if_pos F] at d
      omega
     ·rw [if_neg q, if_neg F] at d ⊢
      exact RF h1 d
theorem afS{a b:ByteArray}(h:(a.toList==b.toList)=true):a=b:=by
 rw[yt,yt,beq_iff_eq]at h;exact ByteArray.ext (Array.toList_inj.1 h)
theorem ui{a b:ByteArray}:dM a b=0↔a=b:=by
 have h:=pN a b;constructor
 ·intro e
  rw[decide_eq_true (p:=dM a b=0) e]at h;exact afS h
 ·rintro rfl
  have d:(a.toList==a.toList)=true:=by simp
  rw[d]at h;exact of_decide_eq_true h.symm
theorem afT{a b:Int}:eS a b=0↔a=b:=by
 unfold eS;constructor
 ·intro h
  split at h
  ·omega
  ·split at h<;>omega
 ·rintro rfl
  simp
theorem B5{a b:Int}:eS a b<0↔a<b:=by
 unfold eS;constructor
 ·intro h
  split at h
  ·assumption
  ·split at h<;>omega
 ·intro h
  rw[if_pos h];omega
theorem HX(a b:ByteArray):(a.toList==b.toList)=decide (a=b):=by
 rw[pN,j7,decide_eq_true_eq,decide_eq_true_eq];exact ui
structure rL {α:Type} (c:α→α→Int):Prop where
 flip:∀ a b,c b a = - c a b
 eq:∀ a b,c a b=0→a=b
 tr:∀ a b d,c a b<0→c b d<0→c a d<0
theorem jx:rL eS:=⟨fun a b=>by unfold eS; split<;>split<;>first|omega|(split<;>omega)|skip,fun a b h=>afT.1 h,fun a b d h1 g=>B5.2 (Int.lt_trans (B5.1 h1) (B5.1 g))⟩
theorem gr:rL dM:=⟨fun a b=>RE _ _,fun a b h=>ui.1 h,fun a b d h1 g=>RF h1 g⟩
theorem rL.le{α:Type}{c:α→α→Int}(h:rL c)(a b d:α)(h1:c a b≤0)(g:c b d≤0):c a d≤0:=by
 by_cases k:c a b=0
 ·rw [h.eq a b k]
  exact g
 ·by_cases q : c b d = 0
  ·rw [← h.eq b d q]
   exact h1
  ·have := h.tr a b d (by omega) (by omega)
   omega
theorem rL.refl{α:Type}{c:α→α→Int}(h:rL c)(a:α):c a a=0:=by
 have:=h.flip a a;omega
def fA(a b:Int):Int:=if a≠0 then a else b
theorem B6{α:Type}{c:α→α→Int}(h:rL c)(a b d:α)(x y z:Int)(h1:fA (c a b) x≤0)(g:fA (c b d) y≤0)(A:x≤0→y≤0→z≤0):fA (c a d) z≤0:=by
 unfold fA at *;by_cases q:c a b=0
 ·have e := h.eq a b q
  subst e;rw[if_neg (by simpa using q)]at h1;by_cases k:c a d=0
  ·rw [if_neg (by simpa using k)] at g ⊢
   exact A h1 g
  ·rw [if_pos k] at g ⊢
   exact g
 ·rw [if_pos q] at h1
  by_cases k:c b d=0
  ·have e := h.eq b d k
   subst e;rw[if_pos q];exact h1
  ·rw [if_pos k] at g
   have:=h.tr a b d (by omega) (by omega);rw[if_pos (by omega)];omega
theorem uj{a b d g:Int}(h1:d = - a)(k:g = - b):fA d g = - fA a b:=by
 unfold fA;subst h1 k;by_cases e:a=0
 ·subst e
  simp
 ·rw[if_pos e,if_pos (by omega)]
theorem RG{c:List G→List G→Int}(g:∀ a b,c b a = - c a b)(k:∀ a b d,c a b≤0→c b d≤0→c a d≤0):fi (bN c) (fun _=>True):=by
 have lt:∀ r s,bN c r s=decide (c r s<0):=fun r s=>by unfold bN; rw[dT]
 refine⟨fun a b d _ _ _ h1 q=>?_,fun a b _ _ h=>?_⟩
 ·rw [lt, decide_eq_false_iff_not] at *
  have:=k d b a (by have:=g d b; omega) (by have:=g b a; omega);have:=g a d;omega
 ·rw [lt, decide_eq_true_eq] at h
  rw[lt,decide_eq_false_iff_not];have:=g a b;omega
def HY:List ByteArray:=[⟨#[97,108,108]⟩,⟨#[99,111,100,101]⟩,⟨#[65]⟩]
def afU:List ByteArray:=[⟨#[]⟩,⟨#[107,112,50,48,108,102]⟩,⟨#[107,112,50,48]⟩]
def RH(r:List G):Prop:=∃(c k:ByteArray) (p:Int) (q:ByteArray),r=[.s c,.s k,.i p,.s q]∧c∈calls∧k∈HY ∧ -1099511627776≤p∧p≤1099511627776∧q∈afU
theorem RH.eta{r:List G}(h:RH r):bh [.str,.str,.int .i64,.str] r=r:=by
 obtain⟨c,k,p,q,rfl,_⟩:=h;rfl
def ajp:List (List G):=[[.s (⟨#[107,49,97,98]⟩:ByteArray)],[.s (⟨#[107,49,97,98,47,52]⟩:ByteArray)],[.s (⟨#[111,104,50,97,98,99]⟩:ByteArray)],[.s (⟨#[111,104,50,97,98,100]⟩:ByteArray)],[.s (⟨#[119,49,97,119]⟩:ByteArray)]]
def two:List (List G):=[[.s (⟨#[97,108,108]⟩:ByteArray)],[.s (⟨#[99,111,100,101]⟩:ByteArray)]]
def RI(r:List G):Prop:=∃(t:Int) (c k:ByteArray) (p:Int),r=[.i t,.s c,.s k,.i p]∧small t∧c∈calls∧k∈HY ∧ -1099511627776≤p∧p≤1099511627776
theorem RI.eta{r:List G}(h:RI r):bh [.int .i64,.str,.str,.int .i64] r=r:=by
 obtain⟨t,c,k,p,rfl,_⟩:=h;rfl
def Rec(v:List G):Prop:=∃(c s:ByteArray) (p d:Int),v=[.s c,.s s,.i p,.i d]∧c∈HY
theorem Rec.eta{v:List G}(h:Rec v):bh [.str,.str,.int .i64,.int .i64] v=[.s (gi v 0).str,.s (gi v 1).str,.i (gi v 2).int,.i (gi v 3).int]∨True:=.inr trivial
theorem RJ(s:ByteArray)(r:List G):aF [.str] [.s s] (gi r 0).row=decide (s=fT r):=by
 simp only[aF,lu,List.headD_cons,dZ,G.str];exact HX s _
theorem B7(s:ByteArray):∀ m:List (List G),bg [.str] m [.s s]=true↔s∈m.map fT
 | []=>by simp[lK]
 | r::rs=>by
  rw[mF,RJ,lW,B7 s rs,decide_eq_true_eq,dA,bI]
theorem HZ(s:ByteArray)(v:List G)(k:Nat):∀ m:List (List G),
  (cu [.str] m [.s s] v k).map fT=(bif bg [.str] m [.s s] then m.map fT else m.map fT++[s]) ∧
  (cu [.str] m [.s s] v k).map cd=(bif bg [.str] m [.s s] then m.map cd else m.map cd++[k]) ∧
  ∀ e∈cu [.str] m [.s s] v k,e∈m∨∃ z:Int,e=[.l [[.s s]],.l [v],.i z]∧((∃ r∈m,z=(gi r 2).int)∨(z=k∧bg [.str] m [.s s]=false))
 | []=>by
  rw[tG,lK];refine⟨rfl,by simp[cd,gi,G.int],fun e he=>.inr ⟨k,gA.1 he,.inr ⟨rfl,rfl⟩⟩⟩
 | r::rs=>by
  obtain⟨h1,A,B⟩:=HZ s v k rs;rw[tH,mF,RJ];by_cases d:s=fT r
  ·rw [decide_eq_true d, cond_true, Bool.true_or, cond_true, cond_true]
   refine⟨?_,?_,fun e he=>?_⟩
   ·simp only [dA]
    rw[←d];rfl
   ·rfl
   ·rcases bI.1 he with rfl | he
    ·exact .inr ⟨_,rfl,.inl ⟨r,cZ,rfl⟩⟩
    ·exact .inl (cU _ he)
  ·rw [decide_eq_false d, cond_false, jF]
   refine⟨?_,?_,fun e he=>?_⟩
   ·rw [dA, h1]
    cases bg [.str] rs [.s s]<;>rfl
   ·rw [dA, A]
    cases bg [.str] rs [.s s]<;>rfl
   ·rcases bI.1 he with rfl | he
    ·exact .inl cZ
    ·rcases B e he with h | ⟨z, rfl, ⟨q, g, rfl⟩ | ⟨rfl, g⟩⟩
     ·exact .inl (cU _ h)
     ·exact .inr ⟨_,rfl,.inl ⟨q,cU _ g,rfl⟩⟩
     ·exact .inr ⟨_,rfl,.inr ⟨rfl,g⟩⟩
structure H5 (m:List (List G)) (k:Nat):Prop where
 form:∀ e∈m,∃(v:List G) (n:Nat),e=[.l [[.s (gi v 0).str]],.l [v],.i (n:Int)]∧n<k∧Rec v
 born:(m.map cd).Nodup
 keys:(m.map fT).Nodup
theorem H5.put{m:List (List G)}{k:Nat}(h:H5 m k){v:List G}(q:Rec v):H5 (cu [.str] m [.s (gi v 0).str] v k) (dF [.str] m [.s (gi v 0).str] k):=by
 obtain⟨h1,B,F⟩:=HZ (gi v 0).str v k m;have A:∀ n∈m.map cd,n<k:=fun n hn=>by
  obtain⟨e,he,rfl⟩:=List.mem_map.1 hn;obtain⟨w,n,rfl,hn,_⟩:=h.form e he;exact hn
 refine⟨fun e he=>?_,?_,?_⟩
 ·unfold dF
  rcases F e he with he|⟨z,rfl,⟨r,hr,rfl⟩|⟨rfl,I⟩⟩
  ·obtain ⟨w, n, J, hn, hw⟩ := h.form e he
   refine⟨w,n,J,?_,hw⟩;cases bg [.str] m [.s (gi v 0).str]
   ·exact lZ hn
   ·exact hn
  ·obtain ⟨w, n, rfl, hn, _⟩ := h.form r hr
   refine⟨v,n,rfl,?_,q⟩;cases bg [.str] m [.s (gi v 0).str]
   ·exact lZ hn
   ·exact hn
  ·rw [I]
   exact⟨v,k,rfl,Nat.lt_succ_self k,q⟩
 ·rw [B]
  cases bg [.str] m [.s (gi v 0).str]with
  |true=>exact h.born
  | false =>
   rw[cond_false,yv];refine⟨h.born,by simp,fun a g b d e=>?_⟩;rw[gA]at d;have:=A a g;omega
 ·rw [h1]
  cases M:bg [.str] m [.s (gi v 0).str]with
  |true=>exact h.keys
  | false =>
   rw[cond_false,yv];refine⟨h.keys,by simp,fun a g b d e=>?_⟩;rw[gA]at d;have:bg [.str] m [.s (gi v 0).str]=true:=(B7 _ m).2 (by rw[←d,←e]; exact g);rw[M]at this;cases this
theorem RL(key v:List G)(c:Nat):∀ rows:List (List G),(cu [.str] rows key v c).length≤rows.length+1
 | []=>by rw[tG]; simp
 | r::rs=>by
  rw[tH];have:=RL key v c rs;cases aF [.str] key (gi r 0).row<;>simp<;>omega
theorem H6:∀ l:List Nat,l.Nodup→nodupB l=true
 | [],_=>rfl
 | a::l,d=>by
  obtain⟨h1,g⟩:=List.nodup_cons.1 d;simp only[nodupB,H6 l g,dZ,Bool.not_eq_true'];cases hc:l.any (ab a)with
  |false=>rfl
  | true =>
   obtain⟨x,k,e⟩:=jE.1 hc;rw[Nat.eq_of_beq_eq_true e]at h1;exact(h1 k).elim
theorem B8(m:List (List G)):(lI m).Perm (m.map fun r=>[.s (fT r)]):=by
 unfold lI;have h:=((List.mergeSort_perm (m.map fun r=>(fT r).data.toList) leB).map fun d=>[G.s ⟨d.toArray⟩])
 rw[List.map_map]at h;exact h
theorem RM:∀{a b:List UInt8},fu a b<0→a<b
 | [],[],h=>by simp[fu]at h
 | [],b::g,_=>List.nil_lt_cons b g
 |a::k,[],h=>by simp[fu]at h
 | a::k,b::g,h=>by
  simp only[fu]at h;rw[List.cons_lt_cons_iff];by_cases h1:a<b
  ·exact .inl h1
  ·rw [if_neg h1] at h
   by_cases d:b<a
   ·rw [if_pos d] at h
    omega
   ·rw [if_neg d] at h
    exact .inr ⟨I7 (sd.1 d) (sd.1 h1),RM h⟩
theorem afV(m:List (List G)):(lI m).Pairwise fun a b=>¬ dM (gi b 0).str (gi a 0).str<0:=by
 have tr:∀ a b c:List UInt8,leB a b=true→leB b c=true→leB a c=true:=fun a b c h1 d=>by simp only[leB,decide_eq_true_eq]at *; exact List.le_trans h1 d
 have to:∀ a b:List UInt8,(leB a b||leB b a)=true:=fun a b=>by simp only[leB,lW,decide_eq_true_eq]; exact List.le_total a b
 unfold lI;rw[List.pairwise_map];refine(List.pairwise_mergeSort tr to _).imp fun {a b} h d=>?_;simp only[leB,decide_eq_true_eq]at h;have g:fu b a<0:=d;exact List.not_lt.2 h (RM g)
def lQ:List ByteArray:=[⟨#[]⟩,⟨#[115,97]⟩,⟨#[115,98]⟩,⟨#[115,99]⟩]
def jy(si:ByteArray)(no at_ kd t m:Int)(b c:ByteArray)(s h:Int)(x y bd aV:ByteArray)(ot:Int):List G :=
 [.s si,.i no,.i at_,.i kd,.i t,.i m,.s b,.s c,.i s,.i h,.s x,.s y,.s bd,.s aV,.i ot]
def pO(si:ByteArray)(no at_ kd t m:Int)(b c:ByteArray)(s h:Int)(x y bd aV:ByteArray)(ot:Int):Prop :=
 si∈lQ∧small no∧small at_∧small kd∧(small t∧small m∧b∈gM∧c∈calls∧small s∧small h∧x∈names∧y∈names)∧bd∈gM∧aV∈lQ∧small ot
def iT(r:List G):Prop:=∃ si no at_ kd t m b c s h x y bd aV ot,r=jy si no at_ kd t m b c s h x y bd aV ot∧pO si no at_ kd t m b c s h x y bd aV ot
theorem iT.eta{r:List G}(h:iT r):bh aq r=r:=by
 obtain⟨_,_,_,_,_,_,_,_,_,_,_,_,_,_,_,rfl,_⟩:=h;rfl
section
variable {l out mm:List (List G)} {a no at_ kd t m s h ot u v w:Int} {ck:Nat} {si b c x y bd aV:ByteArray}
theorem afW(hn:out.length≤1000) :
  nM [.l l,.i a,.l out,.l mm,.i (ck:Int),.s si,.i no,.i at_,.i kd,.i t,.i m,.s b,.s c,.i s,.i h,.s x,.s y,.s bd,.s aV,.i ot,.i u,.i v,.i w] =
   some (some 0,[.l l,.i a,.l (out++[jy si no at_ kd t m b c s h x y bd aV ot]),.l mm,.i (ck:Int),.i u,.i v,.i w]):=by
 refine aa.toEq ?_;unfold nM
 (dsimp +instances only[Aa,Ab,Ac,Ad,Ae,Af,Ag])
 simp only[aR]
 (repeat first|refine aa.p ?_|refine aa.n ?_)
 exact aa.some rfl
theorem B9{n:Int}(h : -1099511627776≤n∧(n≤1000000001∨n=1099511627776)):small n:=by
 unfold small;omega
theorem afX(N:0≤a)(W:a≤800000)(hn:out.length≤1000)(q:pO si no at_ kd t m b c s h x y bd aV ot) :
  aa (pL [.l l,.i a,.l out,.l mm,.i (ck:Int),.s si,.i no,.i at_,.i kd,.i t,.i m,.s b,.s c,.i s,.i h,.s x,.s y,.s bd,.s aV,.i ot,.i u,.i v,.i w]) fun o =>
   ∃ k,o.1=some k∧∃ d r,o.2=[.l l,.i d,.l (out++[r]),.l mm,.i (ck:Int),.i u,.i v,.i w]∧a≤d∧d≤a+20∧iT r∧(gi r 2).int=at_:=by
 obtain⟨d1,d2,d3,d4,d5,d6,d7,d8⟩:=q;have fin:∀(d:Int) (si:ByteArray) (no kd s:Int) (bd aV:ByteArray) (ot:Int),a≤d→d≤a+20→pO si no at_ kd t m b c s h x y bd aV ot →
   aa (aY ((ab out.length out.length)&&true) (cY (nM [.l l,.i d,.l out,.l mm,.i (ck:Int),.s si,.i no,.i at_,.i kd,.i t,.i m,.s b,.s c,.i s,.i h,.s x,.s y,.s bd,.s aV,.i ot,.i u,.i v,.i w])) fun U g10 =>
    (bif ((ab (gi g10 2).rows.length (gi g10 2).rows.length)&&true) then (some (some 0,[G.l (gi g10 0).rows,G.i (gi g10 1).int,G.l (gi g10 2).rows,G.l (gi g10 3).rows,G.i (((gi g10 4).int.toNat:Nat):Int),G.i (gi g10 5).int,G.i (gi g10 6).int,G.i (gi g10 7).int]):Option (Option Nat × List G)) else none)) fun o =>
   ∃ k,o.1=some k∧∃ d r,o.2=[.l l,.i d,.l (out++[r]),.l mm,.i (ck:Int),.i u,.i v,.i w]∧a≤d∧d≤a+20∧iT r∧(gi r 2).int=at_:=by
  intro d si no kd s bd aV ot h1 O q;refine aa.tail (P:=fun _ g=>g=[.l l,.i d,.l (out++[jy si no at_ kd t m b c s h x y bd aV ot]),.l mm,.i (ck:Int),.i u,.i v,.i w]) ⟨_,afW hn,0,rfl,rfl⟩ (by simp) ?_;rintro _ _ rfl
  (dsimp +instances only[Aa,Ab,Ac,Ad,Ae,Af,Ag])
  simp only[aR];refine aa.pos (by simp) (aa.some ⟨0,rfl,d,_,rfl,h1,O,⟨_,_,_,_,_,_,_,_,_,_,_,_,_,_,_,rfl,q⟩,rfl⟩)
 unfold pL
 (dsimp +instances only[Aa,Ab,Ac,Ad,Ae,Af,Ag])
 simp only[aR];refine aa.call (B1 l a 100 N (by omega) (by omega) (by omega)) ?_;rintro _ ⟨f,rfl⟩
 (dsimp +instances only[Aa,Ab,Ac,Ad,Ae,Af,Ag])
 refine aa.test (fun _=>?_) fun _=>fin (a+1) _ _ _ _ _ _ _ (by omega) (by omega) ⟨d1,d2,d3,d4,d5,d6,d7,d8⟩;refine aa.call (uf l _ 4 (by omega) (by omega) (by omega) (by omega)) ?_;rintro _ ⟨n,rfl,Y,hn1⟩
 (dsimp +instances only[Aa,Ab,Ac,Ad,Ae,Af,Ag])
 refine aa.test (fun _=>?_) fun _=>aa.test (fun _=>?_) fun _=>aa.test (fun _=>?_) fun _=>?_
 ·refine aa.call (jv lQ l _ _ (by omega) (by omega) (by kernel_rfl) (by kernel_rfl)) ?_
  rintro _ ⟨si',rfl,A⟩
  (dsimp +instances only[Aa,Ab,Ac,Ad,Ae,Af,Ag])
  refine aa.call (pM l _ 1 9 (by omega) (by omega) (by omega) (by omega) (by omega)) ?_;rintro _ ⟨no',rfl,B⟩
  (dsimp +instances only[Aa,Ab,Ac,Ad,Ae,Af,Ag])
  exact fin (a+1+1+1+2) _ _ _ _ _ _ _ (by omega) (by omega) ⟨A,B9 B,d3,d4,d5,d6,d7,d8⟩
 ·refine aa.call (pM l _ 1 5 (by omega) (by omega) (by omega) (by omega) (by omega)) ?_
  rintro _ ⟨kd',rfl,F⟩
  (dsimp +instances only[Aa,Ab,Ac,Ad,Ae,Af,Ag])
  exact fin (a+1+1+2) _ _ _ _ _ _ _ (by omega) (by omega) ⟨d1,d2,d3,B9 F,d5,d6,d7,d8⟩
 ·refine aa.call (jv gM l _ _ (by omega) (by omega) (by kernel_rfl) (by kernel_rfl)) ?_
  rintro _ ⟨bd',rfl,I⟩
  (dsimp +instances only[Aa,Ab,Ac,Ad,Ae,Af,Ag])
  refine aa.call (jv lQ l _ _ (by omega) (by omega) (by kernel_rfl) (by kernel_rfl)) ?_;rintro _ ⟨of',rfl,J⟩
  (dsimp +instances only[Aa,Ab,Ac,Ad,Ae,Af,Ag])
  exact fin (a+1+1+1+1) _ _ _ _ _ _ _ (by omega) (by omega) ⟨d1,d2,d3,d4,d5,I,J,d8⟩
 ·refine aa.call (pM l _ 1 99999 (by omega) (by omega) (by omega) (by omega) (by omega)) ?_
  rintro _ ⟨s',rfl,R⟩
  (dsimp +instances only[Aa,Ab,Ac,Ad,Ae,Af,Ag])
  refine aa.call (pM l _ 0 5 (by omega) (by omega) (by omega) (by omega) (by omega)) ?_;rintro _ ⟨ot',rfl,M⟩
  (dsimp +instances only[Aa,Ab,Ac,Ad,Ae,Af,Ag])
  exact fin (a+1+1+2+2) _ _ _ _ _ _ _ (by omega) (by omega) ⟨d1,d2,d3,d4,⟨d5.1,d5.2.1,d5.2.2.1,d5.2.2.2.1,B9 R,d5.2.2.2.2.2⟩,d6,d7,B9 M⟩
end
def lR(mm:List (List G))(i:Int):Prop:=∀ k,0≤(gi (ch [Kd.str] mm k [.i 0]) 0).int∧(gi (ch [Kd.str] mm k [.i 0]) 0).int≤i
theorem lR.nil:lR [] 0:=fun k=>by
 rw[AX];simp[gi,G.int]
theorem lR.put{mm:List (List G)}{i v:Int}(h:lR mm i)(k:List G)(h0:0≤v)(h1:v≤i+1)(c:Nat):lR (cu [Kd.str] mm k [.i v] c) (i+1):=fun x=>by
 rw[nI];cases aF [Kd.str] x k with
 |true=>exact⟨h0,h1⟩
 | false =>
  have:=h x;simp only[cond_false];omega
theorem RN(l out mm:List (List G))(a no at_ kd t m s h ot u v w i:Int)(ck:Nat)(si b c x y bd aV:ByteArray)(f:Bool)(A:0≤a)(O:a≤800000)(R:0≤i)(hi:i≤1000)(I:lR mm i)(J:pO si no at_ kd t m b c s h x y bd aV ot) :
  aa (w_ [.l l,.i a,.l out,.l mm,.i (ck:Int),.s si,.i no,.i at_,.i kd,.i t,.i m,.s b,.s c,.i s,.i h,.s x,.s y,.s bd,.s aV,.i ot,.i u,.i v,.i w,.t f]) fun o =>
   ∃ k,o.1=some k∧∃ q s' g d,o.2=[.l l,.i q,.l out,.l mm,.i (ck:Int),.s si,.i no,.i at_,.i kd,.i t,.i m,.s b,.s c,.i s',.i h,.s x,.s y,.s bd,.s g,.i d,.i u,.i v,.i w]∧a≤q∧q≤a+5∧pO si no at_ kd t m b c s' h x y bd g d:=by
 obtain⟨d1,d2,d3,d4,d5,d6,d7,d8⟩:=J;have U:=I [.s (⟨#[115,97]⟩:ByteArray)];unfold w_
 (dsimp +instances only[Aa,Ab,Ac,Ad,Ae,Af,Ag])
 simp only[aR];cases f with
 | true =>
  refine aa.pos rfl ?_;refine aa.call (xF l a 1 7 A (by omega) (by omega) (by omega) (by omega)) ?_;rintro _ ⟨s',rfl,W,Y⟩
  (dsimp +instances only[Aa,Ab,Ac,Ad,Ae,Af,Ag])
  refine aa.pos (by simp) (aa.some ⟨0,rfl,a+1,s',aV,ot,rfl,by omega,by omega,⟨d1,d2,d3,d4,⟨d5.1,d5.2.1,d5.2.2.1,d5.2.2.2.1,by unfold small; omega,d5.2.2.2.2.2⟩,d6,d7,d8⟩⟩)
 | false =>
  refine aa.neg rfl ?_;refine aa.call (jv lQ l _ _ A (by omega) (by kernel_rfl) (by kernel_rfl)) ?_;rintro _ ⟨g,rfl,F⟩
  (dsimp +instances only[Aa,Ab,Ac,Ad,Ae,Af,Ag])
  refine aa.call (xF l _ 1 _ (by omega) (by omega) (by split<;>omega) (by omega) (by split<;>omega)) ?_;rintro _ ⟨d,rfl,M,B⟩
  (dsimp +instances only[Aa,Ab,Ac,Ad,Ae,Af,Ag])
  have N:d≤1001:=by
   revert B
   split<;>intro _<;>omega
  refine aa.pos (by simp) (aa.some ⟨0,rfl,a+1+1,s,g,d,rfl,by omega,by omega,⟨d1,d2,d3,d4,d5,d6,F,by unfold small; omega⟩⟩)
theorem afY:(⟨#[]⟩:ByteArray)∈gM∧(⟨#[]⟩:ByteArray)∈calls∧(⟨#[]⟩:ByteArray)∈names∧(⟨#[]⟩:ByteArray)∈lQ:=by
 refine⟨?_,?_,?_,?_⟩<;>simp[gM,calls,names,lQ]
theorem iE:small 0:=by unfold small; omega
theorem afZ(l out mm:List (List G))(a at_:Int)(ck n i:Nat)(ha:0≤a)(ha1:a≤700000)(hn:n≤20)(hi:i<n)(ho:out.length≤100)(ht0:0≤at_)(ht1:at_≤5*(i:Int))(hM:lR mm i) :
  aa (tS [.l l,.i a,.l out,.l mm,.i (ck:Int),.i at_,.i (n:Int),.i (i:Int)]) fun o=>∃ k r d q v,o=(none,[.l l,.i k,.l (out++[r]),.l d,.i ((q:Nat):Int),.i (at_+v),.i (n:Int),.i ((i:Int)+1)])∧a≤k∧k≤a+100∧iT r∧(gi r 2).int=at_+v∧0≤v∧v≤5∧lR d ((i:Int)+1):=by
 unfold tS
 (dsimp +instances only[Aa,Ab,Ac,Ad,Ae,Af,Ag])
 simp only[aR];refine aa.p ?_;refine aa.call (xG 0 5 l a _ ha (by omega) (by kernel_rfl) (by kernel_rfl)) ?_;rintro _ ⟨v,rfl,hv0,hv1⟩
 (dsimp +instances only[Aa,Ab,Ac,Ad,Ae,Af,Ag])
 refine aa.p ?_;refine aa.call (jv lQ l _ _ (by omega) (by omega) (by kernel_rfl) (by kernel_rfl)) ?_;rintro _ ⟨si,rfl,N⟩
 (dsimp +instances only[Aa,Ab,Ac,Ad,Ae,Af,Ag])
 refine aa.call (xG 1 5 l _ _ (by omega) (by omega) (by kernel_rfl) (by kernel_rfl)) ?_;rintro _ ⟨kd,rfl,hk0,hk1⟩
 (dsimp +instances only[Aa,Ab,Ac,Ad,Ae,Af,Ag])
 have hs:=hM [.s si];have M:=hM.put [.s si] (v:=(gi (ch [Kd.str] mm [.s si] [.i 0]) 0).int+1) (by omega) (by omega) ck;generalize hmm:cu [Kd.str] mm [.s si] [.i ((gi (ch [Kd.str] mm [.s si] [.i 0]) 0).int+1)] ck=d at M⊢;generalize dF [Kd.str] mm [.s si] ck=q;have hno:=M [.s si];generalize (gi (ch [Kd.str] d [.s si] [.i 0]) 0).int=no at hno⊢;have O:small no:=by unfold small; omega
 have sat:small (at_+v):=by unfold small; omega
 have R:small kd:=by unfold small; omega
 obtain⟨I,U,J,es⟩:=afY;refine aa.p ?_;have fin:∀(k t m s h ot:Int) (b c x y bd aV:ByteArray),a≤k→k≤a+50→pO si no (at_+v) kd t m b c s h x y bd aV ot →
   aa (aY ((ab out.length out.length)&&true) (cY (pL [.l l,.i k,.l out,.l d,.i (q:Int),.s si,.i no,.i (at_+v),.i kd,.i t,.i m,.s b,.s c,.i s,.i h,.s x,.s y,.s bd,.s aV,.i ot,.i (at_+v),.i (n:Int),.i (i:Int)])) fun cg20 g20 =>
    (bif (az ((gi g20 7).int+1)) then (bif ((ab (gi g20 2).rows.length (gi g20 2).rows.length)&&true) then (some (none,[G.l (gi g20 0).rows,G.i (gi g20 1).int,G.l (gi g20 2).rows,G.l (gi g20 3).rows,G.i (((gi g20 4).int.toNat:Nat):Int),G.i (gi g20 5).int,G.i (gi g20 6).int,G.i ((gi g20 7).int+1)]):Option (Option Nat × List G)) else none) else none)) fun o =>
   ∃ k r d q w,o=(none,[.l l,.i k,.l (out++[r]),.l d,.i ((q:Nat):Int),.i (at_+w),.i (n:Int),.i ((i:Int)+1)])∧a≤k∧k≤a+100∧iT r∧(gi r 2).int=at_+w∧0≤w∧w≤5∧lR d ((i:Int)+1):=by
  intro k t m s h ot b c x y bd aV h1 h2 hd;refine aa.tail (P:=fun _ g=>∃ a2 r,g=[.l l,.i a2,.l (out++[r]),.l d,.i (q:Int),.i (at_+v),.i (n:Int),.i (i:Int)]∧k≤a2∧a2≤k+20∧iT r∧(gi r 2).int=at_+v) (afX (by omega) (by omega) (by omega) hd) (by simp) ?_;rintro _ _ ⟨a2,r,rfl,W,Y,F,q4⟩
  (dsimp +instances only[Aa,Ab,Ac,Ad,Ae,Af,Ag])
  simp only[aR];refine aa.p (aa.pos (by simp) (aa.some ⟨a2,r,d,q,v,rfl,by omega,by omega,F,q4,hv0,hv1,M⟩))
 refine aa.test (fun _=>?_) fun _=>aa.test (fun _=>?_) fun _=>aa.test (fun _=>?_) fun _=>?_
 ·refine aa.p ?_
  refine aa.call (xF l _ _ _ (by omega) (by omega) (by split<;>omega) (by split<;>omega) (by omega)) ?_;rintro _ ⟨t,rfl,ht2,ht3⟩
  (dsimp +instances only[Aa,Ab,Ac,Ad,Ae,Af,Ag])
  have ht4:0≤t:=by
   revert ht2
   split<;>intro _<;>omega
  refine aa.call (afL l _ t (by omega) (by omega) (by unfold rK; omega)) ?_;rintro _ ⟨b0,r,rfl,W,Y,F⟩;obtain⟨t',m,b,c,s,h,x,y,rfl,p1,p2,p3,p4,p5,p6,p7,p8⟩:=F.to
  (dsimp +instances only[Aa,Ab,Ac,Ad,Ae,Af,Ag])
  exact fin b0 _ _ _ _ _ _ _ _ _ _ _ (by omega) (by omega) ⟨N,O,sat,R,⟨p1,p2,p5,p6,p3,p4,p7,p8⟩,I,es,iE⟩
 ·refine aa.call (jv gM l _ _ (by omega) (by omega) (by kernel_rfl) (by kernel_rfl)) ?_
  rintro _ ⟨bd,rfl,hbd⟩
  (dsimp +instances only[Aa,Ab,Ac,Ad,Ae,Af,Ag])
  exact fin (a+1+1+1+1) _ _ _ _ _ _ _ _ _ _ _ (by omega) (by omega) ⟨N,O,sat,R,⟨iE,iE,I,U,iE,iE,J,J⟩,hbd,es,iE⟩
 ·refine aa.tail (P:=fun _ g=>∃ a2 s' A B,g=[.l l,.i a2,.l out,.l d,.i (q:Int),.s si,.i no,.i (at_+v),.i kd,.i 0,.i 0,.s (⟨#[]⟩:ByteArray),.s (⟨#[]⟩:ByteArray),.i s',.i 0,.s (⟨#[]⟩:ByteArray),.s (⟨#[]⟩:ByteArray),.s (⟨#[]⟩:ByteArray),.s A,.i B,.i (at_+v),.i (n:Int),.i (i:Int)] ∧
   a+1+1+1≤a2∧a2≤a+1+1+1+5∧pO si no (at_+v) kd 0 0 ⟨#[]⟩ ⟨#[]⟩ s' 0 ⟨#[]⟩ ⟨#[]⟩ ⟨#[]⟩ A B) (RN l out d _ no (at_+v) kd 0 0 0 0 0 _ _ _ ((i:Int)+1) q si _ _ _ _ _ _ _ (by omega) (by omega) (by omega) (by omega) M ⟨N,O,sat,R,⟨iE,iE,I,U,iE,iE,J,J⟩,I,es,iE⟩) (by simp) ?_
  rintro _ _ ⟨a2,s',A,B,rfl,W,Y,F⟩
  (dsimp +instances only[Aa,Ab,Ac,Ad,Ae,Af,Ag])
  simp only[aR];exact fin a2 _ _ _ _ _ _ _ _ _ _ _ (by omega) (by omega) F
 ·refine aa.tail (P:=fun _ g=>∃ a2 s' A B,g=[.l l,.i a2,.l out,.l d,.i (q:Int),.s si,.i no,.i (at_+v),.i kd,.i 0,.i 0,.s (⟨#[]⟩:ByteArray),.s (⟨#[]⟩:ByteArray),.i s',.i 0,.s (⟨#[]⟩:ByteArray),.s (⟨#[]⟩:ByteArray),.s (⟨#[]⟩:ByteArray),.s A,.i B,.i (at_+v),.i (n:Int),.i (i:Int)] ∧
   a+1+1+1≤a2∧a2≤a+1+1+1+5∧pO si no (at_+v) kd 0 0 ⟨#[]⟩ ⟨#[]⟩ s' 0 ⟨#[]⟩ ⟨#[]⟩ ⟨#[]⟩ A B) (RN l out d _ no (at_+v) kd 0 0 0 0 0 _ _ _ ((i:Int)+1) q si _ _ _ _ _ _ _ (by omega) (by omega) (by omega) (by omega) M ⟨N,O,sat,R,⟨iE,iE,I,U,iE,iE,J,J⟩,I,es,iE⟩) (by simp) ?_
  rintro _ _ ⟨a2,s',A,B,rfl,W,Y,F⟩
  (dsimp +instances only[Aa,Ab,Ac,Ad,Ae,Af,Ag])
  simp only[aR];exact fin a2 _ _ _ _ _ _ _ _ _ _ _ (by omega) (by omega) F
def H7(z:List G):Prop:=iT z∧0≤(gi z 2).int∧(gi z 2).int≤100
theorem RO(l:List (List G))(n:Nat)(hn:n≤20):∀(k i:Nat) (a t:Int) (ck:Nat) (acc mm:List (List G)),i+k=n→0≤a→a+100*(k:Int)≤700000→0≤t→t≤5*(i:Int)→(∀ z∈acc,H7 z)→acc.length=i→lR mm i →
  eh tS [.l l,.i a,.l acc,.l mm,.i (ck:Int),.i t,.i (n:Int),.i (i:Int)] (k+1) fun c g=>c=0∧∃ b rows,g=[.l l,.i b,.l rows]∧a≤b∧b≤a+100*k∧(∀ z∈rows,H7 z)∧rows.length=n
 | 0,i,a,t,ck,acc,mm,hi,B,O,F,A,q,I,J=>by
  refine eh.stop (x:=0) (aa.toEq ?_) ⟨rfl,a,acc,rfl,by omega,by omega,q,by omega⟩;unfold tS
  (dsimp +instances only[Aa,Ab,Ac,Ad,Ae,Af,Ag])
  (repeat first|refine aa.p ?_|refine aa.n ?_)
  exact aa.some rfl
 | k+1,i,a,t,ck,acc,mm,hi,B,O,F,A,q,I,J=>by
  obtain⟨_,h,b,r,M,N,v,rfl,h1,h2,R,h7,h4,h5,U⟩:=afZ l acc mm a t ck n i B (by omega) hn (by omega) (by omega) F A J;have W:=RO l n hn k (i+1) b (t+v) N (acc++[r]) M (by omega) (by omega) (by omega) (by omega) (by omega) (by
   intro z d;rcases List.mem_append.1 d with d|d
   ·exact q z d
   ·simp at d; exact d▸⟨R,by omega,by omega⟩) (by simp[I]) (by simpa using U)
  refine eh.next h (W.mono ?_)
  rintro c g ⟨rfl,Y,rows,rfl,q1,q2,q3,q4⟩;exact⟨rfl,Y,rows,rfl,by omega,by omega,q3,q4⟩
def fm(r s:List G):Int:=if (gi r 2).int≠(gi s 2).int then eS (gi r 2).int (gi s 2).int else if dM (gi r 0).str (gi s 0).str≠0 then dM (gi r 0).str (gi s 0).str else eS (gi r 1).int (gi s 1).int
theorem af0{r s:List G}(hr:iT r)(A:iT s):pK [.l [r],.l [s]]=some [.i (fm r s)]:=by
 obtain⟨si,no,at_,_,_,_,_,_,_,_,_,_,_,_,_,rfl,_,hn,I,_⟩:=hr;obtain⟨d,q,at',_,_,_,_,_,_,_,_,_,_,_,_,rfl,_,B,F,_⟩:=A;unfold small at *;refine aa.toEq ?_;unfold pK fm jy
 (dsimp +instances only[Aa,Ab,Ac,Ad,Ae,Af,Ag])
 simp only[pN];by_cases k:at_=at'
 ·subst k
  by_cases g:dM si d=0
  ·simp only [g]
   (repeat first|refine aa.p ?_|refine aa.n ?_)
   refine aa.cE (sign_eq no q) ?_
   (dsimp +instances only[Aa,Ab,Ac,Ad,Ae,Af,Ag])
   exact aa.some (by simp)
  ·refine aa.neg (by simp) (aa.pos (by simp [g]) ?_)
   refine aa.cE (rfl:iD [.s si,.s d]=some [.i (dM si d)]) ?_
   (dsimp +instances only[Aa,Ab,Ac,Ad,Ae,Af,Ag])
   exact aa.some (by simp[g])
 ·(repeat first|refine aa.p ?_|refine aa.n ?_)
  refine aa.cE (sign_eq at_ at') ?_
  (dsimp +instances only[Aa,Ab,Ac,Ad,Ae,Af,Ag])
  exact aa.some (by simp[k])
theorem af1:mH aq pK iT fm:=⟨fun _ _ hr d=>af0 hr d,fun _ h=>h.eta⟩
theorem af2(rows:List (List G))(hr:∀ y∈rows,iT y)(hn:rows.length≤20):Gq [.l rows]=some [.l (eI (bN fm) rows)]:=XX af1 rows hr hn
theorem af3(l:List (List G))(a n:Int)(q:0≤a)(F:a≤600000)(h0:0≤n)(h1:n≤20) :
  aa (Bf [.l l,.i a,.i n]) fun g=>∃ b rows,g=[.l l,.i b,.l rows]∧a≤b∧b≤a+2000∧(∀ z∈rows,H7 z)∧(rows.length:Int)≤n:=by
 obtain⟨n,rfl⟩:=Int.eq_ofNat_of_zero_le h0;unfold Bf
 (dsimp +instances only[Aa,Ab,Ac,Ad,Ae,Af,Ag])
 refine aa.loop ((RO l n (by omega) n 0 a 0 0 [] [] (by omega) q (by omega) (by omega) (by omega) (by simp) rfl (by simpa using lR.nil)).to (by omega)) rfl ?_;rintro c g ⟨rfl,b,rows,rfl,I,J,d,M⟩
 (dsimp +instances only[Aa,Ab,Ac,Ad,Ae,Af,Ag])
 have A:=MN (lt:=bN fm) d;have k:=rf (bN fm) rows;refine aa.nF (aa.eq (af2 rows (fun z B=>(d z B).1) (by omega))) (by(first|rfl|assumption|(simp only[az,sl]<;>omega))) ?_;rintro _ rfl
 (dsimp +instances only[Aa,Ab,Ac,Ad,Ae,Af,Ag])
 exact aa.pos (by simp[k]) (aa.some ⟨b,_,rfl,by omega,by omega,A,by omega⟩)
def fJ:List ByteArray:=[⟨#[]⟩,⟨#[115,97]⟩,⟨#[115,98]⟩,⟨#[115,99]⟩,⟨#[122,122]⟩]
def af4(si:ByteArray)(no at_ kd t m:Int)(b c:ByteArray)(s h:Int)(x y bd aV:ByteArray)(ot:Int):Prop :=
 si∈fJ∧small no∧small at_∧small kd∧(small t∧small m∧b∈gM∧c∈calls∧small s∧small h∧x∈names∧y∈names)∧bd∈gM∧aV∈fJ∧small ot
def bq(r:List G):Prop:=∃ si no at_ kd t m b c s h x y bd aV ot,r=jy si no at_ kd t m b c s h x y bd aV ot∧af4 si no at_ kd t m b c s h x y bd aV ot
theorem bq.eta{r:List G}(h:bq r):bh aq r=r:=by
 obtain⟨_,_,_,_,_,_,_,_,_,_,_,_,_,_,_,rfl,_⟩:=h;rfl
theorem af5{r s:List G}(hr:bq r)(A:bq s):pK [.l [r],.l [s]]=some [.i (fm r s)]:=by
 obtain⟨si,no,at_,_,_,_,_,_,_,_,_,_,_,_,_,rfl,_,hn,I,_⟩:=hr;obtain⟨d,q,at',_,_,_,_,_,_,_,_,_,_,_,_,rfl,_,B,F,_⟩:=A;unfold small at *;refine aa.toEq ?_;unfold pK fm jy
 (dsimp +instances only[Aa,Ab,Ac,Ad,Ae,Af,Ag])
 simp only[pN];by_cases k:at_=at'
 ·subst k
  by_cases g:dM si d=0
  ·simp only [g]
   (repeat first|refine aa.p ?_|refine aa.n ?_)
   refine aa.cE (sign_eq no q) ?_
   (dsimp +instances only[Aa,Ab,Ac,Ad,Ae,Af,Ag])
   exact aa.some (by simp)
  ·refine aa.neg (by simp) (aa.pos (by simp [g]) ?_)
   refine aa.cE (rfl:iD [.s si,.s d]=some [.i (dM si d)]) ?_
   (dsimp +instances only[Aa,Ab,Ac,Ad,Ae,Af,Ag])
   exact aa.some (by simp[g])
 ·(repeat first|refine aa.p ?_|refine aa.n ?_)
  refine aa.cE (sign_eq at_ at') ?_
  (dsimp +instances only[Aa,Ab,Ac,Ad,Ae,Af,Ag])
  exact aa.some (by simp[k])
theorem RP{s:ByteArray}(h:s∈lQ):s∈fJ:=by
 simp only[lQ,fJ,bI,iL,or_false]at h⊢;exact h.elim .inl fun h=>.inr (h.elim .inl fun h=>.inr (h.elim .inl fun h=>.inr (.inl h)))
theorem iT.to{r:List G}(h:iT r):bq r:=by
 obtain⟨_,_,_,_,_,_,_,_,_,_,_,_,_,_,_,rfl,d1,d2,d3,d4,d5,d6,d7,d8⟩:=h;exact⟨_,_,_,_,_,_,_,_,_,_,_,_,_,_,_,rfl,RP d1,d2,d3,d4,d5,d6,RP d7,d8⟩
def jU(s:ByteArray):Bool:=nQ [⟨#[115,97]⟩,⟨#[115,98]⟩,⟨#[115,99]⟩,⟨#[122,122]⟩] s
theorem RQ{s:ByteArray}(h:s∈fJ):mJ [.s s]=some [.t (jU s)]:=by
 simp only[fJ,bI,iL,or_false]at h;rcases h with rfl|rfl|rfl|rfl|rfl<;>kernel_rfl
theorem RR{s:ByteArray}(h:s∈fJ):nN [.s s]=some [.t (jU s)]:=by
 simp only[fJ,bI,iL,or_false]at h;rcases h with rfl|rfl|rfl|rfl|rfl<;>kernel_rfl
def xJ(r:List G):List G:=[.i (gi r 4).int,.i (gi r 5).int,.s (gi r 6).str,.s (gi r 7).str,.i (gi r 8).int,.i (gi r 9).int,.s (gi r 10).str,.s (gi r 11).str]
def uk(r:List G):List G:=[.s (gi r 0).str,.i (gi r 1).int,.i (gi r 2).int,.i (gi r 3).int]
def iU(r:List G):Int :=
 bif !jU (gi r 0).str then 5 else bif !cz (gi r 1).int 1 1000000 then 1 else bif !cz (gi r 2).int 0 345686399999 then 1 else bif !cz (gi r 3).int 1 5 then 4 else
 bif (gi r 3).int==1 then (bif lP (xJ r) != 0 then lP (xJ r) else bif aB (gi r 2).int (gi r 4).int then 1 else
  bif !aF aq r (uk r++xJ r++[.s (⟨#[]⟩:ByteArray),.s (⟨#[]⟩:ByteArray),.i 0]) then 3 else 0)
 else bif (gi r 3).int==2 then (bif !jT (gi r 12).str then 5 else
  bif !aF aq r (uk r++[.i 0,.i 0,.s (⟨#[]⟩:ByteArray),.s (⟨#[]⟩:ByteArray),.i 0,.i 0,.s (⟨#[]⟩:ByteArray),.s (⟨#[]⟩:ByteArray),.s (gi r 12).str,.s (⟨#[]⟩:ByteArray),.i 0]) then 3 else 0)
 else bif (gi r 3).int==5 then (bif !jU (gi r 13).str then 5 else bif !cz (gi r 14).int 1 1000000 then 1 else
  bif !aF aq r (uk r++[.i 0,.i 0,.s (⟨#[]⟩:ByteArray),.s (⟨#[]⟩:ByteArray),.i 0,.i 0,.s (⟨#[]⟩:ByteArray),.s (⟨#[]⟩:ByteArray),.s (⟨#[]⟩:ByteArray),.s (gi r 13).str,.i (gi r 14).int]) then 3 else 0)
 else (bif !cz (gi r 8).int 1 99999 then 1 else
  bif !aF aq r (uk r++[.i 0,.i 0,.s (⟨#[]⟩:ByteArray),.s (⟨#[]⟩:ByteArray),.i (gi r 8).int,.i 0,.s (⟨#[]⟩:ByteArray),.s (⟨#[]⟩:ByteArray),.s (⟨#[]⟩:ByteArray),.s (⟨#[]⟩:ByteArray),.i 0]) then 3 else 0)
theorem nS(b:Bool):(bif !b then some [G.i 3] else some [G.i 0])=some [G.i (bif !b then 3 else 0)]:=by cases b<;>rfl
theorem af6{r:List G}(hr:bq r):Bg [.l [r]]=some [.i (iU r)]:=by
 obtain⟨si,no,at_,kd,t,m,b,c,s,h,x,y,bd,aV,ot,rfl,d1,_,_,_,⟨c1,c2,d,g,k,q,A,B⟩,d6,d7,_⟩:=hr;have F:xb [.l [[.i t,.i m,.s b,.s c,.i s,.i h,.s x,.s y]]]=some [.i (lP [.i t,.i m,.s b,.s c,.i s,.i h,.s x,.s y])] :=
  afR ⟨t,m,b,c,s,h,x,y,rfl,c1,c2,k,q,d,g,A,B⟩
 have I:=RR d1;have J:=RR d7;have M:=B4 (.inl d6);unfold Bg xa iU jy xJ uk
 (dsimp +instances only[Aa,Ab,Ac,Ad,Ae,Af,Ag])
 simp only[Rz,zY rfl,I,J,M,F]
 (dsimp +instances only[Aa,Ab,Ac,Ad,Ae,Af,Ag])
 generalize jU si=b1;generalize cz no 1 1000000=N;generalize cz at_ 0 345686399999=O;generalize cz kd 1 5=R;generalize lP [.i t,.i m,.s b,.s c,.i s,.i h,.s x,.s y]=v;cases b1<;>cases N<;>cases O<;>cases R<;>try rfl
 cases kd==1
 ·cases kd == 2
  ·cases kd == 5
   ·cases cz s 1 99999
    ·rfl
    ·exact nS _
   ·cases jU aV<;>cases cz ot 1 1000000<;>first|rfl|exact nS _
  ·cases jT bd<;>first|rfl|exact nS _
 ·cases v != 0<;>cases aB at_ t<;>first|rfl|exact nS _
theorem af7(no at_ t m s h ot:Int)(si b c x y bd aV:ByteArray):kK [.l [[.s si,.i no,.i at_,.i 1,.i t,.i m,.s b,.s c,.i s,.i h,.s x,.s y,.s bd,.s aV,.i ot]]]=some [.t (aF aq [.s si,.i no,.i at_,.i 1,.i t,.i m,.s b,.s c,.i s,.i h,.s x,.s y,.s bd,.s aV,.i ot] [.s si,.i no,.i at_,.i 1,.i t,.i m,.s b,.s c,.i s,.i h,.s x,.s y,.s (⟨#[]⟩:ByteArray),.s (⟨#[]⟩:ByteArray),.i 0])]:=by
 have e:aF aq [.s si,.i no,.i at_,.i 1,.i t,.i m,.s b,.s c,.i s,.i h,.s x,.s y,.s bd,.s aV,.i ot] [.s si,.i no,.i at_,.i 1,.i t,.i m,.s b,.s c,.i s,.i h,.s x,.s y,.s (⟨#[]⟩:ByteArray),.s (⟨#[]⟩:ByteArray),.i 0]=((si.toList==si.toList)&&((no==no)&&((at_==at_)&&(((1:Int)==1)&&((t==t)&&((m==m)&&((b.toList==b.toList)&&((c.toList==c.toList)&&((s==s)&&((h==h)&&((x.toList==x.toList)&&((y.toList==y.toList)&&((bd.toList==(⟨#[]⟩:ByteArray).toList)&&((aV.toList==(⟨#[]⟩:ByteArray).toList)&&((ot==0)&&true))))))))))))))):=rfl;have d:aF [.int .i64,.int .i64,.str,.str,.int .i64,.int .i64,.str,.str] [.i t,.i m,.s b,.s c,.i s,.i h,.s x,.s y] [.i 0,.i 0,.s (⟨#[]⟩:ByteArray),.s (⟨#[]⟩:ByteArray),.i 0,.i 0,.s (⟨#[]⟩:ByteArray),.s (⟨#[]⟩:ByteArray)]=((t==0)&&((m==0)&&((b.toList==(⟨#[]⟩:ByteArray).toList)&&((c.toList==(⟨#[]⟩:ByteArray).toList)&&((s==0)&&((h==0)&&((x.toList==(⟨#[]⟩:ByteArray).toList)&&((y.toList==(⟨#[]⟩:ByteArray).toList)&&true)))))))):=rfl;rw[e];unfold kK
 (dsimp +instances only[Aa,Ab,Ac,Ad,Ae,Af,Ag])
 try rw[d]
 simp only[beq_self_eq_true,iY,dZ,lY];generalize (bd.toList==(⟨#[]⟩:ByteArray).toList)=g;generalize (aV.toList==(⟨#[]⟩:ByteArray).toList)=k;generalize (ot==0)=q;cases g<;>cases k<;>cases q<;>rfl
theorem af8(no at_ t m s h ot:Int)(si b c x y bd aV:ByteArray):kK [.l [[.s si,.i no,.i at_,.i 2,.i t,.i m,.s b,.s c,.i s,.i h,.s x,.s y,.s bd,.s aV,.i ot]]]=some [.t (aF aq [.s si,.i no,.i at_,.i 2,.i t,.i m,.s b,.s c,.i s,.i h,.s x,.s y,.s bd,.s aV,.i ot] [.s si,.i no,.i at_,.i 2,.i 0,.i 0,.s (⟨#[]⟩:ByteArray),.s (⟨#[]⟩:ByteArray),.i 0,.i 0,.s (⟨#[]⟩:ByteArray),.s (⟨#[]⟩:ByteArray),.s bd,.s (⟨#[]⟩:ByteArray),.i 0])]:=by
 have e:aF aq [.s si,.i no,.i at_,.i 2,.i t,.i m,.s b,.s c,.i s,.i h,.s x,.s y,.s bd,.s aV,.i ot] [.s si,.i no,.i at_,.i 2,.i 0,.i 0,.s (⟨#[]⟩:ByteArray),.s (⟨#[]⟩:ByteArray),.i 0,.i 0,.s (⟨#[]⟩:ByteArray),.s (⟨#[]⟩:ByteArray),.s bd,.s (⟨#[]⟩:ByteArray),.i 0]=((si.toList==si.toList)&&((no==no)&&((at_==at_)&&(((2:Int)==2)&&((t==0)&&((m==0)&&((b.toList==(⟨#[]⟩:ByteArray).toList)&&((c.toList==(⟨#[]⟩:ByteArray).toList)&&((s==0)&&((h==0)&&((x.toList==(⟨#[]⟩:ByteArray).toList)&&((y.toList==(⟨#[]⟩:ByteArray).toList)&&((bd.toList==bd.toList)&&((aV.toList==(⟨#[]⟩:ByteArray).toList)&&((ot==0)&&true))))))))))))))):=rfl;have g:aF [.int .i64,.int .i64,.str,.str,.int .i64,.int .i64,.str,.str] [.i t,.i m,.s b,.s c,.i s,.i h,.s x,.s y] [.i 0,.i 0,.s (⟨#[]⟩:ByteArray),.s (⟨#[]⟩:ByteArray),.i 0,.i 0,.s (⟨#[]⟩:ByteArray),.s (⟨#[]⟩:ByteArray)]=((t==0)&&((m==0)&&((b.toList==(⟨#[]⟩:ByteArray).toList)&&((c.toList==(⟨#[]⟩:ByteArray).toList)&&((s==0)&&((h==0)&&((x.toList==(⟨#[]⟩:ByteArray).toList)&&((y.toList==(⟨#[]⟩:ByteArray).toList)&&true)))))))):=rfl;rw[e];unfold kK
 (dsimp +instances only[Aa,Ab,Ac,Ad,Ae,Af,Ag])
 try rw[g]
 simp only[beq_self_eq_true,iY,dZ,lY];generalize (bd.toList==(⟨#[]⟩:ByteArray).toList)=k;generalize (aV.toList==(⟨#[]⟩:ByteArray).toList)=q;generalize (ot==0)=A;generalize ((t==0))=B;generalize ((m==0))=F;generalize ((b.toList==(⟨#[]⟩:ByteArray).toList))=I;generalize ((c.toList==(⟨#[]⟩:ByteArray).toList))=J;generalize ((s==0))=M;generalize ((h==0))=N;generalize ((x.toList==(⟨#[]⟩:ByteArray).toList))=O;generalize ((y.toList==(⟨#[]⟩:ByteArray).toList))=d;cases B
 ·rfl
 cases F
 ·rfl
 cases I
 ·rfl
 cases J
 ·rfl
 cases M
 ·rfl
 cases N
 ·rfl
 cases O
 ·rfl
 cases d
 ·rfl
 cases k<;>cases q<;>cases A<;>rfl
theorem af9(no at_ t m s h ot:Int)(si b c x y bd aV:ByteArray):kK [.l [[.s si,.i no,.i at_,.i 3,.i t,.i m,.s b,.s c,.i s,.i h,.s x,.s y,.s bd,.s aV,.i ot]]]=some [.t (aF aq [.s si,.i no,.i at_,.i 3,.i t,.i m,.s b,.s c,.i s,.i h,.s x,.s y,.s bd,.s aV,.i ot] [.s si,.i no,.i at_,.i 3,.i 0,.i 0,.s (⟨#[]⟩:ByteArray),.s (⟨#[]⟩:ByteArray),.i s,.i 0,.s (⟨#[]⟩:ByteArray),.s (⟨#[]⟩:ByteArray),.s (⟨#[]⟩:ByteArray),.s (⟨#[]⟩:ByteArray),.i 0])]:=by
 have e:aF aq [.s si,.i no,.i at_,.i 3,.i t,.i m,.s b,.s c,.i s,.i h,.s x,.s y,.s bd,.s aV,.i ot] [.s si,.i no,.i at_,.i 3,.i 0,.i 0,.s (⟨#[]⟩:ByteArray),.s (⟨#[]⟩:ByteArray),.i s,.i 0,.s (⟨#[]⟩:ByteArray),.s (⟨#[]⟩:ByteArray),.s (⟨#[]⟩:ByteArray),.s (⟨#[]⟩:ByteArray),.i 0]=((si.toList==si.toList)&&((no==no)&&((at_==at_)&&(((3:Int)==3)&&((t==0)&&((m==0)&&((b.toList==(⟨#[]⟩:ByteArray).toList)&&((c.toList==(⟨#[]⟩:ByteArray).toList)&&((s==s)&&((h==0)&&((x.toList==(⟨#[]⟩:ByteArray).toList)&&((y.toList==(⟨#[]⟩:ByteArray).toList)&&((bd.toList==(⟨#[]⟩:ByteArray).toList)&&((aV.toList==(⟨#[]⟩:ByteArray).toList)&&((ot==0)&&true))))))))))))))):=rfl;have d:aF [.int .i64,.int .i64,.str,.str,.int .i64,.int .i64,.str,.str] [.i t,.i m,.s b,.s c,.i s,.i h,.s x,.s y] [.i 0,.i 0,.s (⟨#[]⟩:ByteArray),.s (⟨#[]⟩:ByteArray),.i s,.i 0,.s (⟨#[]⟩:ByteArray),.s (⟨#[]⟩:ByteArray)]=((t==0)&&((m==0)&&((b.toList==(⟨#[]⟩:ByteArray).toList)&&((c.toList==(⟨#[]⟩:ByteArray).toList)&&((s==s)&&((h==0)&&((x.toList==(⟨#[]⟩:ByteArray).toList)&&((y.toList==(⟨#[]⟩:ByteArray).toList)&&true)))))))):=rfl;rw[e];unfold kK
 (dsimp +instances only[Aa,Ab,Ac,Ad,Ae,Af,Ag])
 try rw[d]
 simp only[beq_self_eq_true,iY,dZ,lY];generalize (bd.toList==(⟨#[]⟩:ByteArray).toList)=g;generalize (aV.toList==(⟨#[]⟩:ByteArray).toList)=k;generalize (ot==0)=q;generalize ((t==0))=A;generalize ((m==0))=B;generalize ((b.toList==(⟨#[]⟩:ByteArray).toList))=F;generalize ((c.toList==(⟨#[]⟩:ByteArray).toList))=I;generalize ((h==0))=J;generalize ((x.toList==(⟨#[]⟩:ByteArray).toList))=M;generalize ((y.toList==(⟨#[]⟩:ByteArray).toList))=N;cases A
 ·rfl
 cases B
 ·rfl
 cases F
 ·rfl
 cases I
 ·rfl
 cases J
 ·rfl
 cases M
 ·rfl
 cases N
 ·rfl
 cases g<;>cases k<;>cases q<;>rfl
theorem af_(no at_ t m s h ot:Int)(si b c x y bd aV:ByteArray):kK [.l [[.s si,.i no,.i at_,.i 4,.i t,.i m,.s b,.s c,.i s,.i h,.s x,.s y,.s bd,.s aV,.i ot]]]=some [.t (aF aq [.s si,.i no,.i at_,.i 4,.i t,.i m,.s b,.s c,.i s,.i h,.s x,.s y,.s bd,.s aV,.i ot] [.s si,.i no,.i at_,.i 4,.i 0,.i 0,.s (⟨#[]⟩:ByteArray),.s (⟨#[]⟩:ByteArray),.i s,.i 0,.s (⟨#[]⟩:ByteArray),.s (⟨#[]⟩:ByteArray),.s (⟨#[]⟩:ByteArray),.s (⟨#[]⟩:ByteArray),.i 0])]:=by
 have e:aF aq [.s si,.i no,.i at_,.i 4,.i t,.i m,.s b,.s c,.i s,.i h,.s x,.s y,.s bd,.s aV,.i ot] [.s si,.i no,.i at_,.i 4,.i 0,.i 0,.s (⟨#[]⟩:ByteArray),.s (⟨#[]⟩:ByteArray),.i s,.i 0,.s (⟨#[]⟩:ByteArray),.s (⟨#[]⟩:ByteArray),.s (⟨#[]⟩:ByteArray),.s (⟨#[]⟩:ByteArray),.i 0]=((si.toList==si.toList)&&((no==no)&&((at_==at_)&&(((4:Int)==4)&&((t==0)&&((m==0)&&((b.toList==(⟨#[]⟩:ByteArray).toList)&&((c.toList==(⟨#[]⟩:ByteArray).toList)&&((s==s)&&((h==0)&&((x.toList==(⟨#[]⟩:ByteArray).toList)&&((y.toList==(⟨#[]⟩:ByteArray).toList)&&((bd.toList==(⟨#[]⟩:ByteArray).toList)&&((aV.toList==(⟨#[]⟩:ByteArray).toList)&&((ot==0)&&true))))))))))))))):=rfl;have d:aF [.int .i64,.int .i64,.str,.str,.int .i64,.int .i64,.str,.str] [.i t,.i m,.s b,.s c,.i s,.i h,.s x,.s y] [.i 0,.i 0,.s (⟨#[]⟩:ByteArray),.s (⟨#[]⟩:ByteArray),.i s,.i 0,.s (⟨#[]⟩:ByteArray),.s (⟨#[]⟩:ByteArray)]=((t==0)&&((m==0)&&((b.toList==(⟨#[]⟩:ByteArray).toList)&&((c.toList==(⟨#[]⟩:ByteArray).toList)&&((s==s)&&((h==0)&&((x.toList==(⟨#[]⟩:ByteArray).toList)&&((y.toList==(⟨#[]⟩:ByteArray).toList)&&true)))))))):=rfl;rw[e];unfold kK
 (dsimp +instances only[Aa,Ab,Ac,Ad,Ae,Af,Ag])
 try rw[d]
 simp only[beq_self_eq_true,iY,dZ,lY];generalize (bd.toList==(⟨#[]⟩:ByteArray).toList)=g;generalize (aV.toList==(⟨#[]⟩:ByteArray).toList)=k;generalize (ot==0)=q;generalize ((t==0))=A;generalize ((m==0))=B;generalize ((b.toList==(⟨#[]⟩:ByteArray).toList))=F;generalize ((c.toList==(⟨#[]⟩:ByteArray).toList))=I;generalize ((h==0))=J;generalize ((x.toList==(⟨#[]⟩:ByteArray).toList))=M;generalize ((y.toList==(⟨#[]⟩:ByteArray).toList))=N;cases A
 ·rfl
 cases B
 ·rfl
 cases F
 ·rfl
 cases I
 ·rfl
 cases J
 ·rfl
 cases M
 ·rfl
 cases N
 ·rfl
 cases g<;>cases k<;>cases q<;>rfl
theorem af'(no at_ t m s h ot:Int)(si b c x y bd aV:ByteArray):kK [.l [[.s si,.i no,.i at_,.i 5,.i t,.i m,.s b,.s c,.i s,.i h,.s x,.s y,.s bd,.s aV,.i ot]]]=some [.t (aF aq [.s si,.i no,.i at_,.i 5,.i t,.i m,.s b,.s c,.i s,.i h,.s x,.s y,.s bd,.s aV,.i ot] [.s si,.i no,.i at_,.i 5,.i 0,.i 0,.s (⟨#[]⟩:ByteArray),.s (⟨#[]⟩:ByteArray),.i 0,.i 0,.s (⟨#[]⟩:ByteArray),.s (⟨#[]⟩:ByteArray),.s (⟨#[]⟩:ByteArray),.s aV,.i ot])]:=by
 have e:aF aq [.s si,.i no,.i at_,.i 5,.i t,.i m,.s b,.s c,.i s,.i h,.s x,.s y,.s bd,.s aV,.i ot] [.s si,.i no,.i at_,.i 5,.i 0,.i 0,.s (⟨#[]⟩:ByteArray),.s (⟨#[]⟩:ByteArray),.i 0,.i 0,.s (⟨#[]⟩:ByteArray),.s (⟨#[]⟩:ByteArray),.s (⟨#[]⟩:ByteArray),.s aV,.i ot]=((si.toList==si.toList)&&((no==no)&&((at_==at_)&&(((5:Int)==5)&&((t==0)&&((m==0)&&((b.toList==(⟨#[]⟩:ByteArray).toList)&&((c.toList==(⟨#[]⟩:ByteArray).toList)&&((s==0)&&((h==0)&&((x.toList==(⟨#[]⟩:ByteArray).toList)&&((y.toList==(⟨#[]⟩:ByteArray).toList)&&((bd.toList==(⟨#[]⟩:ByteArray).toList)&&((aV.toList==aV.toList)&&((ot==ot)&&true))))))))))))))):=rfl;have g:aF [.int .i64,.int .i64,.str,.str,.int .i64,.int .i64,.str,.str] [.i t,.i m,.s b,.s c,.i s,.i h,.s x,.s y] [.i 0,.i 0,.s (⟨#[]⟩:ByteArray),.s (⟨#[]⟩:ByteArray),.i 0,.i 0,.s (⟨#[]⟩:ByteArray),.s (⟨#[]⟩:ByteArray)]=((t==0)&&((m==0)&&((b.toList==(⟨#[]⟩:ByteArray).toList)&&((c.toList==(⟨#[]⟩:ByteArray).toList)&&((s==0)&&((h==0)&&((x.toList==(⟨#[]⟩:ByteArray).toList)&&((y.toList==(⟨#[]⟩:ByteArray).toList)&&true)))))))):=rfl;rw[e];unfold kK
 (dsimp +instances only[Aa,Ab,Ac,Ad,Ae,Af,Ag])
 try rw[g]
 simp only[beq_self_eq_true,iY,dZ,lY];generalize (bd.toList==(⟨#[]⟩:ByteArray).toList)=k;generalize (aV.toList==(⟨#[]⟩:ByteArray).toList)=q;generalize (ot==0)=A;generalize ((t==0))=B;generalize ((m==0))=F;generalize ((b.toList==(⟨#[]⟩:ByteArray).toList))=I;generalize ((c.toList==(⟨#[]⟩:ByteArray).toList))=J;generalize ((s==0))=M;generalize ((h==0))=N;generalize ((x.toList==(⟨#[]⟩:ByteArray).toList))=O;generalize ((y.toList==(⟨#[]⟩:ByteArray).toList))=d;cases B
 ·rfl
 cases F
 ·rfl
 cases I
 ·rfl
 cases J
 ·rfl
 cases M
 ·rfl
 cases N
 ·rfl
 cases O
 ·rfl
 cases d
 ·rfl
 cases k<;>cases q<;>cases A<;>rfl
section
variable (si b c x y bd aV:ByteArray) (no at_ t m s h ot:Int)
theorem aga(v:Int)(g:rm [.l [[.i t,.i m,.s b,.s c,.i s,.i h,.s x,.s y]]]=some [.i v]) :
  mM [.l [[.s si,.i no,.i at_,.i 1,.i t,.i m,.s b,.s c,.i s,.i h,.s x,.s y,.s bd,.s aV,.i ot]]]=some [.i (bif v != 0 then v else bif aB at_ t then 1 else 0)]:=by
 have e:Bp [.l [[.s si,.i no,.i at_,.i 1,.i t,.i m,.s b,.s c,.i s,.i h,.s x,.s y,.s bd,.s aV,.i ot]]]=some [.i (bif v != 0 then v else bif aB at_ t then 1 else 0)]:=by
  refine aa.toEq ?_;unfold Bp
  (dsimp +instances only[Aa,Ab,Ac,Ad,Ae,Af,Ag])
  refine aa.cE g ?_
  (dsimp +instances only[Aa,Ab,Ac,Ad,Ae,Af,Ag])
  refine aa.test (fun h1=>aa.some ?_) fun h1=>aa.test (fun d=>aa.some ?_) fun d=>aa.some ?_
  ·simp only[h1,cond_true]
  ·simp only[h1,d,cond_true,cond_false]
  ·simp only[h1,d,cond_false]
 refine aa.toEq ?_;unfold mM
 (dsimp +instances only[Aa,Ab,Ac,Ad,Ae,Af,Ag])
 try refine aa.pos rfl ?_
 refine aa.cE e ?_;exact aa.some rfl
theorem agb(d:bd∈gM) :
  mM [.l [[.s si,.i no,.i at_,.i 2,.i t,.i m,.s b,.s c,.i s,.i h,.s x,.s y,.s bd,.s aV,.i ot]]]=some [.i (bif !jT bd then 5 else 0)]:=by
 refine aa.toEq ?_;unfold mM
 (dsimp +instances only[Aa,Ab,Ac,Ad,Ae,Af,Ag])
 try refine aa.neg rfl ?_
 try refine aa.pos rfl ?_
 refine aa.cE (RB (.inl d)) ?_;cases jT bd<;>exact aa.some rfl
theorem agc(d:aV∈fJ) :
  mM [.l [[.s si,.i no,.i at_,.i 5,.i t,.i m,.s b,.s c,.i s,.i h,.s x,.s y,.s bd,.s aV,.i ot]]]=some [.i (bif !jU aV then 5 else bif !cz ot 1 1000000 then 1 else 0)]:=by
 refine aa.toEq ?_;unfold mM
 (dsimp +instances only[Aa,Ab,Ac,Ad,Ae,Af,Ag])
 try refine aa.neg rfl ?_
 try refine aa.neg rfl ?_
 try refine aa.pos rfl ?_
 refine aa.cE (RQ d) ?_;cases jU aV
 ·exact aa.some rfl
 refine aa.neg rfl ?_;refine aa.cE (nR ot 1 1000000) ?_;cases cz ot 1 1000000<;>exact aa.some rfl
theorem agd(kd:Int)(hk:kd=3∨kd=4) :
  mM [.l [[.s si,.i no,.i at_,.i kd,.i t,.i m,.s b,.s c,.i s,.i h,.s x,.s y,.s bd,.s aV,.i ot]]]=some [.i (bif !cz s 1 99999 then 1 else 0)]:=by
 refine aa.toEq ?_;unfold mM
 (dsimp +instances only[Aa,Ab,Ac,Ad,Ae,Af,Ag])
 refine aa.neg (by rcases hk with rfl|rfl<;>rfl) (aa.neg (by rcases hk with rfl|rfl<;>rfl) (aa.neg (by rcases hk with rfl|rfl<;>rfl) ?_));refine aa.cE (nR s 1 99999) ?_;cases cz s 1 99999<;>exact aa.some rfl
end
theorem RS(v:Int):rk [.i v]=some [.t (cz v 0 345686399999)]:=by
 refine aa.toEq ?_;unfold rk
 (dsimp +instances only[Aa,Ab,Ac,Ad,Ae,Af,Ag])
 refine aa.cE (nR v 0 345686399999) ?_;cases cz v 0 345686399999<;>exact aa.some rfl
theorem age{r:List G}(hr:bq r):Bq [.l [r]]=some [.i (iU r)]:=by
 obtain⟨si,no,at_,kd,t,m,b,c,s,h,x,y,bd,aV,ot,rfl,d1,_,_,_,⟨c1,c2,g,k,q,A,B,F⟩,d6,d7,_⟩:=hr;have I:rm [.l [[.i t,.i m,.s b,.s c,.i s,.i h,.s x,.s y]]]=some [.i (lP [.i t,.i m,.s b,.s c,.i s,.i h,.s x,.s y])] :=
  afQ ⟨t,m,b,c,s,h,x,y,rfl,c1,c2,q,A,g,k,B,F⟩
 have hk:cz kd 1 5=true→kd=1∨kd=2∨kd=5∨kd=3∨kd=4:=by
  unfold cz;rw[er,er,aw,decide_eq_true_eq,decide_eq_true_eq];omega
 refine aa.toEq ?_;unfold Bq iU jy xJ uk
 (dsimp +instances only[Aa,Ab,Ac,Ad,Ae,Af,Ag])
 refine aa.cE (RQ d1) ?_;cases jU si
 ·exact aa.some rfl
 refine aa.neg rfl ?_;refine aa.cE (nR no 1 1000000) ?_;cases cz no 1 1000000
 ·exact aa.some rfl
 refine aa.neg rfl ?_;refine aa.cE (RS at_) ?_;cases cz at_ 0 345686399999
 ·exact aa.some rfl
 refine aa.neg rfl ?_;refine aa.cE (nR kd 1 5) ?_;cases d:cz kd 1 5
 ·exact aa.some rfl
 refine aa.neg rfl ?_;rcases hk d with rfl|rfl|rfl|hk
 ·refine aa.call (aa.eq (aga si b c x y bd aV no at_ t m s h ot _ I)) ?_
  rintro _ rfl
  (dsimp +instances only[Aa,Ab,Ac,Ad,Ae,Af,Ag])
  generalize lP [.i t,.i m,.s b,.s c,.i s,.i h,.s x,.s y]=v;cases J:v != 0
  ·cases aB at_ t
   ·refine aa.neg rfl ?_
    refine aa.cE (af7 no at_ t m s h ot si b c x y bd aV) ?_;exact⟨_,nS _,rfl⟩
   ·exact aa.pos rfl (aa.some rfl)
  ·exact aa.pos J (aa.some rfl)
 ·refine aa.call (aa.eq (agb si b c x y bd aV no at_ t m s h ot d6)) ?_
  rintro _ rfl;cases jT bd
  ·exact aa.pos rfl (aa.some rfl)
  refine aa.neg rfl ?_;refine aa.cE (af8 no at_ t m s h ot si b c x y bd aV) ?_;exact⟨_,nS _,rfl⟩
 ·refine aa.call (aa.eq (agc si b c x y bd aV no at_ t m s h ot d7)) ?_
  rintro _ rfl;cases jU aV
  ·exact aa.pos rfl (aa.some rfl)
  cases cz ot 1 1000000
  ·exact aa.pos rfl (aa.some rfl)
  refine aa.neg rfl ?_;refine aa.cE (af' no at_ t m s h ot si b c x y bd aV) ?_;exact⟨_,nS _,rfl⟩
 ·refine aa.call (aa.eq (agd si b c x y bd aV no at_ t m s h ot kd hk)) ?_
  rintro _ rfl;cases cz s 1 99999
  ·refine aa.pos rfl (aa.some ?_)
   rcases hk with rfl|rfl<;>rfl
  refine aa.neg rfl ?_;rcases hk with rfl|rfl
  ·refine aa.call (aa.eq (af9 no at_ t m s h ot si b c x y bd aV)) ?_
   rintro _ rfl;exact⟨_,nS _,rfl⟩
  ·refine aa.call (aa.eq (af_ no at_ t m s h ot si b c x y bd aV)) ?_
   rintro _ rfl;exact⟨_,nS _,rfl⟩
def pP(rows:List (List G))(i:Nat):Prop:=(∀ j,j<i→iU (rows.getD j [])=0)∧∀ j,j+1<i→fm (rows.getD j []) (rows.getD (j+1) [])<0
def kO(rows:List (List G))(i:Nat)(v:Int):Prop:=pP rows i∧i<rows.length ∧
 ((iU (rows.getD i [])≠0∧v=iU (rows.getD i []))∨(iU (rows.getD i [])=0∧0<i∧¬ fm (rows.getD (i-1) []) (rows.getD i [])<0∧v=7))
theorem kO.ne{rows:List (List G)}{i:Nat}{v:Int}(h:kO rows i v):v≠0:=by
 rcases h.2.2 with⟨h1,rfl⟩|⟨_,_,_,rfl⟩
 ·exact h1
 ·decide
theorem kO.B_{rows:List (List G)}{i j:Nat}{v:Int}(h:kO rows i v)(d:i<j):¬ pP rows j:=by
 rintro⟨h1,g⟩;rcases h.2.2 with⟨k,_⟩|⟨_,A,q,_⟩
 ·exact k (h1 i d)
 ·have := g (i - 1) (by omega)
  rw[show i-1+1=i by omega]at this;exact q this
theorem kO.unique{rows:List (List G)}{i j:Nat}{v w:Int}(h:kO rows i v)(h':kO rows j w):v=w:=by
 have e:i=j:=by
  rcases Nat.lt_trichotomy i j with e|e|e
  ·exact(h.B_ e h'.1).elim
  ·exact e
  ·exact(h'.B_ e h.1).elim
 subst e;rcases h.2.2 with⟨h1,rfl⟩|⟨h1,_,_,rfl⟩<;>rcases h'.2.2 with⟨d,rfl⟩|⟨d,_,_,rfl⟩
 ·rfl
 ·exact(h1 d).elim
 ·exact(d h1).elim
 ·rfl
theorem agf(rows:List (List G))(hr:∀ z∈rows,bq z)(hn:rows.length≤20) :
  fy xc [.l rows,.l rows,.i (rows.length:Int),.i 0] fun c g=>(pP rows rows.length∧c=1∧g=[.l rows])∨(c=0∧∃ v,(∃ i,kO rows i v)∧g=[.i v]):=by
 refine(pF (σ:=Unit) (fun _ i=>[.l rows,.l rows,.i (rows.length:Int),.i (i:Int)]) rows (fun _=>(1,[.l rows])) (fun _ i=>pP rows i) (fun c g=>c=0∧∃ v,(∃ i,kO rows i v)∧g=[.i v]) () (by omega) ⟨fun j h=>by omega,fun j h=>by omega⟩ ?_ ?_).mono ?_
 ·intro _ i x q hi d hm _
  unfold xc
  (dsimp +instances only[Aa,Ab,Ac,Ad,Ae,Af,Ag])
  have ex:=(hr x hm).eta;refine aa.p (aa.p ?_);simp only[aR,d,ex];refine aa.cE (af6 (hr x hm)) ?_
  (dsimp +instances only[Aa,Ab,Ac,Ad,Ae,Af,Ag])
  refine aa.test (fun h1=>aa.some (.inr ⟨0,_,rfl,rfl,_,⟨i,q,hi,.inl ⟨by rw[d]; simpa using h1,by rw[d]⟩⟩,rfl⟩)) fun h1=>?_;have h1:iU x=0:=by simpa using h1
  refine aa.test (fun k=>?_) fun k=>?_
  ·have k:0<i:=by
    rw[dT,decide_eq_true_eq]at k;omega
   have I:((i:Int)-1).toNat=i-1:=by omega
   have F:rows.getD (i-1) []∈rows:=nG (by omega);refine aa.p (aa.p ?_);simp only[I,(hr _ F).eta];refine aa.cE (af5 (hr _ F) (hr x hm)) ?_
   (dsimp +instances only[Aa,Ab,Ac,Ad,Ae,Af,Ag])
   refine aa.test (fun A=>aa.some (.inr ⟨0,_,rfl,rfl,7,⟨i,q,hi,.inr ⟨by rw[d]; exact h1,k,by rw[er,decide_eq_true_eq]at A; rw[d]; omega,rfl⟩⟩,rfl⟩)) fun A=>?_;refine aa.p (aa.some (.inl ⟨(),rfl,fun j B=>?_,fun j B=>?_⟩))
   ·by_cases e : j = i
    ·rw[e,d,h1]
    ·exact q.1 j (by omega)
   ·by_cases e : j + 1 = i
    ·rw [er, decide_eq_false_iff_not] at A
     rw[e,d,show j=i-1 from by omega];omega
    ·exact q.2 j (by omega)
  ·have k:i=0:=by
    rw[dT,decide_eq_false_iff_not]at k;omega
   refine aa.p (aa.some (.inl ⟨(),rfl,fun j B=>?_,fun j B=>by omega⟩));rw[show j=i from by omega,d,h1]
 ·intro _ _
  unfold xc
  (dsimp +instances only[Aa,Ab,Ac,Ad,Ae,Af,Ag])
  refine aa.n (aa.some rfl)
 ·rintro c g (⟨_, h, rfl, rfl⟩ | h)
  ·exact .inl ⟨h,rfl,rfl⟩
  ·exact .inr h
def dG(r s:List G):Bool:=((gi r 0).str.toList==(gi s 0).str.toList)&&((gi r 1).int==(gi s 1).int)
theorem agh{r s:List G}(hr:bq r)(d:bq s):Bi [.l [r],.l [s]]=some [.t (dG r s)]:=by
 have e:Bh [.l [r],.l [s]]=some [.t (dG r s)]:=by
  refine aa.toEq ?_;unfold Bh dG
  (dsimp +instances only[Aa,Ab,Ac,Ad,Ae,Af,Ag])
  cases (gi r 0).str.toList==(gi s 0).str.toList<;>exact aa.some rfl
 refine aa.toEq ?_;unfold Bi
 (dsimp +instances only[Aa,Ab,Ac,Ad,Ae,Af,Ag])
 simp only[hr.eta,d.eta];refine aa.cE e ?_;exact aa.some rfl
theorem agi(p:List (List G))(x:List G)(q:∀ z∈p,bq z)(d:bq x)(hn:p.length≤20) :
  aa (Bl [.l p,.l [x]]) fun g=>∃ b,g=[.t b]∧(b=false→∀ j,j<p.length→dG (p.getD j []) x=false)∧(b=true→∃ j,j<p.length∧dG (p.getD j []) x=true):=by
 have key:aa (Bk [.l p,.l [x]]) fun g=>∃ v:Int,g=[.i v]∧(v<0→∀ j,j<p.length→dG (p.getD j []) x=false)∧(0≤v→∃ j,j<p.length∧dG (p.getD j []) x=true):=by
  unfold Bk
  (dsimp +instances only[Aa,Ab,Ac,Ad,Ae,Af,Ag])
  simp only[d.eta];refine aa.loop (P:=fun c g=>(c=1∧g=[]∧∀ j,j<p.length→dG (p.getD j []) x=false)∨(c=0∧∃ v:Int,0≤v∧g=[.i v]∧∃ j,j<p.length∧dG (p.getD j []) x=true)) ((pF (σ:=Unit) (fun _ i=>[.l p,.l [x],.i (p.length:Int),.i (i:Int)]) p (fun _=>(1,[])) (fun _ i=>∀ j,j<i→dG (p.getD j []) x=false) (fun c g=>c=0∧∃ v:Int,0≤v∧g=[.i v]∧∃ j,j<p.length∧dG (p.getD j []) x=true) () (by omega) (fun j h=>by omega) ?_ ?_).mono ?_) rfl ?_
  ·intro _ i z A hi k hm _
   unfold Bj
   (dsimp +instances only[Aa,Ab,Ac,Ad,Ae,Af,Ag])
   refine aa.p (aa.p ?_);simp only[aR,k,(q z hm).eta,d.eta];refine aa.cE (agh (q z hm) d) ?_
   (dsimp +instances only[Aa,Ab,Ac,Ad,Ae,Af,Ag])
   refine aa.test (fun h1=>aa.some (.inr ⟨0,_,rfl,rfl,_,by omega,rfl,i,hi,by rw[k]; exact h1⟩)) fun h1=>?_;refine aa.p (aa.some (.inl ⟨(),rfl,fun j B=>?_⟩));by_cases e:j=i
   ·rw[e,k,h1]
   ·exact A j (by omega)
  ·intro _ _
   unfold Bj
   (dsimp +instances only[Aa,Ab,Ac,Ad,Ae,Af,Ag])
   exact aa.n (aa.some rfl)
  ·rintro c g (⟨_, h, rfl, rfl⟩ | h)
   ·exact .inl ⟨rfl,rfl,h⟩
   ·exact .inr h
  ·rintro c g (⟨rfl, rfl, h⟩ | ⟨rfl, v, F, rfl, h⟩)
   ·exact aa.neg rfl (aa.some ⟨-1,rfl,fun _=>h,fun h=>by omega⟩)
   ·exact aa.pos rfl (aa.some ⟨v,rfl,fun h=>by omega,fun _=>h⟩)
 unfold Bl
 (dsimp +instances only[Aa,Ab,Ac,Ad,Ae,Af,Ag])
 simp only[d.eta];refine aa.call key ?_;rintro _ ⟨v,rfl,h,h'⟩;refine aa.some ⟨bM 0 v,rfl,fun e=>h ?_,fun e=>h' ?_⟩
 ·rw [er, decide_eq_false_iff_not] at e
  omega
 ·rw [er, decide_eq_true_eq] at e
  exact e
def jV(rows:List (List G))(n:Nat):Prop:=∀ i,i<n→∀ j,j<i→dG (rows.getD j []) (rows.getD i [])=false
theorem agj(rows:List (List G))(hr:∀ z∈rows,bq z)(hn:rows.length≤20) :
  fy xd [.l rows,.l rows,.i (rows.length:Int),.i 0] fun c g=>(jV rows rows.length∧c=1∧g=[])∨(c=0∧¬ jV rows rows.length∧g=[.i 6]):=by
 refine(pF (σ:=Unit) (fun _ i=>[.l rows,.l rows,.i (rows.length:Int),.i (i:Int)]) rows (fun _=>(1,[])) (fun _ i=>jV rows i) (fun c g=>c=0∧¬ jV rows rows.length∧g=[.i 6]) () (by omega) (fun j h=>by omega) ?_ ?_).mono ?_
 ·intro _ i x F hi d hm _
  unfold xd
  (dsimp +instances only[Aa,Ab,Ac,Ad,Ae,Af,Ag])
  refine aa.p (aa.p (aa.p ?_));simp only[aR,d,(hr x hm).eta];have N:(rows.take i).length=i:=by rw[List.length_take]; omega
  refine aa.call (agi (rows.take i) x (fun z I=>hr z (List.mem_of_mem_take I)) (hr x hm) (by omega)) ?_;rintro _ ⟨b,rfl,J,B⟩
  (dsimp +instances only[Aa,Ab,Ac,Ad,Ae,Af,Ag])
  refine aa.test (fun h1=>aa.some (.inr ⟨0,_,rfl,rfl,fun M=>?_,rfl⟩)) fun h1=>?_
  ·obtain ⟨j, q, A⟩ := B h1
   have:=M i hi j (by omega);rw[cH,aiM (by omega),←cH]at A;rw[d,A]at this;cases this
  refine aa.p (aa.some (.inl ⟨(),rfl,fun k hk j q=>?_⟩));by_cases e:k=i
  ·have := J h1 j (by omega)
   rw[cH,aiM (by omega),←cH]at this;rw[e,d,this]
  ·exact F k (by omega) j q
 ·intro _ _
  unfold xd
  (dsimp +instances only[Aa,Ab,Ac,Ad,Ae,Af,Ag])
  exact aa.n (aa.some rfl)
 ·rintro c g (⟨_, h, rfl, rfl⟩ | h)
  ·exact .inl ⟨h,rfl,rfl⟩
  ·exact .inr h
def gN(rows:List (List G)):Prop:=pP rows rows.length∧jV rows rows.length
def jz(rows:List (List G))(v:Int):Prop:=(∃ i,kO rows i v)∨(pP rows rows.length∧((jV rows rows.length∧v=0)∨(¬ jV rows rows.length∧v=6)))
def kP(rows:List (List G)):Int:=Classical.epsilon (jz rows)
theorem jz.unique{rows:List (List G)}{v w:Int}(h:jz rows v)(h':jz rows w):v=w:=by
 rcases h with⟨i,h⟩|⟨h1,h⟩<;>rcases h' with⟨j,h'⟩|⟨k,h'⟩
 ·exact h.unique h'
 ·exact(h.B_ h.2.1 k).elim
 ·exact(h'.B_ h'.2.1 h1).elim
 ·rcases h with ⟨d, rfl⟩ | ⟨d, rfl⟩ <;> rcases h' with ⟨g, rfl⟩ | ⟨g, rfl⟩
  ·rfl
  ·exact(g d).elim
  ·exact(d g).elim
  ·rfl
theorem jz.eq{rows:List (List G)}{v:Int}(h:jz rows v):v=kP rows:=h.unique (Classical.epsilon_spec (p:=jz rows) ⟨v,h⟩)
theorem jz.zero{rows:List (List G)}(h:jz rows 0):gN rows:=by
 rcases h with⟨i,h⟩|⟨h1,⟨h,_⟩|⟨_,h⟩⟩
 ·exact(h.ne rfl).elim
 ·exact⟨h1,h⟩
 ·cases h
theorem gN.chk{rows:List (List G)}(h:gN rows):jz rows 0:=.inr ⟨h.1,.inl ⟨h.2,rfl⟩⟩
theorem gN.kP{rows:List (List G)}(h:gN rows):kP rows=0:=h.chk.eq.symm
theorem agl(rows:List (List G))(hr:∀ z∈rows,bq z)(hn:rows.length≤20):tT [.l rows]=some [.i (kP rows)]∧jz rows (kP rows):=by
 have key:aa (tT [.l rows]) fun g=>∃ v:Int,g=[.i v]∧jz rows v:=by
  unfold tT
  (dsimp +instances only[Aa,Ab,Ac,Ad,Ae,Af,Ag])
  refine aa.n ?_;refine aa.loop (agf rows hr hn) rfl ?_;rintro c g (⟨h1,rfl,rfl⟩|⟨rfl,v,d,rfl⟩)
  ·refine aa.neg rfl ?_
   refine aa.loop (agj rows hr hn) rfl ?_;rintro c g (⟨k,rfl,rfl⟩|⟨rfl,d,rfl⟩)
   ·exact aa.neg rfl (aa.some ⟨0,rfl,.inr ⟨h1,.inl ⟨k,rfl⟩⟩⟩)
   ·exact aa.pos rfl (aa.some ⟨6,rfl,.inr ⟨h1,.inr ⟨d,rfl⟩⟩⟩)
  ·exact aa.pos rfl (aa.some ⟨v,rfl,.inl d⟩)
 obtain⟨_,h,v,rfl,d⟩:=key;have e:=d.eq;subst e;exact⟨h,d⟩
theorem agm(rows:List (List G))(hr:∀ z∈rows,bq z)(hn:rows.length≤20) :
  aa (tT [.l rows]) fun g=>∃ v:Int,g=[.i v]∧(v=0→gN rows):=by
 obtain⟨h1,d⟩:=agl rows hr hn;exact⟨_,h1,_,rfl,fun e=>by rw[e]at d; exact d.zero⟩
theorem gN.nil:gN []:=⟨⟨fun j h=>by simp at h,fun j h=>by simp at h⟩,fun i h=>by simp at h⟩
theorem agn(a b c:Int):jR [.l [[.i a],[.i b],[.i c]]]=some [.i (if a≠0 then a else if b≠0 then b else c)]:=by
 refine aa.toEq ?_;unfold jR
 (dsimp +instances only[Aa,Ab,Ac,Ad,Ae,Af,Ag])
 have h:=B3 [[.i a],[.i b],[.i c]] [] (by simp);refine aa.loop (h.to (by simp)) (by(first|rfl|assumption|(simp only[az,sl]<;>omega))) ?_;rintro x g ⟨q,rfl⟩;have e:kN [[.i a],[.i b],[.i c]]=if a≠0 then a else if b≠0 then b else c:=by
  simp only[kN]
  (dsimp +instances only[Aa,Ab,Ac,Ad,Ae,Af,Ag])
  by_cases h1:a=0<;>by_cases d:b=0<;>by_cases k:c=0<;>simp[h1,d,k]
 rw[e]
 (dsimp +instances only[Aa,Ab,Ac,Ad,Ae,Af,Ag])
 exact aa.test (fun _=>aa.some rfl) fun _=>aa.some rfl
theorem RT{a b:Int}:(eS a b≠0)↔a≠b:=by
 unfold eS;split
 ·constructor<;>intro _<;>omega
 ·split<;>constructor<;>intro _<;>omega
theorem ago{r s:List G}(hr:bq r)(k:bq s):Br [.l [r],.l [s]]=some [.i (fm r s)]:=by
 obtain⟨si,no,at_,_,_,_,_,_,_,_,_,_,_,_,_,rfl,_⟩:=hr;obtain⟨d,g,at',_,_,_,_,_,_,_,_,_,_,_,_,rfl,_⟩:=k;refine aa.toEq ?_;unfold Br fm jy
 (dsimp +instances only[Aa,Ab,Ac,Ad,Ae,Af,Ag])
 refine aa.cE (xH at_ at') ?_;refine aa.cE (rfl:iD [.s si,.s d]=some [.i (dM si d)]) ?_;refine aa.cE (xH no g) ?_
 (dsimp +instances only[Aa,Ab,Ac,Ad,Ae,Af,Ag])
 refine aa.cE (agn _ _ _) ?_
 (dsimp +instances only[Aa,Ab,Ac,Ad,Ae,Af,Ag])
 by_cases h:at_=at'
 ·subst h
  exact aa.some (by simp[eS])
 ·have := (RT (a := at_) (b := at')).2 h
  exact aa.some (by simp[this,h])
theorem agp(rows:List (List G))(hr:∀ z∈rows,bq z)(hn:rows.length≤20) :
  fy xe [.l rows,.l rows,.i (rows.length:Int),.i 0] fun c g=>(pP rows rows.length∧c=1∧g=[.l rows])∨(c=0∧∃ v,(∃ i,kO rows i v)∧g=[.i v]):=by
 refine(pF (σ:=Unit) (fun _ i=>[.l rows,.l rows,.i (rows.length:Int),.i (i:Int)]) rows (fun _=>(1,[.l rows])) (fun _ i=>pP rows i) (fun c g=>c=0∧∃ v,(∃ i,kO rows i v)∧g=[.i v]) () (by omega) ⟨fun j h=>by omega,fun j h=>by omega⟩ ?_ ?_).mono ?_
 ·intro _ i x q hi d hm _
  unfold xe
  (dsimp +instances only[Aa,Ab,Ac,Ad,Ae,Af,Ag])
  have ex:=(hr x hm).eta;refine aa.p (aa.p ?_);simp only[aR,d,ex];refine aa.cE (age (hr x hm)) ?_
  (dsimp +instances only[Aa,Ab,Ac,Ad,Ae,Af,Ag])
  refine aa.test (fun h1=>aa.some (.inr ⟨0,_,rfl,rfl,_,⟨i,q,hi,.inl ⟨by rw[d]; simpa using h1,by rw[d]⟩⟩,rfl⟩)) fun h1=>?_;have h1:iU x=0:=by simpa using h1
  refine aa.test (fun k=>?_) fun k=>?_
  ·have k:0<i:=by
    rw[dT,decide_eq_true_eq]at k;omega
   have I:((i:Int)-1).toNat=i-1:=by omega
   have F:rows.getD (i-1) []∈rows:=nG (by omega);refine aa.p (aa.p ?_);simp only[I,(hr _ F).eta];refine aa.cE (ago (hr _ F) (hr x hm)) ?_
   (dsimp +instances only[Aa,Ab,Ac,Ad,Ae,Af,Ag])
   refine aa.test (fun A=>aa.some (.inr ⟨0,_,rfl,rfl,7,⟨i,q,hi,.inr ⟨by rw[d]; exact h1,k,by rw[er,decide_eq_true_eq]at A; rw[d]; omega,rfl⟩⟩,rfl⟩)) fun A=>?_;refine aa.p (aa.some (.inl ⟨(),rfl,fun j B=>?_,fun j B=>?_⟩))
   ·by_cases e : j = i
    ·rw[e,d,h1]
    ·exact q.1 j (by omega)
   ·by_cases e : j + 1 = i
    ·rw [er, decide_eq_false_iff_not] at A
     rw[e,d,show j=i-1 from by omega];omega
    ·exact q.2 j (by omega)
  ·have k:i=0:=by
    rw[dT,decide_eq_false_iff_not]at k;omega
   refine aa.p (aa.some (.inl ⟨(),rfl,fun j B=>?_,fun j B=>by omega⟩));rw[show j=i from by omega,d,h1]
 ·intro _ _
  unfold xe
  (dsimp +instances only[Aa,Ab,Ac,Ad,Ae,Af,Ag])
  refine aa.n (aa.some rfl)
 ·rintro c g (⟨_, h, rfl, rfl⟩ | h)
  ·exact .inl ⟨h,rfl,rfl⟩
  ·exact .inr h
abbrev bO:List Kd:=[.str,.int .i64]
theorem H8(r s:List G):dG r s=dG s r:=by
 unfold dG;rw[wN (gi r 0).str.toList,wN (gi r 1).int]
theorem RU{r s:List G}(hr:bq r)(d:bq s):aF bO (bh bO r) (bh bO s)=dG r s:=by
 obtain⟨_,_,_,_,_,_,_,_,_,_,_,_,_,_,_,rfl,_⟩:=hr;obtain⟨_,_,_,_,_,_,_,_,_,_,_,_,_,_,_,rfl,_⟩:=d;simp only[aF,bh,lu,dG,jy]
 (dsimp +instances only[Aa,Ab,Ac,Ad,Ae,Af,Ag])
 simp[dZ,LU,G.str,G.int]
def rM(m rows:List (List G))(i:Nat):Prop:=∀ r,bq r→((gi (ch bO m (bh bO r) [.t false]) 0).bool=true↔∃ j,j<i∧dG (rows.getD j []) r=true)
theorem rM.nil(rows:List (List G)):rM [] rows 0:=fun r _=>by
 rw[AX];constructor
 ·intro h; cases h
 ·rintro⟨j,d,_⟩; omega
theorem rM.put{m rows:List (List G)}{i:Nat}{x:List G}(h:rM m rows i)(k:bq x)(e:rows.getD i []=x)(c:Nat):rM (cu bO m (bh bO x) [.t true] c) rows (i+1):=fun r hr=>by
 rw[nI,RU hr k,H8];cases g:dG x r with
 | true =>
  simp only[cond_true];exact⟨fun _=>⟨i,by omega,by rw[e]; exact g⟩,fun _=>rfl⟩
 | false =>
  simp only[cond_false];rw[h r hr];constructor
  ·rintro⟨j,q,d⟩; exact⟨j,by omega,d⟩
  ·rintro ⟨j, q, d⟩
   by_cases A:j=i
   ·rw[A,e,g]at d; cases d
   ·exact⟨j,by omega,d⟩
theorem agq(rows:List (List G))(hr:∀ z∈rows,bq z)(hn:rows.length≤20) :
  fy xf [.l [],.i 0,.l rows,.i (rows.length:Int),.i 0] fun c g=>(jV rows rows.length∧c=1∧g=[])∨(c=0∧¬ jV rows rows.length∧g=[.i 6]):=by
 refine(pF (σ:=List (List G) × Nat) (fun s i=>[.l s.1,.i (s.2:Int),.l rows,.i (rows.length:Int),.i (i:Int)]) rows (fun _=>(1,[])) (fun s i=>jV rows i∧rM s.1 rows i) (fun c g=>c=0∧¬ jV rows rows.length∧g=[.i 6]) ([],0) (by omega) ⟨fun j h=>by omega,rM.nil rows⟩ ?_ ?_).mono ?_
 ·rintro ⟨m, ck⟩ i x ⟨I, A⟩ hi d hm _
  have B:=hr x hm;unfold xf
  (dsimp +instances only[Aa,Ab,Ac,Ad,Ae,Af,Ag])
  refine aa.p (aa.p ?_);simp only[aR,d];refine aa.test (fun h1=>aa.some (.inr ⟨0,_,rfl,rfl,fun J=>?_,rfl⟩)) fun h1=>?_
  ·obtain ⟨j, q, F⟩ := (A x B).1 h1
   have:=J i hi j q;rw[d,F]at this;cases this
  ·refine aa.p (aa.some (.inl ⟨(cu bO m (bh bO x) [.t true] ck, dF bO m (bh bO x) ck), rfl, fun k hk j q => ?_, A.put B d ck⟩))
   by_cases e:k=i
   ·subst e
    rw[d];cases F:dG (rows.getD j []) x with
    |false=>rfl
    | true =>
     rw[(A x B).2 ⟨j,q,F⟩]at h1;cases h1
   ·exact I k (by omega) j q
 ·rintro ⟨m, ck⟩ _
  unfold xf
  (dsimp +instances only[Aa,Ab,Ac,Ad,Ae,Af,Ag])
  exact aa.n (aa.some rfl)
 ·rintro c g (⟨_, h, rfl, rfl⟩ | h)
  ·exact .inl ⟨h.1,rfl,rfl⟩
  ·exact .inr h
theorem agr(rows:List (List G))(hr:∀ z∈rows,bq z)(hn:rows.length≤20):xg [.l rows]=some [.i (kP rows)]∧jz rows (kP rows):=by
 have key:aa (xg [.l rows]) fun g=>∃ v:Int,g=[.i v]∧jz rows v:=by
  unfold xg
  (dsimp +instances only[Aa,Ab,Ac,Ad,Ae,Af,Ag])
  refine aa.n ?_;refine aa.loop (agp rows hr hn) rfl ?_;rintro c g (⟨h1,rfl,rfl⟩|⟨rfl,v,d,rfl⟩)
  ·refine aa.neg rfl ?_
   refine aa.loop (agq rows hr hn) rfl ?_;rintro c g (⟨k,rfl,rfl⟩|⟨rfl,d,rfl⟩)
   ·exact aa.neg rfl (aa.some ⟨0,rfl,.inr ⟨h1,.inl ⟨k,rfl⟩⟩⟩)
   ·exact aa.pos rfl (aa.some ⟨6,rfl,.inr ⟨h1,.inr ⟨d,rfl⟩⟩⟩)
  ·exact aa.pos rfl (aa.some ⟨v,rfl,.inl d⟩)
 obtain⟨_,h,v,rfl,d⟩:=key;have e:=d.eq;subst e;exact⟨h,d⟩
def Ca(r:List G):Prop:=∃ n:Int,r=[.i n]
theorem RV:∀(n:Nat) (mid p q:List (List G)),mid.length≤n→(∀ z∈mid,Ca z)→p.length+mid.length+q.length<100000 →
  eh tO [.l (p++mid++q),.i (p.length:Int),.i ((p.length:Int)+(mid.length:Int)-1)] (n+1) fun c g=>c=0∧g=[.l (p++mid.reverse++q)]
 | n,[],p,q,_,_,d=>by
  refine eh.stop (x:=0) (aa.toEq ?_) ⟨rfl,rfl⟩;unfold tO
  (dsimp +instances only[Aa,Ab,Ac,Ad,Ae,Af,Ag])
  refine aa.neg (by simp only[kY,dT,decide_eq_false_iff_not]; omega) ?_;exact aa.some (by simp)
 | n,[x],p,q,_,_,d=>by
  refine eh.stop (x:=0) (aa.toEq ?_) ⟨rfl,rfl⟩;unfold tO
  (dsimp +instances only[Aa,Ab,Ac,Ad,Ae,Af,Ag])
  refine aa.neg (by simp only[di,kY,dT,decide_eq_false_iff_not]; omega) ?_;exact aa.some (by simp)
 |0,x::k::m0,p,q,h,_,_=>by simp at h
 | n+1,x::k::m0,p,q,h,A,d=>by
  obtain⟨m,y,e⟩:∃ m y,k::m0=m++[y]:=⟨(k::m0).dropLast,(k::m0).getLast (by simp),(List.dropLast_concat_getLast (by simp)).symm⟩
  rw[e]at h A d⊢;have N:Ca x:=A x (by simp);have O:Ca y:=A y (by simp);simp only[di,List.length_append,kY]at h d⊢;have R:=RV n m (p++[y]) (x::q) (by omega) (fun z U=>A z (by simp[U])) (by simp; omega);have W:p++x::(m++[y])++q=p++x::(m++y::q):=by simp
  have Y:p++x::(m++y::q)=(p++x::m)++y::q:=by simp
  have ji:((p.length:Int)+((m.length+(0+1)+1:Nat):Int)-1).toNat=(p++x::m).length:=by simp; omega
  have g1:(p++x::(m++y::q)).getD p.length []=x:=tK _ _ _ _ _ rfl;have g2:(p++x::(m++y::q)).getD (p++x::m).length []=y:=by rw[Y]; exact tK _ _ _ _ _ rfl
  have s1:(p++x::(m++y::q)).set p.length y=p++y::(m++y::q):=AZ _ _ _ _ _ rfl;have F:p++y::(m++y::q)=(p++y::m)++y::q:=by simp
  have I:(p++x::m).length=(p++y::m).length:=by simp
  have s2:(p++y::(m++y::q)).set (p++x::m).length x=(p++y::m)++x::q:=by rw[F,I]; exact AZ _ _ _ _ _ rfl
  have g3:(p++y::(m++y::q)).getD (p++x::m).length []=y:=by rw[F,I]; exact tK _ _ _ _ _ rfl
  have n1:(p++x::(m++y::q)).length=p.length+m.length+q.length+2:=by simp; omega
  have n2:(p++y::(m++y::q)).length=p.length+m.length+q.length+2:=by simp; omega
  have n3:((p++y::m)++x::q).length=p.length+m.length+q.length+2:=by simp; omega
  have n4:(p++x::m).length=p.length+m.length+1:=by simp; omega
  obtain⟨J,ex⟩:=N;obtain⟨M,B⟩:=O;have i1:(gi x 0).int=J:=by rw[ex]; rfl
  have i2:(gi y 0).int=M:=by rw[B]; rfl
  have q1:fh [Kd.int .i64] x 0 [.i M]=y:=by rw[ex,B]; rfl
  have q2:fh [Kd.int .i64] y 0 [.i J]=x:=by rw[ex,B]; rfl
  refine eh.next (d1:=[.l ((p++[y])++m++(x::q)),.i (((p++[y]).length:Nat):Int),.i ((((p++[y]).length:Nat):Int)+(m.length:Int)-1)]) (aa.toEq ?_) (R.mono ?_)
  ·rw [W]
   unfold tO
   (dsimp +instances only[Aa,Ab,Ac,Ad,Ae,Af,Ag])
   simp only[Nat.zero_add,aR,ji,g1,g2,i1,i2,q1,q2,s1,g3,s2,n1,n2,n3]
   (repeat first|refine aa.p ?_|refine aa.n ?_)
   refine aa.some ?_;rw[show p++[y]++m++x::q=p++y::m++x::q from by simp,show (((p++[y]).length:Nat):Int)=(p.length:Int)+1 from by simp,show (p.length:Int)+1+(m.length:Int)-1=(p.length:Int)+((m.length+(0+1)+1:Nat):Int)-1-1 from by omega]
  ·rintro c g ⟨rfl, rfl⟩
   exact⟨rfl,by simp⟩
theorem ags(rows:List (List G))(hr:∀ z∈rows,Ca z)(hn:rows.length<90000):A_ [.l rows]=some [.l rows.reverse]:=by
 refine aa.toEq ?_;unfold A_
 (dsimp +instances only[Aa,Ab,Ac,Ad,Ae,Af,Ag])
 refine aa.p ?_;have h:=RV rows.length rows [] [] (aI _) hr (by simp; omega);simp only[List.nil_append,List.append_nil,kY]at h;have e:((0:Nat):Int)+(rows.length:Int)-1=(rows.length:Int)-1:=by omega
 rw[e]at h;refine aa.loop (h.to (by omega)) (by(first|rfl|assumption|(simp only[az,sl]<;>omega))) ?_;rintro _ _ ⟨rfl,rfl⟩
 (dsimp +instances only[Aa,Ab,Ac,Ad,Ae,Af,Ag])
 (repeat first|refine aa.p ?_|refine aa.n ?_)
 exact aa.some rfl
theorem RW{st:Int→List G→List G→Option (List G)}{rows:List (List G)}(I:Nat→List G→Prop) (g:∀(n:Nat) (d:List G),n<rows.length→I (n+1) d→aa (st (n:Int) (rows.getD n []) d) (I n)) :
  ∀(n:Nat) (d:List G),n≤rows.length→I n d→aa (pD st rows n d) (I 0)
 |0,d,_,h=>aa.some h
 | n+1,d,hn,h=>by
  obtain⟨d',h1,k⟩:=g n d (by omega) h;simp only[pD,h1];exact RW I g n d' (by omega) k
def xK(r:List G):List G:=[.s (gi r 13).str,.i (gi r 14).int]
def xL(k:List G)(u:List (List G)):Bool:=u.any fun o=>aF bO k o
def uA(a:Int):List (List G)→List (List G)
 | []=>[]
 |x::l=>bif aB a (gi x 2).int||xL (bh bO x) (uA a l) then uA a l else bif (gi x 3).int==5 then xK x::uA a l else uA a l
def iV(a:Int)(x:List G)(l:List (List G)):Bool := !(aB a (gi x 2).int||xL (bh bO x) (uA a l))
def cA(a:Int):Nat→List (List G)→List (List G)
 |_,[]=>[]
 |i,x::l=>bif iV a x l then [.i (i:Int)]::cA a (i+1) l else cA a (i+1) l
theorem H9(a:Int)(x:List G)(l:List (List G)):uA a (x::l)=bif iV a x l&&(gi x 3).int==5 then xK x::uA a l else uA a l:=by
 simp only[uA,iV];cases aB a (gi x 2).int||xL (bh bO x) (uA a l)<;>rfl
theorem um(a:Int):∀(i:Nat) (l:List (List G)),(cA a i l).length≤l.length
 |_,[]=>aI _
 | i,x::l=>by
  simp only[cA];have:=um a (i+1) l;cases iV a x l<;>simp only[cond_true,cond_false,di]<;>omega
theorem H_{a:Int}:∀{i:Nat} {l:List (List G)} {z:List G},z∈cA a i l→∃ j:Nat,z=[.i (j:Int)]∧i≤j∧j<i+l.length
 |_,[],z,h=>by simp[cA]at h
 | i,x::l,z,h=>by
  have d:z∈cA a (i+1) l→∃ j:Nat,z=[.i (j:Int)]∧i≤j∧j<i+(x::l).length:=fun h=>by
   obtain⟨j,e,h1,g⟩:=H_ h;exact⟨j,e,by omega,by simp only[di]; omega⟩
  simp only[cA]at h;cases hc:iV a x l with
  |false=>rw[hc]at h; exact d h
  | true =>
   rw[hc]at h;rcases bI.1 h with rfl|h
   ·exact⟨i,rfl,aI _,by simp only[di]; omega⟩
   ·exact d h
def rN(m u:List (List G)):Prop:=∀ k,(gi (ch bO m k [.t false]) 0).bool=xL k u
theorem rN.nil:rN [] []:=fun k=>by rw[AX]; rfl
theorem rN.put{m u:List (List G)}(h:rN m u)(t:List G)(c:Nat):rN (cu bO m t [.t true] c) (t::u):=fun k=>by
 rw[nI];simp only[xL,yu];cases hk:aF bO k t with
 |true=>rfl
 | false =>
  simp only[cond_false,jF];exact h k
theorem agt(rows:List (List G))(a:Int)(hr:∀ z∈rows,bq z)(hn:rows.length≤1000):Bu [.l rows,.i a]=some [.l (cA a 0 rows)]:=by
 refine aa.toEq ?_;unfold Bu
 (dsimp +instances only[Aa,Ab,Ac,Ad,Ae,Af,Ag])
 have key:aa (Bt [.i a,.l [],.i 0,.l rows]) fun o=>∃ x,o.1=some x∧o.2=[.l (cA a 0 rows)]:=by
  unfold Bt wH;have F:(gi [G.i a,G.l [],G.i 0,G.l rows] 3).rows=rows:=rfl;have J:=RW (st:=G0) (rows:=rows) (fun n d=>∃ m c,d=[.i a,.l m,.i c,.l (cA a n (rows.drop n)).reverse]∧rN m (uA a (rows.drop n))) (fun n d q A=>by
   obtain⟨m,c,rfl,hm⟩:=A;have M:rows.getD n []∈rows:=nG q;have N:rows.drop n=rows.getD n []::rows.drop (n+1):=by
    rw[List.drop_eq_getElem_cons q,cH,bE q];rfl
   rw[N];generalize rows.getD n []=x at M;have hlen:=um a (n+1) (rows.drop (n+1));rw[List.length_drop]at hlen;unfold G0
   (dsimp +instances only[Aa,Ab,Ac,Ad,Ae,Af,Ag])
   have hk:=hm (bh bO x);simp only[cA,H9];refine aa.test (fun h1=>?_) fun h1=>?_
   ·have e : iV a x (rows.drop (n + 1)) = false := by unfold iV; rw [h1]; rfl
    rw[e];exact aa.pos (by simp) (aa.some ⟨m,_,rfl,hm⟩)
   refine aa.test (fun k=>?_) fun k=>?_
   ·have e : iV a x (rows.drop (n + 1)) = false := by unfold iV; rw [← hk, k, Bool.or_true]; rfl
    rw[e];exact aa.pos (by simp) (aa.some ⟨m,_,rfl,hm⟩)
   have e:iV a x (rows.drop (n+1))=true:=by unfold iV; rw[←hk,k,h1]; rfl
   rw[e];refine aa.pos (by simp only[sl,aiP]; simp; omega) ?_;refine aa.test (fun B=>?_) fun B=>?_
   ·rw [B]
    exact aa.pos (by simp) (aa.some ⟨cu bO m (xK x) [.t true] c.toNat,((dF bO m (xK x) c.toNat:Nat):Int),by simp only[cond_true,aiQ]; rfl,hm.put (xK x) _⟩)
   ·rw [B]
    exact aa.pos (by simp) (aa.some ⟨m,((c.toNat:Nat):Int),by simp only[Bool.and_false,cond_true,cond_false,aiQ],hm⟩)) rows.length (QC [.i a,.l [],.i 0,.l rows]) (aI _) ⟨[],_,by rw[aiR]; rfl,by rw[aiR]; exact rN.nil⟩
  obtain⟨d,A,m,c,rfl,_⟩:=J;rw[F];refine aa.pos (by simp[tU,QD]; omega) ?_;have I:pD tU.st rows rows.length (tU.init [.i a,.l [],.i 0,.l rows])=some [.i a,.l m,.i c,.l (cA a 0 (rows.drop 0)).reverse]:=A;rw[I];simp only[Option.bind_some,List.drop_zero];unfold G1
  (dsimp +instances only[Aa,Ab,Ac,Ad,Ae,Af,Ag])
  have hlen:=um a 0 rows;refine aa.nF (aa.eq (ags (cA a 0 rows).reverse (fun z O=>by
   obtain⟨j,e,_⟩:=H_ (List.mem_reverse.1 O);exact⟨_,e⟩) (by rw[aiP]; omega))) (by simp) ?_
  rintro _ rfl
  (dsimp +instances only[Aa,Ab,Ac,Ad,Ae,Af,Ag])
  exact aa.pos (by simp) (aa.some ⟨0,rfl,by rw[List.reverse_reverse]⟩)
 refine aa.tail (P:=fun _ g=>g=[.l (cA a 0 rows)]) (key.mono ?_) (by simp) ?_
 ·rintro o ⟨x, h1, k⟩
  exact⟨x,h1,k⟩
 rintro _ _ rfl
 (dsimp +instances only[Aa,Ab,Ac,Ad,Ae,Af,Ag])
 exact aa.pos (by simp) (aa.some rfl)
end
end Go.Proofs.gq
