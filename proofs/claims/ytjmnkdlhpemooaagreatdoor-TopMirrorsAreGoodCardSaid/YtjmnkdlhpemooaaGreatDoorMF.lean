/-
 What is proved here: what the methods of the stream give on data. No condition.
-/
import Derived.Test.YtjmnkdlhpemooaaGreatDoorML4
import Derived.Test.YtjmnkdlhpemooaaGreatDoorME
set_option linter.all false
open Bool renaming and_true→fD,and_eq_true→ax,true_and→jW,eq_iff_iff→lx
open Function renaming comp→AX
open Go.ByteArray renaming toList_eq→qC
open Go.Lib renaming compareBytes→eu
open Int renaming toNat_natCast→bD,tdiv→nv,tmod→jB,tmod_lt_of_pos→ag_,tmod_eq_emod_of_nonneg→ag',mul_nonneg→aha,le_refl→Si,le_trans→Sj
open List renaming length_cons→cr,append_nil→db,append_assoc→gp,length_map→cN,mem_map→cV,getElem?_map→bT,getElem_of_mem→ma,getElem?_eq_getElem→bt,getElem?_eq_none→me,getElem?_set_self→bx,getElem?_set→dU,all_eq_true→dq,getD_eq_getElem?_getD→bG,mem_cons→bR,map_cons→dg,cons_append→kG,ext_getElem?→jU,length_set→nk,length_append→dY,mem_append→cZ,nil_append→jV,replicate→bO,length_range→th,mem_flatten→Hp,mem_cons_self→cO,mem_cons_of_mem→c9,length_replicate→wL,map_append→jX,nodup_cons→kK,range→dP,mem_append_left→oY,any_eq_true→ia,mem_range→fF,mem_singleton→tv,length_nil→mr,not_mem_nil→nt,getElem?_range→tz,getElem_mem→ly,mem_append_right→tA,filter_cons→HC,range_succ→A0,pairwise_map→oZ,pairwise_iff_getElem→A1,any_cons→A4,eq_replicate_iff→ahd,getElem?_replicate→ahe,sum_cons→Sk,foldl_append→Sl,filter_nil→Sm,nodup_append→Sp,Nodup→A6
open Nat renaming le_refl→aD,le_trans→oQ,zero_le→eI,zero_add→cW,beq→ae,ble→ep,ble_eq→AW,beq_refl→mq,exists_eq_add_of_le→ahc,lt_trichotomy→HH,le_succ_of_le→Sn
open Option renaming map_some→dO
open UInt8 renaming le_antisymm→A3,not_lt→nw,lt_irrefl→Sg,lt_trans→ahb
namespace Go.Proofs.gY
open Go Go.AL Go.Proofs
noncomputable section
theorem Gp(x n:Int)(h0:1≤n)(h1:n≤1099511627776):aa (sv [.i x,.i n]) fun g=>∃ v,g=[.i v]∧0≤v∧v<n:=by
 unfold sv
 (dsimp +instances only[Aa,Ab,Ac,Ad,Ae,Af,Ag])
 have ha:=ag_ x (by omega:0<n);have hb:=Int.lt_tmod_of_pos x (by omega:0<n)
 (repeat first|refine aa.p ?_|refine aa.n ?_)
 refine aa.test (fun h=>?_) fun h=>?_
 ·simp only [eW, decide_eq_true_eq] at h
  (repeat first|refine aa.p ?_|refine aa.n ?_)
  exact aa.some ⟨_,rfl,by omega,by omega⟩
 ·simp only [eW, decide_eq_false_iff_not] at h
  exact aa.some ⟨_,rfl,by omega,by omega⟩
theorem vY(l:List (List G))(a n:Int)(ha:0≤a)(J:a≤1000000)(h0:1≤n)(h1:n≤1099511627776) :
  aa (ox [.l l,.i a,.i n]) fun g=>∃ v,g=[.l l,.i (a+1),.i v]∧0≤v∧v<n:=by
 unfold ox
 (dsimp +instances only[Aa,Ab,Ac,Ad,Ae,Af,Ag])
 have y:a+1-1=a:=by omega
 simp only[y];by_cases M:l.length=0
 ·(repeat first|refine aa.p ?_|refine aa.n ?_)
  refine aa.call (Gp _ n h0 h1) ?_;rintro _ ⟨v,rfl,d,h⟩
  (dsimp +instances only[Aa,Ab,Ac,Ad,Ae,Af,Ag])
  exact aa.some ⟨v,rfl,d,h⟩
 ·have B : (0 : Int) < (l.length : Int) := by omega
  have d0:0≤nv a l.length:=Int.tdiv_nonneg ha (by omega);have d1:nv a l.length≤a:=by
   rw[Int.tdiv_eq_ediv_of_nonneg ha];exact Int.ediv_le_self _ ha
  have m0:0≤jB a l.length:=by
   rw[ag' ha];exact Int.emod_nonneg _ (by omega)
  have m1:jB a l.length<l.length:=ag_ a B;have m2:jB a l.length≤a:=by
   rw[ag' ha];have:=Int.mul_ediv_add_emod a l.length;have k:0≤(l.length:Int)*(a / l.length):=aha (by omega) (Int.ediv_nonneg ha (by omega));omega
  generalize N:nv a l.length=q at *;generalize hr:jB a l.length=r at *;have p0:0≤q*(7919+r):=aha d0 (by omega);have p1:q*(7919+r)≤1000000*2000000:=Int.mul_le_mul (by omega) (by omega) (by omega) (by omega);generalize O:q*(7919+r)=z at *
  (repeat first|refine aa.p ?_|refine aa.n ?_)
  refine aa.call (Gp _ 1073741824 (by omega) (by omega)) ?_;rintro _ ⟨u,rfl,d,h⟩
  (dsimp +instances only[Aa,Ab,Ac,Ad,Ae,Af,Ag])
  (repeat first|refine aa.p ?_|refine aa.n ?_)
  refine aa.call (Gp _ n h0 h1) ?_;rintro _ ⟨v,rfl,k,I⟩
  (dsimp +instances only[Aa,Ab,Ac,Ad,Ae,Af,Ag])
  exact aa.some ⟨v,rfl,k,I⟩
theorem P4(l:List (List G))(a lo hi:Int)(ha:0≤a)(d:a≤1000000)(h0:lo≤hi)(h1 : -1000000000≤lo)(h:hi≤1000000000) :
  aa (vz [.l l,.i a,.i lo,.i hi]) fun g=>∃ v,g=[.l l,.i (a+1),.i v]∧lo≤v∧v≤hi:=by
 unfold vz
 (dsimp +instances only[Aa,Ab,Ac,Ad,Ae,Af,Ag])
 (repeat first|refine aa.p ?_|refine aa.n ?_)
 refine aa.call (vY l a _ ha d (by omega) (by omega)) ?_;rintro _ ⟨v,rfl,k,q⟩
 (dsimp +instances only[Aa,Ab,Ac,Ad,Ae,Af,Ag])
 (repeat first|refine aa.p ?_|refine aa.n ?_)
 exact aa.some ⟨_,rfl,by omega,by omega⟩
theorem P5{l:List (List G)}{v:Int}(h0:0≤v)(h1:v<l.length):l.getD v.toNat []∈l:=by
 have:v.toNat<l.length:=by omega
 rw[bG,bt this];exact ly this
theorem P6(P:Int→Prop)(l:List (List G))(a:Int)(xs:List (List G))(ha:0≤a)(d:a≤1000000)(h0:1≤xs.length)(h1:xs.length≤1000000)(h:∀ x∈xs,P (gi x 0).int) :
  aa (mY [.l l,.i a,.l xs]) fun g=>∃ v,g=[.l l,.i (a+1),.i v]∧P v:=by
 unfold mY
 (dsimp +instances only[Aa,Ab,Ac,Ad,Ae,Af,Ag])
 refine aa.call (vY l a _ ha d (by omega) (by omega)) ?_;rintro _ ⟨v,rfl,k,q⟩
 (dsimp +instances only[Aa,Ab,Ac,Ad,Ae,Af,Ag])
 (repeat first|refine aa.p ?_|refine aa.n ?_)
 exact aa.some ⟨_,rfl,h _ (P5 k q)⟩
theorem aej(P:ByteArray→Prop)(l:List (List G))(a:Int)(xs:List (List G))(ha:0≤a)(d:a≤1000000)(h0:1≤xs.length)(h1:xs.length≤1000000)(h:∀ x∈xs,P (gi x 0).str) :
  aa (kz [.l l,.i a,.l xs]) fun g=>∃ v,g=[.l l,.i (a+1),.s v]∧P v:=by
 unfold kz
 (dsimp +instances only[Aa,Ab,Ac,Ad,Ae,Af,Ag])
 refine aa.call (vY l a _ ha d (by omega) (by omega)) ?_;rintro _ ⟨v,rfl,k,q⟩
 (dsimp +instances only[Aa,Ab,Ac,Ad,Ae,Af,Ag])
 (repeat first|refine aa.p ?_|refine aa.n ?_)
 exact aa.some ⟨_,rfl,h _ (P5 k q)⟩
theorem Gq(l:List (List G))(a n:Int)(ha:0≤a)(d:a≤1000000)(h0:1≤n)(h1:n≤1000000) :
  aa (sw [.l l,.i a,.i n]) fun g=>∃ b,g=[.l l,.i (a+1),.t b]:=by
 unfold sw
 (dsimp +instances only[Aa,Ab,Ac,Ad,Ae,Af,Ag])
 refine aa.call (vY l a _ ha d (by omega) (by omega)) ?_;rintro _ ⟨v,rfl,h,k⟩;exact aa.some ⟨_,rfl⟩
theorem Ah(l:List (List G))(a lo hi:Int)(ha:0≤a)(y:a≤900000)(h0:lo≤hi)(h1 : -1000000000≤lo)(u:hi≤1000000000) :
  aa (qc [.l l,.i a,.i lo,.i hi]) fun g=>∃ v,g=[.l l,.i (a+2),.i v] ∧ -1099511627776≤v∧(v≤1000000001∨v=1099511627776):=by
 unfold qc
 (dsimp +instances only[Aa,Ab,Ac,Ad,Ae,Af,Ag])
 have d:a+1+1=a+2:=by omega
 refine aa.call (Gq l a 12 ha (by omega) (by omega) (by omega)) ?_;rintro _ ⟨b,rfl⟩
 (dsimp +instances only[Aa,Ab,Ac,Ad,Ae,Af,Ag])
 cases b with
 | true =>
  (repeat first|refine aa.p ?_|refine aa.n ?_)
  refine aa.call (P6 (fun v => -1099511627776≤v∧(v≤1000000001∨v=1099511627776)) l (a+1) _ (by omega) (by omega) (by simp) (by simp) ?_) ?_
  ·intro x h
   simp only[bR,nt,or_false]at h;rcases h with rfl|rfl|rfl|rfl|rfl|rfl<;>(dsimp +instances only[Aa,Ab,Ac,Ad,Ae,Af,Ag])<;>omega
  ·rintro _ ⟨v, rfl, k, q⟩
   (dsimp +instances only[Aa,Ab,Ac,Ad,Ae,Af,Ag])
   exact aa.some ⟨v,by rw[d],k,q⟩
 | false =>
  (repeat first|refine aa.p ?_|refine aa.n ?_)
  refine aa.call (P4 l (a+1) lo hi (by omega) (by omega) h0 h1 u) ?_;rintro _ ⟨v,rfl,k,q⟩
  (dsimp +instances only[Aa,Ab,Ac,Ad,Ae,Af,Ag])
  exact aa.some ⟨v,by rw[d],by omega,by omega⟩
def oC(L:List ByteArray)(s:ByteArray):Bool:=L.any fun x=>ow x s
theorem aek{L:List ByteArray}{s:ByteArray}(h:oC L s=true):s∈L:=by
 obtain⟨x,d,he⟩:=ia.1 h;exact L3 he▸d
theorem Ai(lo hi:Int)(l:List (List G))(a:Int)(xs:List (List G))(ha:0≤a)(d:a≤1000000)(h0:(ep 1 xs.length&&ep xs.length 1000000)=true) (h:(xs.all fun x=>ba lo (gi x 0).int&&ba (gi x 0).int hi)=true) :
  aa (mY [.l l,.i a,.l xs]) fun g=>∃ v,g=[.l l,.i (a+1),.i v]∧lo≤v∧v≤hi:=by
 simp only[ax,AW]at h0;refine P6 (fun v=>lo≤v∧v≤hi) l a xs ha d h0.1 h0.2 fun x k=>?_;have:=dq.1 h x k;simpa only[fv,ax,decide_eq_true_eq]using this
theorem oD(L:List ByteArray)(l:List (List G))(a:Int)(xs:List (List G))(ha:0≤a)(d:a≤1000000)(h0:(ep 1 xs.length&&ep xs.length 1000000)=true) (h:(xs.all fun x=>oC L (gi x 0).str)=true) :
  aa (kz [.l l,.i a,.l xs]) fun g=>∃ v,g=[.l l,.i (a+1),.s v]∧v∈L:=by
 simp only[ax,AW]at h0;exact aej (fun v=>v∈L) l a xs ha d h0.1 h0.2 fun x k=>aek (dq.1 h x k)
def lW:List ByteArray:=[⟨#[]⟩,⟨#[107,49]⟩,⟨#[75,49,65,66]⟩,⟨#[107,49,97,98,47]⟩,⟨#[49,97]⟩,⟨#[107,49,97,98,47,109,109,47,112]⟩,⟨#[107,49,97,98]⟩,⟨#[107,49,97,97]⟩,⟨#[107,49,97,98,47,52]⟩,
 ⟨#[111,104,50,97,98,99]⟩,⟨#[111,104,50,97,98,100]⟩,⟨#[119,49,97,119]⟩,⟨#[110,49,109,109]⟩,⟨#[103,51,120,121,122,47,112]⟩]
def calls:List ByteArray:=lW++[⟨#[103,52,122,122,122]⟩]
theorem ael{c:ByteArray}(h:c∈lW):c∈calls:=oY _ h
def oE:List ByteArray:=[⟨#[]⟩,⟨#[66]⟩,⟨#[98,50,48]⟩,⟨#[98,52,48]⟩]
def names:List ByteArray:=[⟨#[]⟩,⟨#[65]⟩,⟨#[49]⟩,⟨#[102,105,110]⟩,⟨#[117,115,97]⟩]
def small(n:Int):Prop := -2000000000000≤n∧n≤2000000000000
def dy(r:List G):Prop:=∃(t m:Int) (b c:ByteArray) (s h:Int) (x y:ByteArray),r=[.i t,.i m,.s b,.s c,.i s,.i h,.s x,.s y]∧small t∧small m∧small s∧small h∧b∈oE∧c∈calls∧x∈names∧y∈names
def tight(n:Int):Prop := -1900000000000≤n∧n≤1900000000000
def sU(n:Int):Prop := -1900000000000≤n∧(n≤345000000000∨(345686399999<n∧n≤1900000000000))
def lj(r:List G):Prop:=∃(t m:Int) (b c:ByteArray) (s h:Int) (x y:ByteArray),r=[.i t,.i m,.s b,.s c,.i s,.i h,.s x,.s y]∧sU t∧tight m∧tight s∧tight h∧b∈oE∧c∈lW∧x∈names∧y∈names
theorem tight.to{n:Int}(h:tight n):small n:=⟨by have:=h.1; omega,by have:=h.2; omega⟩
theorem sU.to{n:Int}(h:sU n):small n:=by
 unfold sU at h;exact⟨by omega,by omega⟩
theorem lj.to{r:List G}(h:lj r):dy r:=by
 obtain⟨t,m,b,c,s,h,x,y,e,h1,d,k,q,u,v,B⟩:=h;exact⟨t,m,b,c,s,h,x,y,e,h1.to,d.to,k.to,q.to,u,ael v,B⟩
theorem dy.eta{r:List G}(h:dy r):aM [.int .i64,.int .i64,.str,.str,.int .i64,.int .i64,.str,.str] r=r:=by
 obtain⟨t,m,b,c,s,h,x,y,rfl,_⟩:=h;rfl
theorem aem(l:List (List G))(a:Int)(ha:0≤a)(k:a≤900000):aa (zz [.l l,.i a]) fun g=>∃ v,g=[.l l,.i (a+2),.s v]∧v∈lW:=by
 unfold zz
 (dsimp +instances only[Aa,Ab,Ac,Ad,Ae,Af,Ag])
 have d:a+1+1=a+2:=by omega
 refine aa.call (Gq l a 60 ha (by omega) (by omega) (by omega)) ?_;rintro _ ⟨b,rfl⟩
 (dsimp +instances only[Aa,Ab,Ac,Ad,Ae,Af,Ag])
 cases b with
 | true =>
  (repeat first|refine aa.p ?_|refine aa.n ?_)
  refine aa.call (oD lW l (a+1) _ (by omega) (by omega) (by kernel_rfl) (by kernel_rfl)) ?_;rintro _ ⟨v,rfl,h⟩;exact aa.some ⟨v,by(dsimp +instances only[Aa,Ab,Ac,Ad,Ae,Af,Ag]); rw[d],h⟩
 | false =>
  (repeat first|refine aa.p ?_|refine aa.n ?_)
  refine aa.call (oD lW l (a+1) _ (by omega) (by omega) (by kernel_rfl) (by kernel_rfl)) ?_;rintro _ ⟨v,rfl,h⟩;exact aa.some ⟨v,by(dsimp +instances only[Aa,Ab,Ac,Ad,Ae,Af,Ag]); rw[d],h⟩
theorem aen(l:List (List G))(a t:Int)(ha:0≤a)(ha1:a≤800000)(d:sU t) :
  aa (zA [.l l,.i a,.i t]) fun g=>∃ b r,g=[.l l,.i b,.l [r]]∧a≤b∧b≤a+20∧lj r:=by
 unfold sU at d;unfold zA
 (dsimp +instances only[Aa,Ab,Ac,Ad,Ae,Af,Ag])
 refine aa.call (Ai 1 3 l a _ ha (by omega) (by kernel_rfl) (by kernel_rfl)) ?_;rintro _ ⟨m,rfl,hm⟩
 (dsimp +instances only[Aa,Ab,Ac,Ad,Ae,Af,Ag])
 refine aa.call (oD oE l _ _ (by omega) (by omega) (by kernel_rfl) (by kernel_rfl)) ?_;rintro _ ⟨u,rfl,hb⟩
 (dsimp +instances only[Aa,Ab,Ac,Ad,Ae,Af,Ag])
 refine aa.call (aem l _ (by omega) (by omega)) ?_;rintro _ ⟨c,rfl,q⟩
 (dsimp +instances only[Aa,Ab,Ac,Ad,Ae,Af,Ag])
 refine aa.call (Ai 0 7 l _ _ (by omega) (by omega) (by kernel_rfl) (by kernel_rfl)) ?_;rintro _ ⟨s,rfl,hs⟩
 (dsimp +instances only[Aa,Ab,Ac,Ad,Ae,Af,Ag])
 refine aa.call (Ai 0 9 l _ _ (by omega) (by omega) (by kernel_rfl) (by kernel_rfl)) ?_;rintro _ ⟨h,rfl,hh⟩
 (dsimp +instances only[Aa,Ab,Ac,Ad,Ae,Af,Ag])
 refine aa.call (oD names l _ _ (by omega) (by omega) (by kernel_rfl) (by kernel_rfl)) ?_;rintro _ ⟨x,rfl,v⟩
 (dsimp +instances only[Aa,Ab,Ac,Ad,Ae,Af,Ag])
 refine aa.call (oD names l _ _ (by omega) (by omega) (by kernel_rfl) (by kernel_rfl)) ?_;rintro _ ⟨y,rfl,B⟩
 (dsimp +instances only[Aa,Ab,Ac,Ad,Ae,Af,Ag])
 refine aa.call (Gq l _ 100 (by omega) (by omega) (by omega) (by omega)) ?_;rintro _ ⟨f,rfl⟩
 (dsimp +instances only[Aa,Ab,Ac,Ad,Ae,Af,Ag])
 cases f with
 | false =>
  (repeat first|refine aa.p ?_|refine aa.n ?_)
  exact aa.some ⟨_,_,rfl,by omega,by omega,t,m,u,c,s,h,x,y,rfl,d,⟨by omega,by omega⟩,⟨by omega,by omega⟩,⟨by omega,by omega⟩,hb,q,v,B⟩
 | true =>
  (repeat first|refine aa.p ?_|refine aa.n ?_)
  refine aa.call (vY l _ 4 (by omega) (by omega) (by omega) (by omega)) ?_;rintro _ ⟨k,rfl,hk⟩
  (dsimp +instances only[Aa,Ab,Ac,Ad,Ae,Af,Ag])
  by_cases I:k=0
  ·subst I
   (repeat first|refine aa.p ?_|refine aa.n ?_)
   refine aa.call (Ah l _ 0 500 (by omega) (by omega) (by omega) (by omega) (by omega)) ?_;rintro _ ⟨t',rfl,ht'⟩
   (dsimp +instances only[Aa,Ab,Ac,Ad,Ae,Af,Ag])
   refine aa.call (Ah l _ 1 3 (by omega) (by omega) (by omega) (by omega) (by omega)) ?_;rintro _ ⟨m',rfl,hm'⟩
   (dsimp +instances only[Aa,Ab,Ac,Ad,Ae,Af,Ag])
   exact aa.some ⟨_,_,rfl,by omega,by omega,t',m',u,c,s,h,x,y,rfl,⟨by omega,by omega⟩,⟨by omega,by omega⟩,⟨by omega,by omega⟩,⟨by omega,by omega⟩,hb,q,v,B⟩
  ·refine aa.neg (by simpa using I) ?_
   by_cases J:k=1
   ·subst J
    (repeat first|refine aa.p ?_|refine aa.n ?_)
    refine aa.call (oD oE l _ _ (by omega) (by omega) (by kernel_rfl) (by kernel_rfl)) ?_;rintro _ ⟨V,rfl,N⟩
    (dsimp +instances only[Aa,Ab,Ac,Ad,Ae,Af,Ag])
    exact aa.some ⟨_,_,rfl,by omega,by omega,t,m,V,c,s,h,x,y,rfl,d,⟨by omega,by omega⟩,⟨by omega,by omega⟩,⟨by omega,by omega⟩,N,q,v,B⟩
   ·refine aa.neg (by simpa using J) ?_
    by_cases M:k=2
    ·subst M
     (repeat first|refine aa.p ?_|refine aa.n ?_)
     refine aa.call (Ah l _ 0 99999 (by omega) (by omega) (by omega) (by omega) (by omega)) ?_;rintro _ ⟨s',rfl,hs'⟩
     (dsimp +instances only[Aa,Ab,Ac,Ad,Ae,Af,Ag])
     refine aa.call (Ah l _ 0 99999 (by omega) (by omega) (by omega) (by omega) (by omega)) ?_;rintro _ ⟨h',rfl,hh'⟩
     (dsimp +instances only[Aa,Ab,Ac,Ad,Ae,Af,Ag])
     exact aa.some ⟨_,_,rfl,by omega,by omega,t,m,u,c,s',h',x,y,rfl,d,⟨by omega,by omega⟩,⟨by omega,by omega⟩,⟨by omega,by omega⟩,hb,q,v,B⟩
    ·refine aa.neg (by simpa using M) ?_
     refine aa.call (oD names l _ _ (by omega) (by omega) (by kernel_rfl) (by kernel_rfl)) ?_;rintro _ ⟨W,rfl,O⟩
     (dsimp +instances only[Aa,Ab,Ac,Ad,Ae,Af,Ag])
     refine aa.call (oD names l _ _ (by omega) (by omega) (by kernel_rfl) (by kernel_rfl)) ?_;rintro _ ⟨y',rfl,U⟩
     (dsimp +instances only[Aa,Ab,Ac,Ad,Ae,Af,Ag])
     exact aa.some ⟨_,_,rfl,by omega,by omega,t,m,u,c,s,h,W,y',rfl,d,⟨by omega,by omega⟩,⟨by omega,by omega⟩,⟨by omega,by omega⟩,hb,q,O,U⟩
def fA(a b:Int):Int:=if a<b then -1 else if b<a then 1 else 0
theorem P7:∀{a b:List UInt8},eu a b=0→a=b
 | [],[],_=>rfl
 | [],_::_,h=>by simp[eu]at h
 |_::_,[],h=>by simp[eu]at h
 | x::a,y::b,h=>by
  unfold eu at h;split at h
  ·cases h
  ·split at h
   ·cases h
   ·rename_i h1 d
    rw[P7 h,A3 (nw.1 d) (nw.1 h1)]
theorem P8:∀ a:List UInt8,eu a a=0
 | []=>rfl
 |x::a=>by simp[eu,P8 a]
theorem Gr(a b:ByteArray):(a.toList==b.toList)=decide (cX a b=0):=by
 rw[qC,qC,lx,decide_eq_true_eq,beq_iff_eq];constructor
 ·intro h
  unfold cX;rw[h];exact P8 _
 ·exact fun h=>P7 h
def vZ(a b c d:Int):Int:=if a≠0 then a else if b≠0 then b else if c≠0 then c else d
def dE(r s:List G):Int:=vZ (fA (gi r 0).int (gi s 0).int) (cX (gi r 3).str (gi s 3).str) (cX (gi r 2).str (gi s 2).str) (fA (gi r 1).int (gi s 1).int)
theorem sign_eq(a b:Int):vA [.i (a-b)]=some [.i (fA a b)]:=by
 refine aa.toEq ?_;unfold vA fA
 (dsimp +instances only[Aa,Ab,Ac,Ad,Ae,Af,Ag])
 by_cases h1:a<b
 ·(repeat first|refine aa.p ?_|refine aa.n ?_)
  exact aa.some (by simp[h1])
 ·by_cases d : b < a
  ·(repeat first|refine aa.p ?_|refine aa.n ?_)
   exact aa.some (by simp[h1,d])
  ·(repeat first|refine aa.p ?_|refine aa.n ?_)
   exact aa.some (by simp[h1,d])
theorem Gs{r s:List G}(hr:dy r)(u:dy s):qd [.l [r],.l [s]]=some [.i (dE r s)]:=by
 obtain⟨t,m,b,c,_,_,_,_,rfl,I,hm,_⟩:=hr;obtain⟨t',m',d,h,_,_,_,_,rfl,y,B,_⟩:=u;unfold small at *;refine aa.toEq ?_;unfold qd dE vZ
 (dsimp +instances only[Aa,Ab,Ac,Ad,Ae,Af,Ag])
 simp only[Gr];by_cases v:t=t'
 ·subst v
  have z:fA t t=0:=by simp[fA]
  simp only[z]
  (repeat first|refine aa.p ?_|refine aa.n ?_)
  by_cases k:cX c h=0
  ·simp only [k]
   (repeat first|refine aa.p ?_|refine aa.n ?_)
   by_cases q:cX b d=0
   ·simp only [q]
    (repeat first|refine aa.p ?_|refine aa.n ?_)
    refine aa.cE (sign_eq m m') ?_
    (dsimp +instances only[Aa,Ab,Ac,Ad,Ae,Af,Ag])
    exact aa.some (by simp)
   ·refine aa.pos (by simpa using q) (aa.call (aa.eq (rfl : iH [.s b, .s d] = some [.i (cX b d)])) ?_)
    rintro _ rfl
    (dsimp +instances only[Aa,Ab,Ac,Ad,Ae,Af,Ag])
    exact aa.some (by simp[q])
  ·refine aa.pos (by simpa using k) (aa.call (aa.eq (rfl : iH [.s c, .s h] = some [.i (cX c h)])) ?_)
   rintro _ rfl
   (dsimp +instances only[Aa,Ab,Ac,Ad,Ae,Af,Ag])
   exact aa.some (by simp[k])
 ·(repeat first|refine aa.p ?_|refine aa.n ?_)
  refine aa.cE (sign_eq t t') ?_
  (dsimp +instances only[Aa,Ab,Ac,Ad,Ae,Af,Ag])
  have z:fA t t'≠0:=by
   unfold fA;split
   ·omega
   ·split<;>omega
  exact aa.some (by simp[z])
theorem P9(a b:Int):sq [.i a,.i b]=some [.i (fA a b)]:=by
 refine aa.toEq ?_;unfold sq zn fA
 (dsimp +instances only[Aa,Ab,Ac,Ad,Ae,Af,Ag])
 simp only[bne_self_eq_false];refine aa.call ⟨_,rfl,rfl⟩ ?_;rintro _ rfl;refine aa.call ⟨_,rfl,rfl⟩ ?_;rintro _ rfl
 (dsimp +instances only[Aa,Ab,Ac,Ad,Ae,Af,Ag])
 (repeat first|refine aa.p ?_|refine aa.n ?_)
 by_cases h1:a<b
 ·(repeat first|refine aa.p ?_|refine aa.n ?_)
  exact aa.some (by simp[h1])
 ·by_cases d : b < a
  ·(repeat first|refine aa.p ?_|refine aa.n ?_)
   exact aa.some (by simp[h1,d])
  ·(repeat first|refine aa.p ?_|refine aa.n ?_)
   exact aa.some (by simp[h1,d])
def oF:List (List G)→Int
 | []=>0
 |x::q=>if (gi x 0).int≠0 then (gi x 0).int else oF q
theorem P_:∀(q p:List (List G)),p.length+q.length<100000 →
  aZ sr [.i 0,.l (p++q),.i ((p.length+q.length:Nat):Int),.i (p.length:Int)] (q.length+1) fun c g=>c≤1∧g=[.i (oF q)]
 | [],p,d=>by
  refine aZ.stop (x:=1) (aa.toEq ?_) ⟨by omega,rfl⟩;unfold sr
  (dsimp +instances only[Aa,Ab,Ac,Ad,Ae,Af,Ag])
  (repeat first|refine aa.p ?_|refine aa.n ?_)
  exact aa.some rfl
 | y::q,p,d=>by
  simp only[cr]at d;have g1:(p++y::q).getD (p.length:Int).toNat []=y:=lg _ _ _ _ _ (by simp);have hlen:(p++y::q).length=p.length+q.length+1:=by simp; omega
  by_cases he:(gi y 0).int=0
  ·have h := P_ q (p ++ [y]) (by simp; omega)
   have e:oF (y::q)=oF q:=by simp[oF,he]
   rw[e];refine aZ.next (aa.toEq ?_) h
   unfold sr
   (dsimp +instances only[Aa,Ab,Ac,Ad,Ae,Af,Ag])
   simp only[g1,hlen,cr]
   (repeat first|refine aa.p ?_|refine aa.n ?_)
   refine aa.some ?_;simp;omega
  ·refine aZ.stop (x := 0) (aa.toEq ?_) ⟨by omega, rfl⟩
   unfold sr
   (dsimp +instances only[Aa,Ab,Ac,Ad,Ae,Af,Ag])
   simp only[g1,hlen,cr]
   (repeat first|refine aa.p ?_|refine aa.n ?_)
   refine aa.some ?_;simp[oF,he]
theorem or_eq(a b c d:Int):qb [.l [[.i a],[.i b],[.i c],[.i d]]]=some [.i (vZ a b c d)]:=by
 refine aa.toEq ?_;unfold qb
 (dsimp +instances only[Aa,Ab,Ac,Ad,Ae,Af,Ag])
 have h:=P_ [[.i a],[.i b],[.i c],[.i d]] [] (by simp);refine aa.loop (h.to (by simp)) (by(first|rfl|assumption|(simp only[au,sl]<;>omega))) ?_;rintro x g ⟨v,rfl⟩;have e:oF [[.i a],[.i b],[.i c],[.i d]]=vZ a b c d:=by
  simp only[oF,vZ]
  (dsimp +instances only[Aa,Ab,Ac,Ad,Ae,Af,Ag])
  by_cases h1:a=0<;>by_cases k:b=0<;>by_cases q:c=0<;>by_cases u:d=0<;>simp[h1,k,q,u]
 rw[e]
 (dsimp +instances only[Aa,Ab,Ac,Ad,Ae,Af,Ag])
 exact aa.test (fun _=>aa.some rfl) fun _=>aa.some rfl
theorem aeo{r s:List G}(hr:dy r)(k:dy s):zo [.l [r],.l [s]]=some [.i (dE r s)]:=by
 obtain⟨t,m,b,c,_,_,_,_,rfl,v,hm,_⟩:=hr;obtain⟨t',m',d,h,_,_,_,_,rfl,q,u,_⟩:=k;refine aa.toEq ?_;unfold zo
 (dsimp +instances only[Aa,Ab,Ac,Ad,Ae,Af,Ag])
 refine aa.cE (P9 t t') ?_;refine aa.cE (rfl:iH [.s c,.s h]=some [.i (cX c h)]) ?_;refine aa.cE (rfl:iH [.s b,.s d]=some [.i (cX b d)]) ?_;refine aa.cE (P9 m m') ?_
 (dsimp +instances only[Aa,Ab,Ac,Ad,Ae,Af,Ag])
 refine aa.cE (or_eq _ _ _ _) ?_;exact aa.some rfl
theorem aep:sf [.int .i64,.int .i64,.str,.str,.int .i64,.int .i64,.str,.str] qd dy dE:=⟨fun _ _ hr d=>Gs hr d,fun _ h=>h.eta⟩
def eQ(v lo hi:Int):Bool:=ba lo v&&ba v hi
theorem aeq(v lo hi:Int):oy [.i v,.i lo,.i hi]=some [.t (eQ v lo hi)]:=by
 unfold oy eQ
 (dsimp +instances only[Aa,Ab,Ac,Ad,Ae,Af,Ag])
 cases ba lo v<;>rfl
theorem sV(v lo hi:Int):lV [.i v,.i lo,.i hi]=some [.t (!eQ v lo hi)]:=by
 unfold lV eQ
 (dsimp +instances only[Aa,Ab,Ac,Ad,Ae,Af,Ag])
 have h1:ao v lo = !ba lo v:=by rw[eW,fv,lx]; simp
 have d:ao hi v = !ba v hi:=by rw[eW,fv,lx]; simp
 rw[h1,d];cases ba lo v<;>cases ba v hi<;>rfl
def lX(s:ByteArray):Bool:=oC [⟨#[98,50,48]⟩,⟨#[98,52,48]⟩,⟨#[102,105,110]⟩,⟨#[117,115,97]⟩] s
def lY(s:ByteArray):Bool:=oC [⟨#[]⟩] s||lX s
def iY(s:ByteArray):Bool:=(gi ((so [.s s]).getD []) 0).bool
theorem aer{s:ByteArray}(h:s∈oE∨s∈names):sn [.s s]=some [.t (lX s)]:=by
 simp only[oE,names,bR,nt,or_false]at h;rcases h with(rfl|rfl|rfl|rfl)|(rfl|rfl|rfl|rfl|rfl)<;>kernel_rfl
theorem Gt{s:ByteArray}(h:s∈oE∨s∈names):sA [.s s]=some [.t (lX s)]:=by
 simp only[oE,names,bR,nt,or_false]at h;rcases h with(rfl|rfl|rfl|rfl)|(rfl|rfl|rfl|rfl|rfl)<;>kernel_rfl
theorem P'{s:ByteArray}(h:s∈names):zl [.s s]=some [.t (lY s)]:=by
 simp only[names,bR,nt,or_false]at h;rcases h with(rfl|rfl|rfl|rfl|rfl)<;>kernel_rfl
theorem Qa{s:ByteArray}(h:s∈calls):so [.s s]=some [.t (iY s)]:=by
 simp only[calls,lW,kG,jV,bR,nt,or_false]at h;rcases h with(rfl|rfl|rfl|rfl|rfl|rfl|rfl|rfl|rfl|rfl|rfl|rfl|rfl|rfl|rfl)<;>kernel_rfl
theorem aes{s:ByteArray}(h:s∈calls):E7 [.s s]=some [.t (iY s)]:=by
 simp only[calls,lW,kG,jV,bR,nt,or_false]at h;rcases h with(rfl|rfl|rfl|rfl|rfl|rfl|rfl|rfl|rfl|rfl|rfl|rfl|rfl|rfl|rfl)<;>kernel_rfl
def fi(r:List G):Int :=
 bif !eQ (gi r 0).int 0 345686399999 then 1 else bif !eQ (gi r 1).int 1 3 then 4 else bif !lX (gi r 2).str then 5 else bif !iY (gi r 3).str then 3 else
 bif !eQ (gi r 4).int 0 99999 then 1 else bif !eQ (gi r 5).int 0 99999 then 1 else bif !lY (gi r 6).str then 5 else bif !lY (gi r 7).str then 5 else 0
theorem aet{r:List G}(hr:dy r):zm [.l [r]]=some [.i (fi r)]:=by
 obtain⟨t,m,b,c,s,h,x,y,rfl,_,_,_,_,hb,d,k,q⟩:=hr;unfold zm DK DM fi
 (dsimp +instances only[Aa,Ab,Ac,Ad,Ae,Af,Ag])
 have u:=aer (.inl hb);have v:=P' k;have B:=P' q;have I:=Qa d;rw[sV t,sV m];rw[u,I,sV s,sV h,v,B];generalize eQ t 0 345686399999=b1;generalize eQ m 1 3=J;generalize lX b=M;generalize iY c=N;generalize eQ s 0 99999=O;generalize eQ h 0 99999=U;generalize lY x=V;generalize lY y=W;cases b1<;>cases J<;>cases M<;>cases N<;>cases O<;>cases U<;>cases V<;>cases W<;>rfl
theorem empty_eq(s:ByteArray):(s.toList==(⟨#[]⟩:ByteArray).toList)=oC [⟨#[]⟩] s:=by
 rw[qC,qC];simp only[oC,ow,A4,List.any_nil,Bool.or_false];rw[lx];simp only[beq_iff_eq];exact eq_comm
theorem aeu{r:List G}(hr:dy r):zH [.l [r]]=some [.i (fi r)]:=by
 obtain⟨t,m,b,c,s,h,x,y,rfl,_,_,_,_,hb,q,u,v⟩:=hr;unfold zH EU fi lY
 (dsimp +instances only[Aa,Ab,Ac,Ad,Ae,Af,Ag])
 have B:=Gt (.inl hb);have I:=Gt (.inr u);have J:=Gt (.inr v);have M:=aes q;have ex:=empty_eq x;have d:=empty_eq y;generalize (⟨#[]⟩:ByteArray)=z at ex d⊢;simp only[aeq,Wf rfl,B,M,I,J]
 (dsimp +instances only[Aa,Ab,Ac,Ad,Ae,Af,Ag])
 rw[ex,d];generalize eQ t 0 345686399999=b1;generalize eQ m 1 3=N;generalize lX b=O;generalize iY c=U;generalize eQ s 0 99999=V;generalize eQ h 0 99999=W;generalize lX x=b7;generalize lX y=b8;generalize oC [z] x=b9;generalize oC [z] y=k;cases b1<;>cases N<;>cases O<;>cases U<;>cases V<;>cases W<;>cases b7<;>cases b8<;>cases b9<;>cases k<;>rfl
def qg(K:List Kd)(C D:List G→Option (List G))(d:List G):Option (Option Nat × List G) :=
 (bif (ao (gi d 3).int (gi d 2).int) then (bif ((aB (gi d 3).int)&&(ao (gi d 3).int (((gi d 1).rows.length:Nat):Int))) then (ay (C [.l [(aM K ((gi d 1).rows.getD (((gi d 3).int).toNat) []))]]) fun g1=>(bif ((gi g1 0).int != 0) then some (some 0,[.i (gi g1 0).int]) else (bif (ao 0 (gi d 3).int) then (bif (au ((gi d 3).int-1)) then (bif ((aB ((gi d 3).int-1))&&(ao ((gi d 3).int-1) (((gi d 0).rows.length:Nat):Int))) then (ay (D [.l [(aM K ((gi d 0).rows.getD (((gi d 3).int-1).toNat) []))],.l [(aM K ((gi d 1).rows.getD (((gi d 3).int).toNat) []))]]) fun g2=>(bif (ba 0 (gi g2 0).int) then some (some 0,[.i 7]) else (bif (au ((gi d 3).int+1)) then some (none,[.l (gi d 0).rows,.l (gi d 1).rows,.i (gi d 2).int,.i ((gi d 3).int+1)]) else none))) else none) else none) else (bif (au ((gi d 3).int+1)) then some (none,[.l (gi d 0).rows,.l (gi d 1).rows,.i (gi d 2).int,.i ((gi d 3).int+1)]) else none)))) else none) else some (some 1,[]))
def Qb(K:List Kd)(C D:List G→Option (List G))(d:List G):Option (List G) :=
 (bif (ao 2000 (((gi d 0).rows.length:Nat):Int)) then some [.i 2] else (a8 true (bV (qg K C D) [.l (gi d 0).rows,.l (gi d 0).rows,.i (((gi d 0).rows.length:Nat):Int),.i 0]) fun h g3=>(bif ae h 0 then some [.i (gi g3 0).int] else some [.i 0])))
def e_:Option (List G)→List (List G)→Int
 |_,[]=>0
 |none,x::q=>if fi x≠0 then fi x else e_ (some x) q
 |some y,x::q=>if fi x≠0 then fi x else if 0≤dE y x then 7 else e_ (some x) q
def fZ(l:List (List G)):Int:=if 2000<l.length then 2 else e_ none l
section
variable {C D:List G→Option (List G)} (hC:∀ r,dy r→C [.l [r]]=some [.i (fi r)]) (hD:∀ r s,dy r→dy s→D [.l [r],.l [s]]=some [.i (dE r s)])
include hC hD
theorem Qc:∀(q p:List (List G)),(∀ z∈p++q,dy z)→p.length+q.length<100000 →
  aZ (qg [.int .i64,.int .i64,.str,.str,.int .i64,.int .i64,.str,.str] C D) [.l (p++q),.l (p++q),.i ((p.length+q.length:Nat):Int),.i (p.length:Int)] (q.length+1) fun c g=>(c=0∧g=[.i (e_ p.getLast? q)])∨c=1∧e_ p.getLast? q=0
 | [],p,u,I=>by
  refine aZ.stop (x:=1) (d':=[]) (aa.toEq ?_) (.inr ⟨rfl,by unfold e_; rfl⟩);unfold qg
  (dsimp +instances only[Aa,Ab,Ac,Ad,Ae,Af,Ag])
  (repeat first|refine aa.p ?_|refine aa.n ?_)
  exact aa.some rfl
 | x::q,p,u,I=>by
  simp only[cr]at I;have d:dy x:=u x (by simp);have g1:(p++x::q).getD (p.length:Int).toNat []=x:=lg _ _ _ _ _ (by simp);have hlen:(p++x::q).length=p.length+q.length+1:=by simp; omega
  by_cases h:fi x=0
  ·have B := Qc q (p ++ [x]) (by simpa using u) (by simp; omega)
   rw[List.getLast?_concat]at B;rcases List.eq_nil_or_concat p with rfl|⟨k,y,rfl⟩
   ·have e : e_ ([] : List (List G)).getLast? (x :: q) = e_ (some x) q := by simp [e_, h]
    rw[e];refine aZ.next (aa.toEq ?_) B
    unfold qg
    (dsimp +instances only[Aa,Ab,Ac,Ad,Ae,Af,Ag])
    simp only[g1,hlen,cr,d.eta]
    (repeat first|refine aa.p ?_|refine aa.n ?_)
    refine aa.cE (hC x d) ?_
    (dsimp +instances only[Aa,Ab,Ac,Ad,Ae,Af,Ag])
    simp only[h]
    (repeat first|refine aa.p ?_|refine aa.n ?_)
    refine aa.some ?_;simp;omega
   ·rw [List.concat_eq_append] at *
    have v:dy y:=u y (by simp);have g2:((k++[y])++x::q).getD (((k++[y]).length:Int)-1).toNat []=y:=by
     have e:(k++[y])++x::q=k++y::x::q:=by simp
     rw[e]; exact lg _ _ _ _ _ (by simp)
    have M:(k++[y]).length=k.length+1:=by simp
    have J:(k++[y]).getLast? = some y:=by simp
    rw[J];by_cases ho:0≤dE y x
    ·refine aZ.stop (x := 0) (d' := [.i 7]) (aa.toEq ?_) (.inl ⟨rfl, by simp [e_, h, ho]⟩)
     unfold qg
     (dsimp +instances only[Aa,Ab,Ac,Ad,Ae,Af,Ag])
     simp only[g1,g2,hlen,cr,d.eta,v.eta]
     (repeat first|refine aa.p ?_|refine aa.n ?_)
     refine aa.cE (hC x d) ?_
     (dsimp +instances only[Aa,Ab,Ac,Ad,Ae,Af,Ag])
     simp only[h]
     (repeat first|refine aa.p ?_|refine aa.n ?_)
     refine aa.cE (hD y x v d) ?_
     (dsimp +instances only[Aa,Ab,Ac,Ad,Ae,Af,Ag])
     (repeat first|refine aa.p ?_|refine aa.n ?_)
     exact aa.some rfl
    ·have e : e_ (some y) (x :: q) = e_ (some x) q := by simp [e_, h, ho]
     rw[e];refine aZ.next (aa.toEq ?_) B
     unfold qg
     (dsimp +instances only[Aa,Ab,Ac,Ad,Ae,Af,Ag])
     simp only[g1,g2,hlen,cr,d.eta,v.eta]
     (repeat first|refine aa.p ?_|refine aa.n ?_)
     refine aa.cE (hC x d) ?_
     (dsimp +instances only[Aa,Ab,Ac,Ad,Ae,Af,Ag])
     simp only[h]
     (repeat first|refine aa.p ?_|refine aa.n ?_)
     refine aa.cE (hD y x v d) ?_
     (dsimp +instances only[Aa,Ab,Ac,Ad,Ae,Af,Ag])
     (repeat first|refine aa.p ?_|refine aa.n ?_)
     refine aa.some ?_;simp;omega
  ·refine aZ.stop (x := 0) (d' := [.i (fi x)]) (aa.toEq ?_) (.inl ⟨rfl, by cases hg : p.getLast? <;> simp [e_, h]⟩)
   unfold qg
   (dsimp +instances only[Aa,Ab,Ac,Ad,Ae,Af,Ag])
   simp only[g1,hlen,cr,d.eta]
   (repeat first|refine aa.p ?_|refine aa.n ?_)
   refine aa.cE (hC x d) ?_
   (dsimp +instances only[Aa,Ab,Ac,Ad,Ae,Af,Ag])
   refine aa.pos (by simpa using h) (aa.some rfl)
theorem Qd(l:List (List G))(d:∀ z∈l,dy z)(k:l.length<100000):Qb [.int .i64,.int .i64,.str,.str,.int .i64,.int .i64,.str,.str] C D [.l l]=some [.i (fZ l)]:=by
 refine aa.toEq ?_;unfold Qb fZ
 (dsimp +instances only[Aa,Ab,Ac,Ad,Ae,Af,Ag])
 by_cases h:2000<l.length
 ·(repeat first|refine aa.p ?_|refine aa.n ?_)
  exact aa.some (by simp[h])
 ·(repeat first|refine aa.p ?_|refine aa.n ?_)
  have h1:=Qc hC hD l [] (by simpa using d) (by simpa using k);have h0:((0:Nat):Int)=0:=rfl;simp only[jV,mr,cW,h0]at h1;refine aa.loop (h1.to (by omega)) (by(first|rfl|assumption|(simp only[au,sl]<;>omega))) ?_;rintro c g (⟨rfl,rfl⟩|⟨rfl,q⟩)
  ·(dsimp +instances only [Aa,Ab,Ac,Ad,Ae,Af,Ag])
   (repeat first|refine aa.p ?_|refine aa.n ?_)
   refine aa.some ?_;rw[if_neg h];rfl
  ·(repeat first|refine aa.p ?_|refine aa.n ?_)
   refine aa.some ?_;rw[if_neg h];exact congrArg (fun z=>[G.i z]) q.symm
end
theorem aev(l:List (List G))(d:∀ z∈l,dy z)(k:l.length<100000):zp [.l l]=some [.i (fZ l)] :=
 Qd (fun _ h=>aet h) (fun _ _ h h'=>aeo h h') l d k
theorem aew(l:List (List G))(d:∀ z∈l,dy z)(k:l.length<100000):Fa [.l l]=some [.i (fZ l)] :=
 Qd (fun _ h=>aeu h) (fun _ _ h h'=>Gs h h') l d k
theorem Qe(l:List (List G))(n:Nat)(M:n≤20):∀(k i:Nat) (a t:Int) (acc:List (List G)),i+k=n→0≤a→a≤700000+21*i → -(1500000*(i:Int))≤t→t≤1500000*(i:Int)→(∀ z∈acc,lj z)→acc.length=i →
  aZ sx [.l l,.i a,.l acc,.i t,.i (n:Int),.i (i:Int)] (k+1) fun c g=>c=0∧∃ b rows,g=[.l l,.i b,.l rows]∧a≤b∧b≤a+21*k∧(∀ z∈rows,lj z)∧rows.length=n
 | 0,i,a,t,acc,hi,ha,y,N,B,q,u=>by
  refine aZ.stop (x:=0) (aa.toEq ?_) ⟨rfl,a,acc,rfl,by omega,by omega,q,by omega⟩;unfold sx
  (dsimp +instances only[Aa,Ab,Ac,Ad,Ae,Af,Ag])
  (repeat first|refine aa.p ?_|refine aa.n ?_)
  exact aa.some rfl
 | k+1,i,a,t,acc,hi,ha,y,N,B,q,u=>by
  have key:aa (sx [.l l,.i a,.l acc,.i t,.i (n:Int),.i (i:Int)]) fun o=>∃ b r v,o=(none,[.l l,.i b,.l (acc++[r]),.i (t+v),.i (n:Int),.i ((i:Int)+1)])∧a≤b∧b≤a+21∧lj r∧0≤v∧v≤1500000:=by
   unfold sx
   (dsimp +instances only[Aa,Ab,Ac,Ad,Ae,Af,Ag])
   (repeat first|refine aa.p ?_|refine aa.n ?_)
   refine aa.call (Ai 0 1500000 l a _ ha (by omega) (by kernel_rfl) (by kernel_rfl)) ?_;rintro _ ⟨v,rfl,I,J⟩
   (dsimp +instances only[Aa,Ab,Ac,Ad,Ae,Af,Ag])
   (repeat first|refine aa.p ?_|refine aa.n ?_)
   refine aa.call (aen l (a+1) (t+v) (by omega) (by omega) ⟨by omega,by omega⟩) ?_;rintro _ ⟨b,r,rfl,hb0,hb1,hr⟩
   (dsimp +instances only[Aa,Ab,Ac,Ad,Ae,Af,Ag])
   simp only[hr.to.eta]
   (repeat first|refine aa.p ?_|refine aa.n ?_)
   exact aa.some ⟨b,r,v,rfl,by omega,by omega,hr,I,J⟩
  obtain⟨_,h,b,r,v,rfl,h1,h2,O,h4,h5⟩:=key;have U:=Qe l n M k (i+1) b (t+v) (acc++[r]) (by omega) (by omega) (by omega) (by omega) (by omega) (by
   intro z d;rcases cZ.1 d with d|d
   ·exact q z d
   ·simp at d; exact d▸O) (by simp[u])
  refine aZ.next h (U.mono ?_)
  rintro c g ⟨rfl,V,rows,rfl,q1,q2,W,q4⟩;exact⟨rfl,V,rows,rfl,by omega,by omega,W,q4⟩
theorem aex(rows:List (List G))(hr:∀ y∈rows,dy y)(d:rows.length≤20):zD [.l rows]=some [.l (dG (bZ dE) rows)] :=
 Xo aep rows hr d
def sW(r s:List G):Bool:=dE r s==0
theorem aey:zd [.int .i64,.int .i64,.str,.str,.int .i64,.int .i64,.str,.str] vD dy sW:=⟨fun r s hr d=>by
 refine aa.toEq ?_;unfold vD
 (dsimp +instances only[Aa,Ab,Ac,Ad,Ae,Af,Ag])
 simp only[hr.eta,d.eta];refine aa.cE (Gs hr d) ?_;exact aa.some rfl,fun _ h=>h.eta⟩
def zC:List G:=[.i 0,.i 0,.s (⟨#[]⟩:ByteArray),.s (⟨#[]⟩:ByteArray),.i 0,.i 0,.s (⟨#[]⟩:ByteArray),.s (⟨#[]⟩:ByteArray)]
theorem aez(l:List (List G))(a n:Int)(ha:0≤a)(v:a≤700000)(h0:0≤n)(h1:n≤20) :
  aa (zG [.l l,.i a,.i n]) fun g=>∃ b rows,g=[.l l,.i b,.l rows]∧a≤b∧b≤a+420∧(∀ z∈rows,lj z)∧(rows.length:Int)≤n:=by
 obtain⟨n,rfl⟩:=Int.eq_ofNat_of_zero_le h0;unfold zG
 (dsimp +instances only[Aa,Ab,Ac,Ad,Ae,Af,Ag])
 have q:=Qe l n (by omega) n 0 a 0 [] (by omega) ha (by omega) (by omega) (by omega) (by simp) rfl;refine aa.loop (q.to (by omega)) (by(first|rfl|assumption|(simp only[au,sl]<;>omega))) ?_;rintro c g ⟨rfl,b,rows,rfl,B,I,h,M⟩
 (dsimp +instances only[Aa,Ab,Ac,Ad,Ae,Af,Ag])
 refine aa.mU (aa.eq (aex rows (fun z d=>(h z d).to) (by omega))) (by(first|rfl|assumption|(simp only[au,sl]<;>omega))) ?_;rintro _ rfl
 (dsimp +instances only[Aa,Ab,Ac,Ad,Ae,Af,Ag])
 have k:=Xk (lt:=bZ dE) h;have y:=DC (bZ dE) rows;refine aa.mU (P:=fun g=>∃ J,g=[.l (iV sW (dG (bZ dE) rows)++J),.i ((iV sW (dG (bZ dE) rows)).length:Int)]∧(iV sW (dG (bZ dE) rows)++J).length=(dG (bZ dE) rows).length)
  (Xr (Z:=zC) aey (dG (bZ dE) rows) (fun z d=>(k z d).to) (by omega)) (by(first|rfl|assumption|(simp only[au,sl]<;>omega))) ?_
 rintro _ ⟨J,rfl,u⟩
 (dsimp +instances only[Aa,Ab,Ac,Ad,Ae,Af,Ag])
 have hle:(iV sW (dG (bZ dE) rows)).length≤(dG (bZ dE) rows).length:=Xq _ _;simp only[u]
 (repeat first|refine aa.p ?_|refine aa.n ?_)
 refine aa.some ⟨b,iV sW (dG (bZ dE) rows),by simp,by omega,by omega,fun z d=>k z (Xp d),by omega⟩
def Qf:List (List G)→Bool
 | []=>false
 | [_]=>false
 |x::y::q=>dE x y==0||Qf (y::q)
def aht(m:List (List G)):List G:=bif Qf m then [.l [],.i 13] else bif Nat.blt 2000 m.length then [.l [],.i 2] else [.l m,.i 0]
end
end Go.Proofs.gY

namespace Go.Proofs.gY
open Go Go.AL Go.Proofs
noncomputable section
structure ahu (s:List (List G) × List (List G)) (i:Nat):Prop where
 l1:s.1.length≤i
 l2:s.2.length≤i
 r1:∀ r∈s.1,∃ a b,r=[.i a,.i b]∧0≤b∧b≤i+1
 r2:∀ r∈s.2,∃ a,r=[.i a]
def has(a b t:Int):Bool:=ba a t&&ao t b
/-! ### d -/
structure ahv (s:List (List G) × Int) (i:Nat):Prop where
 len:s.1.length≤i
 rows:∀ r∈s.1,∃ a b,r=[.i a,.i b]
 at0:0≤s.2
 at1:s.2≤345686400000
/-! ### d -/
structure ahy (s:List (List G)) (n i:Nat):Prop where
 len:s.length=n
 rows:∀ r∈s,∃ v,r=[.i v]∧0≤v∧v≤i
theorem Qg(l:List (List G))(n:Int)(h0:0≤n)(h1:n≤20):∀(k i:Nat) (a:Int),i+k=5→0≤a→a≤5000+420*(i:Int) →
  aZ sB [.l l,.i a,.i n,.i (i:Int)] (k+1) fun c g=>(c=0∧∃ b rows,g=[.l l,.i b,.l rows]∧0≤b∧b≤10000∧(∀ z∈rows,lj z)∧(rows.length:Int)≤n∧fZ rows=0)∨(c=1∧∃ b,g=[.l l,.i b]∧0≤b∧b≤10000)
 | 0,i,a,hi,ha,u=>by
  refine aZ.stop (x:=1) (aa.toEq ?_) (.inr ⟨rfl,a,rfl,ha,by omega⟩);unfold sB
  (dsimp +instances only[Aa,Ab,Ac,Ad,Ae,Af,Ag])
  (repeat first|refine aa.p ?_|refine aa.n ?_)
  exact aa.some rfl
 | k+1,i,a,hi,ha,u=>by
  have key:aa (sB [.l l,.i a,.i n,.i (i:Int)]) fun o=>(∃ b rows,o=(some 0,[.l l,.i b,.l rows])∧0≤b∧b≤10000∧(∀ z∈rows,lj z)∧(rows.length:Int)≤n∧fZ rows=0) ∨
    ∃ b,o=(none,[.l l,.i b,.i n,.i ((i+1:Nat):Int)])∧a≤b∧b≤a+420:=by
   unfold sB
   (dsimp +instances only[Aa,Ab,Ac,Ad,Ae,Af,Ag])
   (repeat first|refine aa.p ?_|refine aa.n ?_)
   refine aa.call (aez l a n ha (by omega) h0 h1) ?_;rintro _ ⟨b,rows,rfl,g1,g2,g3,g4⟩
   (dsimp +instances only[Aa,Ab,Ac,Ad,Ae,Af,Ag])
   refine aa.cE (aew rows (fun z v=>(g3 z v).to) (by omega)) ?_
   (dsimp +instances only[Aa,Ab,Ac,Ad,Ae,Af,Ag])
   refine aa.test (fun h=>?_) fun h=>?_
   ·exact aa.some (.inl ⟨b,rows,rfl,by omega,by omega,g3,g4,by simpa using h⟩)
   ·(repeat first|refine aa.p ?_|refine aa.n ?_)
    exact aa.some (.inr ⟨b,by simp,g1,g2⟩)
  obtain⟨_,h,⟨b,rows,rfl,d,q,y,B,I⟩|⟨b,rfl,d,q⟩⟩:=key
  ·exact aZ.stop h (.inl ⟨rfl,b,rows,rfl,d,q,y,B,I⟩)
  ·exact aZ.next h (Qg l n h0 h1 k (i+1) b (by omega) (by omega) (by omega))
theorem aeA(l:List (List G))(a n:Int)(ha:0≤a)(k:a≤5000)(h0:0≤n)(h1:n≤20) :
  aa (zI [.l l,.i a,.i n]) fun g=>∃ b rows,g=[.l l,.i b,.l rows]∧0≤b∧b≤10000∧(∀ z∈rows,lj z)∧(rows.length:Int)≤n∧fZ rows=0:=by
 unfold zI
 (dsimp +instances only[Aa,Ab,Ac,Ad,Ae,Af,Ag])
 refine aa.loop ((Qg l n h0 h1 5 0 a rfl ha (by omega)).to (by omega)) rfl ?_;rintro c g (⟨rfl,b,rows,rfl,q⟩|⟨rfl,b,rfl,d,h⟩)
 ·exact aa.pos rfl (aa.some ⟨b,rows,rfl,q⟩)
 ·exact aa.neg rfl (aa.some ⟨b,[],rfl,d,h,by simp,by simpa using h0,rfl⟩)
/-! ### d: h sum -/
/-! ### d law -/
theorem Qh:∀ a b:List UInt8,eu b a = - eu a b
 | [],[]=>rfl
 | [],_::_=>rfl
 |_::_,[]=>rfl
 | a::xs,b::k=>by
  simp only[eu];have q:=Qh xs k;by_cases h1:a<b
  ·have d : ¬ b < a := fun h => Sg a (ahb h1 h)
   simp[h1,d]
  ·by_cases d : b < a
   ·simp[h1,d]
   ·simp[h1,d,q]
theorem Qi:∀{a b c:List UInt8},eu a b<0→eu b c<0→eu a c<0
 | [],[],_,h,_=>by simp[eu]at h
 | [],_::_,[],_,h=>by simp[eu]at h
 | [],_::_,_::_,_,_=>by simp[eu]
 |_::_,[],_,h,_=>by simp[eu]at h
 |_::_,_::_,[],_,h=>by simp[eu]at h
 | a::xs,b::I,c::J,h1,d=>by
  simp only[eu]at h1 d⊢;by_cases k:a<b
  ·by_cases q : b < c
   ·rw [if_pos (ahb k q)]
    omega
   ·by_cases v : c < b
    ·rw [if_neg q, if_pos v] at d
     omega
    ·have e : b = c := A3 (nw.1 v) (nw.1 q)
     subst e;rw[if_pos k];omega
  ·by_cases y : b < a
   ·rw [if_neg k, if_pos y] at h1
    omega
   ·have e : a = b := A3 (nw.1 y) (nw.1 k)
    subst e;rw[if_neg (Sg a),if_neg (Sg a)]at h1;by_cases u:a<c
    ·rw [if_pos u]
     omega
    ·by_cases B : c < a
     ·rw [if_neg u, if_pos B] at d
      omega
     ·rw [if_neg u, if_neg B] at d ⊢
      exact Qi h1 d
theorem aeB{a b:ByteArray}(h:(a.toList==b.toList)=true):a=b:=by
 rw[qC,qC,beq_iff_eq]at h;exact ByteArray.ext (Array.toList_inj.1 h)
theorem kA{a b:ByteArray}:cX a b=0↔a=b:=by
 have h:=Gr a b;constructor
 ·intro e
  rw[decide_eq_true (p:=cX a b=0) e]at h;exact aeB h
 ·rintro rfl
  have d:(a.toList==a.toList)=true:=by simp
  rw[d]at h;exact of_decide_eq_true h.symm
theorem Qj{a b:Int}:fA a b=0↔a=b:=by
 unfold fA;constructor
 ·intro h
  split at h
  ·omega
  ·split at h<;>omega
 ·rintro rfl
  simp
theorem qh{a b:Int}:fA a b<0↔a<b:=by
 unfold fA;constructor
 ·intro h
  split at h
  ·assumption
  ·split at h<;>omega
 ·intro h
  rw[if_pos h];omega
theorem oG(a b:ByteArray):(a.toList==b.toList)=decide (a=b):=by
 rw[Gr,lx,decide_eq_true_eq,decide_eq_true_eq];exact kA
structure qi {α:Type} (c:α→α→Int):Prop where
 flip:∀ a b,c b a = - c a b
 eq:∀ a b,c a b=0→a=b
 tr:∀ a b d,c a b<0→c b d<0→c a d<0
theorem Aj:qi fA:=⟨fun a b=>by unfold fA; split<;>split<;>first|omega|(split<;>omega)|skip,fun a b h=>Qj.1 h,fun a b d h1 k=>qh.2 (Int.lt_trans (qh.1 h1) (qh.1 k))⟩
theorem qj:qi cX:=⟨fun a b=>Qh _ _,fun a b h=>kA.1 h,fun a b d h1 k=>Qi h1 k⟩
theorem qi.le{α:Type}{c:α→α→Int}(h:qi c)(a b d:α)(h1:c a b≤0)(k:c b d≤0):c a d≤0:=by
 by_cases q:c a b=0
 ·rw [h.eq a b q]
  exact k
 ·by_cases u : c b d = 0
  ·rw [← h.eq b d u]
   exact h1
  ·have := h.tr a b d (by omega) (by omega)
   omega
theorem qi.refl{α:Type}{c:α→α→Int}(h:qi c)(a:α):c a a=0:=by
 have:=h.flip a a;omega
def oH(a b:Int):Int:=if a≠0 then a else b
theorem Gu{α:Type}{c:α→α→Int}(h:qi c)(a b d:α)(x y z:Int)(h1:oH (c a b) x<0)(k:oH (c b d) y<0)(v:x<0→y<0→z<0):oH (c a d) z<0:=by
 unfold oH at *;by_cases u:c a b=0
 ·have e := h.eq a b u
  subst e;rw[if_neg (by simpa using u)]at h1;by_cases q:c a d=0
  ·rw [if_neg (by simpa using q)] at k ⊢
   exact v h1 k
  ·rw [if_pos q] at k ⊢
   exact k
 ·rw [if_pos u] at h1
  by_cases q:c b d=0
  ·have e := h.eq b d q
   subst e;rw[if_pos u];exact h1
  ·rw [if_pos q] at k
   have:=h.tr a b d (by omega) (by omega);rw[if_pos (by omega)];omega
theorem aeC{c:List G→List G→Int}(k:∀ a b,c b a = - c a b)(q:∀ a b d,c a b≤0→c b d≤0→c a d≤0):fg (bZ c) (fun _=>True):=by
 have lt:∀ r s,bZ c r s=decide (c r s<0):=fun r s=>by unfold bZ; rw[eW]
 refine⟨fun a b d _ _ _ h1 u=>?_,fun a b _ _ h=>?_⟩
 ·rw [lt, decide_eq_false_iff_not] at *
  have:=q d b a (by have:=k d b; omega) (by have:=k b a; omega);have:=k a d;omega
 ·rw [lt, decide_eq_true_eq] at h
  rw[lt,decide_eq_false_iff_not];have:=k a b;omega
/-! ### d h k checked row by row -/
structure dT (F:Nat→Nat→Int) (n m:Nat) (ok:Nat→Nat→Bool) (w:Nat→Nat→Int):Prop where
 lk:∀ i k,n≤i∨m≤k→F i k=0
 step:∀ i k,i<n→k<m→F i k=if ok i k=true then max (max (F (i+1) k) (F i (k+1))) (w i k+F (i+1) (k+1)) else max (F (i+1) k) (F i (k+1))
structure Fair (n m:Nat) (ok:Nat→Nat→Bool) (w:Nat→Nat→Int):Prop where
 pos:∀ i k,i<n→k<m→ok i k=true→0<w i k
 aeD:∀ i p k q,i<p→p<n→k<q→q<m→ok i q=true→ok p k=true→ok i k=true∧ok p q=true∧w i q+w p k≤w i k+w p q
section
variable {F:Nat→Nat→Int} {n m:Nat} {ok:Nat→Nat→Bool} {w:Nat→Nat→Int}
theorem dT.flip(h:dT F n m ok w):dT (fun k i=>F i k) m n (fun k i=>ok i k) (fun k i=>w i k):=by
 refine⟨fun k i hk=>h.lk i k hk.symm,fun k i hk hi=>?_⟩;have:=h.step i k hi hk;rw[this];split<;>omega
theorem Fair.flip(h:Fair n m ok w):Fair m n (fun k i=>ok i k) (fun k i=>w i k):=by
 refine⟨fun k i hk hi ho=>h.pos i k hi hk ho,fun k q i p d v u y h1 B=>?_⟩;obtain⟨a,b,c⟩:=h.aeD i p k q u y d v B h1;exact⟨a,b,by omega⟩
theorem Ak{d:Nat→Nat→Int}(h:dT F n m ok w)(h':dT d n m ok w):∀(s i k:Nat),(n-i)+(m-k)≤s→F i k=d i k
 | s,i,k,q=>by
  by_cases he:n≤i∨m≤k
  ·rw[h.lk i k he,h'.lk i k he]
  ·have hi : i < n := by omega
   have hk:k<m:=by omega
   cases s with
   |zero=>omega
   | succ s =>
    rw[h.step i k hi hk,h'.step i k hi hk,Ak h h' s (i+1) k (by omega),Ak h h' s i (k+1) (by omega),Ak h h' s (i+1) (k+1) (by omega)]
theorem dT.down(h:dT F n m ok w)(i k:Nat):F (i+1) k≤F i k:=by
 by_cases he:n≤i∨m≤k
 ·rw [h.lk i k he, h.lk (i + 1) k (by omega)]
  exact Si _
 ·rw [h.step i k (by omega) (by omega)]
  split<;>omega
theorem dT.right(h:dT F n m ok w)(i k:Nat):F i (k+1)≤F i k:=h.flip.down k i
theorem dT.Gv(h:dT F n m ok w)(i k:Nat):∀ d,F (i+d) k≤F i k
 |0=>Si _
 |d+1=>Sj (h.down (i+d) k) (h.Gv i k d)
theorem dT.mono(h:dT F n m ok w){i p k q:Nat}(h1:i≤p)(u:k≤q):F p q≤F i k:=by
 obtain⟨d,rfl⟩:=ahc h1;obtain⟨e,rfl⟩:=ahc u;exact Sj (h.Gv i (k+e) d) (h.flip.Gv k i e)
theorem dT.take(h:dT F n m ok w){i p k q:Nat}(h1:i≤p)(d:k≤q)(u:p<n)(v:q<m)(ho:ok p q=true):w p q+F (p+1) (q+1)≤F i k:=by
 refine Sj ?_ (h.mono h1 d);rw[h.step p q u v,if_pos ho];omega
theorem dT.Gw(h:dT F n m ok w)(i k:Nat):0≤F i k:=by
 have h1:=h.mono (i:=i) (p:=i+n) (k:=k) (q:=k) (by omega) (aD _);rw[h.lk (i+n) k (.inl (by omega))]at h1;exact h1
theorem dT.row(h:dT F n m ok w){i:Nat}(hi:i<n):∀(s k:Nat),m-k≤s→F i k=F (i+1) k∨∃ q,k≤q∧q<m∧ok i q=true∧F i k=w i q+F (i+1) (q+1)
 | s,k,v=>by
  by_cases hk:k<m
  ·cases s with
   |zero=>omega
   | succ s =>
    have h0:=h.step i k hi hk;have h1:=h.down i k;have y:=h.right (i+1) k;by_cases ho:ok i k=true
    ·rw [if_pos ho] at h0
     by_cases e:F i k=w i k+F (i+1) (k+1)
     ·exact .inr ⟨k,aD _,hk,ho,e⟩
     ·by_cases d : F i k = F (i + 1) k
      ·exact .inl d
      ·have u : F i k = F i (k + 1) := by omega
       rcases h.row hi s (k+1) (by omega)with g|⟨q,g1,g2,g3,g4⟩
       ·exact .inl (by omega)
       ·exact .inr ⟨q,by omega,g2,g3,by omega⟩
    ·rw [if_neg ho] at h0
     by_cases d:F i k=F (i+1) k
     ·exact .inl d
     ·have u : F i k = F i (k + 1) := by omega
      rcases h.row hi s (k+1) (by omega)with g|⟨q,g1,g2,g3,g4⟩
      ·exact .inl (by omega)
      ·exact .inr ⟨q,by omega,g2,g3,by omega⟩
  ·exact .inl (by rw[h.lk i k (.inr (by omega)),h.lk (i+1) k (.inr (by omega))])
def gl(P:Nat→Bool):Nat→Nat→Option Nat
 |_,0=>none
 |q,t+1=>bif P q then some q else gl P (q+1) t
theorem Al{P:Nat→Bool}:∀{t q x:Nat},gl P q t=some x→q≤x∧x<q+t∧P x=true∧∀ y,q≤y→y<x→P y=false
 |0,_,_,h=>by cases h
 | t+1,q,x,h=>by
  unfold gl at h;cases k:P q with
  | true =>
   rw[k]at h;cases h;exact⟨aD _,by omega,k,fun y h1 u=>by omega⟩
  | false =>
   rw[k]at h;obtain⟨a,b,c,d⟩:=Al (t:=t) h;exact⟨by omega,by omega,c,fun y h1 u=>by
    by_cases e:y=q
    ·subst e; exact k
    ·exact d y (by omega) u⟩
theorem Qk{P:Nat→Bool}:∀{t q:Nat},gl P q t=none→∀ y,q≤y→y<q+t→P y=false
 |0,q,_,y,h1,k=>by omega
 | t+1,q,h,y,h1,k=>by
  unfold gl at h;cases d:P q with
  |true=>rw[d]at h; cases h
  | false =>
   rw[d]at h;by_cases e:y=q
   ·subst e; exact d
   ·exact Qk (t:=t) h y (by omega) (by omega)
theorem aeE{P:Nat→Bool}{t q x:Nat}(h1:q≤x)(u:x<q+t)(k:P x=true)(v:∀ y,q≤y→y<x→P y=false):gl P q t=some x:=by
 cases h:gl P q t with
 |none=>rw[Qk h x h1 u]at k; cases k
 | some z =>
  obtain⟨a,b,c,d⟩:=Al h;rcases HH z x with g|g|g
  ·rw[v z a g]at c; cases c
  ·rw[g]
  ·rw[d x h1 g]at k; cases k
def gL(F:Nat→Nat→Int)(ok:Nat→Nat→Bool)(w:Nat→Nat→Int)(v:Int)(i q:Nat):Bool:=ok i q&&(w i q+F (i+1) (q+1)==v)
theorem Gx{v:Int}{i q:Nat}:gL F ok w v i q=true↔ok i q=true∧w i q+F (i+1) (q+1)=v:=by
 unfold gL;rw[ax,beq_iff_eq]
def gM(F:Nat→Nat→Int)(m:Nat)(ok:Nat→Nat→Bool)(w:Nat→Nat→Int):Nat→Nat→Nat→List (Nat × Nat)
 |0,_,_=>[]
 | t+1,i,f=>match gl (gL F ok w (F i f) i) f (m-f) with
  |some q=>(i,q)::gM F m ok w t (i+1) (q+1)
  |none=>gM F m ok w t (i+1) f
theorem Am{t i f q:Nat} (h:gl (gL F ok w (F i f) i) f (m-f)=some q):gM F m ok w (t+1) i f=(i,q)::gM F m ok w t (i+1) (q+1):=by
 rw[gM,h]
theorem Gy{t i f:Nat} (h:gl (gL F ok w (F i f) i) f (m-f)=none):gM F m ok w (t+1) i f=gM F m ok w t (i+1) f:=by
 rw[gM,h]
theorem An:∀(t i f:Nat),∀ x∈gM F m ok w t i f,i≤x.1∧x.1<i+t∧f≤x.2∧x.2<m∧ok x.1 x.2=true
 |0,_,_,x,h=>by cases h
 | t+1,i,f,x,h=>by
  cases k:gl (gL F ok w (F i f) i) f (m-f)with
  | none =>
   rw[Gy k]at h;obtain⟨a,b,c,d,e⟩:=An t (i+1) f x h;exact⟨by omega,by omega,c,d,e⟩
  | some q =>
   rw[Am k]at h;obtain⟨u,y,v,_⟩:=Al k;rcases bR.1 h with rfl|h
   ·exact⟨aD _,by simp,u,by simp; omega,(Gx.1 v).1⟩
   ·obtain ⟨a, b, c, d, e⟩ := An t (i + 1) (q + 1) x h
    exact⟨by omega,by omega,by omega,d,e⟩
theorem Gz:∀(t i f:Nat),(gM F m ok w t i f).Pairwise fun x y=>x.1<y.1∧x.2<y.2
 |0,_,_=>.nil
 | t+1,i,f=>by
  cases d:gl (gL F ok w (F i f) i) f (m-f)with
  |none=>rw[Gy d]; exact Gz t (i+1) f
  | some q =>
   rw[Am d];refine .cons (fun y h=>?_) (Gz t (i+1) (q+1));obtain⟨a,_,c,_,_⟩:=An t (i+1) (q+1) y h;exact⟨by simp; omega,by simp; omega⟩
end
/-! ### h d, as a function -/
def m_(n m:Nat)(ok:Nat→Nat→Bool)(w:Nat→Nat→Int)(i k:Nat):Int :=
 if h:i<n∧k<m then
  if ok i k=true then max (max (m_ n m ok w (i+1) k) (m_ n m ok w i (k+1))) (w i k+m_ n m ok w (i+1) (k+1)) else max (m_ n m ok w (i+1) k) (m_ n m ok w i (k+1))
 else 0
termination_by (n-i)+(m-k)
theorem Ql(n m:Nat)(ok:Nat→Nat→Bool)(w:Nat→Nat→Int):dT (m_ n m ok w) n m ok w :=
 ⟨fun i k h => by rw [m_, dif_neg (by omega)], fun i k hi hk => by
  conv=>lhs; rw[m_]
  rw[dif_pos ⟨hi,hk⟩]⟩
theorem dT.le{F:Nat→Nat→Int}{n m:Nat}{ok:Nat→Nat→Bool}{w:Nat→Nat→Int}(h:dT F n m ok w){W:Int}(d:0≤W)(hw:∀ i k,w i k≤W):∀(t i k:Nat),n-i=t→F i k≤W*(t:Int)
 |0,i,k,u=>by rw[h.lk i k (.inl (by omega))]; simp
 | t+1,i,k,u=>by
  have e:W*((t+1:Nat):Int)=W*(t:Int)+W:=by rw[Int.natCast_succ,Int.mul_add,Int.mul_one]
  rw[e];rcases h.row (i:=i) (by omega) (m-k) k (aD _)with g|⟨q,_,_,_,g⟩
  ·have := h.le d hw t (i + 1) k (by omega)
   omega
  ·have := h.le d hw t (i + 1) (q + 1) (by omega)
   have:=hw i q;omega
/-! ### d -/
def f_(r:List G):Int:=(gi r 0).int
def kB(r:List G):Int:=(gi r 1).int
def aT(r:List G):ByteArray:=(gi r 2).str
def bA(r:List G):ByteArray:=(gi r 3).str
def fO(r:List G):Prop:=aM [.int .i64,.int .i64,.str,.str,.int .i64,.int .i64,.str,.str] r=r ∧ -1000000000000≤f_ r∧f_ r≤1000000000000
def iI(p q:List G):Int:=if f_ q-f_ p>f_ p-f_ q then f_ q-f_ p else f_ p-f_ q
def oI(off:Int)(p q:List G):Bool:=((aT p).toList==(aT q).toList)&&((kB p==kB q)&&ba (iI p q) off)
theorem Ao{p q:List G}(d:fO p)(h:fO q):0≤iI p q∧iI p q≤2000000000000:=by
 obtain⟨_,h1,k⟩:=d;obtain⟨_,u,v⟩:=h;unfold iI;split<;>omega
theorem GA{p q:List G}(d:fO p)(h:fO q):sG [.l [p],.l [q]]=some [.i (iI p q)]:=by
 obtain⟨_,h1,k⟩:=d;obtain⟨_,u,v⟩:=h;unfold f_ at h1 k u v;refine aa.toEq ?_;unfold sG iI f_
 (dsimp +instances only[Aa,Ab,Ac,Ad,Ae,Af,Ag])
 exact aa.pos (kX.2 ⟨by omega,by omega⟩) (aa.pos (kX.2 ⟨by omega,by omega⟩) (aa.some rfl))
theorem GB(off:Int){p q:List G}(d:fO p)(k:fO q):sH [.l [p],.l [q],.i off]=some [.t (oI off p q)]:=by
 refine aa.toEq ?_;unfold sH oI
 (dsimp +instances only[Aa,Ab,Ac,Ad,Ae,Af,Ag])
 refine aa.test (fun h=>?_) fun h=>?_
 ·have h : ((aT p).toList == (aT q).toList) = true := h
  rw[h];refine aa.test (fun h=>?_) fun h=>?_
  ·have h : (kB p == kB q) = true := h
   rw[h,d.1,k.1];refine aa.cE (GA d k) ?_;exact aa.some rfl
  ·have h : (kB p == kB q) = false := h
   rw[h];exact aa.some rfl
 ·have h : ((aT p).toList == (aT q).toList) = false := h
  rw[h];exact aa.some rfl
/-! ### h lists of numbers of d -/
structure JC (a b:List (List G)) (X Y:List Nat):Prop where
 ha:∀ z∈a,fO z
 hb:∀ z∈b,fO z
 hX:∀ i∈X,i<a.length
 hY:∀ i∈Y,i<b.length
 na:a.length≤100000
 nb:b.length≤100000
 nX:X.length≤1000
 nY:Y.length≤1000
def bE(X:List Nat):List (List G):=X.map fun(i:Nat)=>[G.i (i:Int)]
theorem lZ(X:List Nat):(bE X).length=X.length:=cN _
theorem sX{X:List Nat}{i:Nat}(hi:i<X.length):(bE X).getD i []=[.i ((X.getD i 0:Nat):Int)]:=by
 unfold bE;rw[bG,bT,bt hi,bG,bt hi];rfl
theorem l4{α:Type}{l:List α}{i:Nat}{z:α}(h:i<l.length):l.getD i z∈l:=by
 rw[bG,bt h];exact ly h
def g_(a:List (List G))(X:List Nat)(i:Nat):List G:=a.getD (X.getD i 0) []
def eH(a b:List (List G))(X Y:List Nat)(off:Int)(i k:Nat):Bool:=oI off (g_ a X i) (g_ b Y k)
def wJ(a b:List (List G))(X Y:List Nat)(i k:Nat):Int:=10000000000-iI (g_ a X i) (g_ b Y k)
theorem JC.Ap{a b:List (List G)}{X Y:List Nat}(J:JC a b X Y){i:Nat}(hi:i<X.length):X.getD i 0<a.length∧fO (g_ a X i):=by
 have h:=J.hX _ (l4 (z:=0) hi);exact⟨h,J.ha _ (l4 h)⟩
theorem JC.Aq{a b:List (List G)}{X Y:List Nat}(J:JC a b X Y){i:Nat}(hi:i<Y.length):Y.getD i 0<b.length∧fO (g_ b Y i):=by
 have h:=J.hY _ (l4 (z:=0) hi);exact⟨h,J.hb _ (l4 h)⟩
theorem aeF{a b:List (List G)}{X Y:List Nat}(J:JC a b X Y)(off:Int)(q:List (List G)){i k:Nat}(hi:i<X.length)(hk:k<Y.length) :
  vL [.l a,.l b,.l (bE X),.l (bE Y),.i off,.l q,.i (i:Int),.i (k:Int)]=some [.l a,.l b,.l (bE X),.l (bE Y),.i off,.l q,.i (wJ a b X Y i k),.t (eH a b X Y off i k)]:=by
 obtain⟨h1,d⟩:=J.Ap hi;obtain⟨B,h⟩:=J.Aq hk;have y:=Ao d h;refine aa.toEq ?_;unfold vL
 (dsimp +instances only[Aa,Ab,Ac,Ad,Ae,Af,Ag])
 simp only[bD,sX hi,sX hk,lZ]
 (dsimp +instances only[Aa,Ab,Ac,Ad,Ae,Af,Ag])
 simp only[bD];refine aa.p (aa.p (aa.p (aa.p ?_)));have u:a.getD (X.getD i 0) []=g_ a X i:=rfl;have v:b.getD (Y.getD k 0) []=g_ b Y k:=rfl;rw[u,v,d.1,h.1];refine aa.cE (GA d h) ?_
 (dsimp +instances only[Aa,Ab,Ac,Ad,Ae,Af,Ag])
 refine aa.pos (kX.2 ⟨by omega,by omega⟩) ?_;refine aa.cE (GB off d h) ?_
 (dsimp +instances only[Aa,Ab,Ac,Ad,Ae,Af,Ag])
 refine aa.pos ?_ (aa.some rfl);simp
theorem Qm{a b:List (List G)}{X Y:List Nat}(J:JC a b X Y)(off:Int)(q:List (List G)){i k:Nat}(hi:i<X.length)(hk:k<Y.length) :
  zR [.l [[.l a,.l b,.l (bE X),.l (bE Y),.i off,.l q]],.i (i:Int),.i (k:Int)]=some [.i (wJ a b X Y i k),.t (eH a b X Y off i k)]:=by
 obtain⟨h1,d⟩:=J.Ap hi;obtain⟨B,h⟩:=J.Aq hk;have y:=Ao d h;refine aa.toEq ?_;unfold zR
 (dsimp +instances only[Aa,Ab,Ac,Ad,Ae,Af,Ag])
 simp only[bD,sX hi,sX hk,lZ]
 (dsimp +instances only[Aa,Ab,Ac,Ad,Ae,Af,Ag])
 simp only[bD];refine aa.p (aa.p (aa.p (aa.p ?_)));have u:a.getD (X.getD i 0) []=g_ a X i:=rfl;have v:b.getD (Y.getD k 0) []=g_ b Y k:=rfl;rw[u,v,d.1,h.1];refine aa.cE (GA d h) ?_
 (dsimp +instances only[Aa,Ab,Ac,Ad,Ae,Af,Ag])
 refine aa.pos (kX.2 ⟨by omega,by omega⟩) ?_;refine aa.cE (GB off d h) ?_;exact aa.some rfl
/-! ### d table -/
def dM(F:Nat→Nat→Int)(m i t:Nat):List (List G):=(dP (m+1)).map fun j=>[G.i (if t≤j then F i j else 0)]
def dH(F:Nat→Nat→Int)(n m i:Nat):List (List G):=(dP (n+1)).map fun p=>[G.l (if i≤p then dM F m p 0 else [])]
theorem oJ(F:Nat→Nat→Int)(m i t:Nat):(dM F m i t).length=m+1:=by unfold dM; rw[cN,th]
theorem sY(F:Nat→Nat→Int)(n m i:Nat):(dH F n m i).length=n+1:=by unfold dH; rw[cN,th]
theorem v7{F:Nat→Nat→Int}{m i t j:Nat}(d:j≤m):(dM F m i t).getD j []=[.i (if t≤j then F i j else 0)]:=by
 unfold dM;rw[bG,bT,tz (by omega)];rfl
theorem GC{F:Nat→Nat→Int}{n m i p:Nat}(d:p≤n):(dH F n m i).getD p []=[.l (if i≤p then dM F m p 0 else [])]:=by
 unfold dH;rw[bG,bT,tz (by omega)];rfl
theorem aeG{F:Nat→Nat→Int}{m i t:Nat}:(dM F m i (t+1)).set t [.i (F i t)]=dM F m i t:=by
 apply jU;intro j;unfold dM;rw[dU,bT,bT,cN,th];by_cases d:j<m+1
 ·rw [tz d]
  by_cases e:t=j
  ·subst e
   rw[if_pos rfl,if_pos d];simp
  ·rw [if_neg e]
   simp only[dO];by_cases h:t≤j
   ·rw[if_pos h,if_pos (by omega)]
   ·rw[if_neg h,if_neg (by omega)]
 ·rw [me (by simp; omega)]
  by_cases e:t=j
  ·subst e
   rw[if_pos rfl,if_neg d];rfl
  ·rw [if_neg e]
   rfl
theorem aeH{F:Nat→Nat→Int}{m i:Nat}(h:F i m=0):dM F m i m=bO (m+1) [.i 0]:=by
 rw[ahd];refine⟨oJ F m i m,fun x d=>?_⟩;unfold dM at d;obtain⟨j,k,rfl⟩:=cV.1 d;rw[fF]at k;by_cases e:m≤j
 ·rw[if_pos e,show j=m from by omega,h]
 ·rw[if_neg e]
theorem aeI{F:Nat→Nat→Int}{m i:Nat}(h:∀ k,F i k=0):dM F m i 0=bO (m+1) [.i 0]:=by
 rw[ahd];refine⟨oJ F m i 0,fun x d=>?_⟩;unfold dM at d;obtain⟨j,q,rfl⟩:=cV.1 d;rw[if_pos (eI _),h]
theorem aeJ{F:Nat→Nat→Int}{n m i:Nat}:(dH F n m (i+1)).set i [.l (dM F m i 0)]=dH F n m i:=by
 apply jU;intro j;unfold dH;rw[dU,bT,bT,cN,th];by_cases d:j<n+1
 ·rw [tz d]
  by_cases e:i=j
  ·subst e
   rw[if_pos rfl,if_pos d];simp
  ·rw [if_neg e]
   simp only[dO];by_cases h:i≤j
   ·rw[if_pos h,if_pos (by omega)]
   ·rw[if_neg h,if_neg (by omega)]
 ·rw [me (by simp; omega)]
  by_cases e:i=j
  ·subst e
   rw[if_pos rfl,if_neg d];rfl
  ·rw [if_neg e]
   rfl
theorem aeK{F:Nat→Nat→Int}{n m:Nat}(h:∀ k,F n k=0):(bO (n+1) ([.l []]:List G)).set n [.l (bO (m+1) [.i 0])]=dH F n m n:=by
 apply jU;intro j;unfold dH;rw[dU,bT,ahe,wL];by_cases d:j<n+1
 ·rw [tz d]
  by_cases e:n=j
  ·subst e
   rw[if_pos rfl,if_pos d,dO,if_pos (aD _),aeI h]
  ·rw[if_neg e,if_pos d,dO,if_neg (by omega)]
 ·rw [me (by simp; omega)]
  by_cases e:n=j
  ·subst e
   rw[if_pos rfl,if_neg d];rfl
  ·rw [if_neg e, if_neg d]
   rfl
theorem sZ(k:Kd)(r:List G)(v:G):bf [k] r 0 [v]=[v]:=by
 simp[bf,nK]
theorem Qn{a b x y d row:List (List G)}{off:Int}{i k:Nat}(hk:k≤100000) :
  vN [.l a,.l b,.l x,.l y,.i off,.l d,.l row,.i (i:Int),.i (k:Int)]=some (some 0,[.l a,.l b,.l x,.l y,.i off,.l d,.l row,.i (i:Int),.i ((k:Int)-1)]):=by
 refine aa.toEq ?_;unfold vN
 (dsimp +instances only[Aa,Ab,Ac,Ad,Ae,Af,Ag])
 exact aa.pos (kX.2 ⟨by omega,by omega⟩) (aa.pos (by simp) (aa.some rfl))
theorem Qo{a b:List (List G)}{X Y:List Nat}(J:JC a b X Y)(off:Int){F:Nat→Nat→Int}(hF:dT F X.length Y.length (eH a b X Y off) (wJ a b X Y)){i:Nat}(hi:i<X.length):∀ t:Nat,t≤Y.length →
  aZ vO [.l a,.l b,.l (bE X),.l (bE Y),.i off,.l (dH F X.length Y.length (i+1)),.l (dM F Y.length i t),.i (i:Int),.i ((t:Int)-1)] (t+1) fun c g=>c=0∧g=[.l a,.l b,.l (bE X),.l (bE Y),.i off,.l (dH F X.length Y.length (i+1)),.l (dM F Y.length i 0),.i (i:Int)]
 | 0,_=>by
  refine aZ.stop (x:=0) (aa.toEq ?_) ⟨rfl,rfl⟩;unfold vO
  (dsimp +instances only[Aa,Ab,Ac,Ad,Ae,Af,Ag])
  exact aa.neg (by rw[fv]; decide) (aa.pos (by simp) (aa.some rfl))
 | t+1,ht=>by
  have nX:=J.nX;have nY:=J.nY;have V:∀ i k,F i k≤10000000000*((X.length-i:Nat):Int):=fun i k=>hF.le (W:=10000000000) (by omega) (fun i k=>by
   unfold wJ iI;split<;>omega) _ i k rfl
  have b1:=hF.Gw (i+1) t;have b2:=hF.Gw (i+1) (t+1);have b3:=V (i+1) (t+1);have hwo : -2000000000000≤wJ a b X Y i t∧wJ a b X Y i t≤10000000000:=by
   have:=Ao (J.Ap hi).2 (J.Aq (show t<Y.length by omega)).2;unfold wJ;omega
  have ih:=Qo J off hF hi t (by omega);have e0:((t+1:Nat):Int)-1=(t:Int):=by omega
  rw[e0];refine aZ.next (aa.toEq ?_) ih
  have e1:((i:Int)+1).toNat=i+1:=by omega
  have e2:((t:Int)+1).toNat=t+1:=by omega
  have hM:(dH F X.length Y.length (i+1)).getD (i+1) []=[.l (dM F Y.length (i+1) 0)]:=by rw[GC (by omega),if_pos (aD _)]
  have U:(dM F Y.length (i+1) 0).getD t []=[.i (F (i+1) t)]:=by rw[v7 (by omega),if_pos (eI _)]
  have B:(dM F Y.length (i+1) 0).getD (t+1) []=[.i (F (i+1) (t+1))]:=by rw[v7 (by omega),if_pos (eI _)]
  have I:(dM F Y.length i (t+1)).getD (t+1) []=[.i (F i (t+1))]:=by rw[v7 (by omega),if_pos (aD _)]
  have d:=hF.step i t hi (by omega);have q:∀ v,v=F i t→(dM F Y.length i (t+1)).set t [.i v]=dM F Y.length i t:=fun v hv=>by rw[hv,aeG]
  have y:∀ v:Int,((dM F Y.length i (t+1)).set t [.i v]).getD t []=[.i v]:=fun v=>by
   rw[bG,bx (by rw[oJ]; omega)];rfl
  have M:=sY F X.length Y.length (i+1);have N:=oJ F Y.length i (t+1);have O:=oJ F Y.length (i+1) 0;generalize hRR:dM F Y.length i (t+1)=R at I q y N⊢;unfold vO
  (dsimp +instances only[Aa,Ab,Ac,Ad,Ae,Af,Ag])
  simp only[bD,e1,e2,cW,hM]
  (dsimp +instances only[Aa,Ab,Ac,Ad,Ae,Af,Ag])
  simp only[U,B,I,sZ,M,N,O,nk,y,List.set_set]
  (dsimp +instances only[Aa,Ab,Ac,Ad,Ae,Af,Ag])
  refine aa.p (aa.p (aa.p (aa.p (aa.p (aa.p (aa.p (aa.p (aa.p (aa.p ?_)))))))));refine aa.mU (aa.eq (aeF J off _ hi (show t<Y.length by omega))) (by simp) ?_;rintro _ rfl
  (dsimp +instances only[Aa,Ab,Ac,Ad,Ae,Af,Ag])
  simp only[hM]
  (dsimp +instances only[Aa,Ab,Ac,Ad,Ae,Af,Ag])
  simp only[B,M,O]
  (dsimp +instances only[Aa,Ab,Ac,Ad,Ae,Af,Ag])
  refine aa.test (fun h=>?_) fun h=>?_
  ·rw [if_pos h] at d
   refine aa.p (aa.p (aa.p (aa.p (aa.p (aa.p (aa.p (aa.pos (kX.2 ⟨by omega,by omega⟩) (aa.p (aa.p ?_)))))))));refine aa.tail (P:=fun u g=>u=0∧g=[.l a,.l b,.l (bE X),.l (bE Y),.i off,.l (dH F X.length Y.length (i+1)),.l (dM F Y.length i t),.i (i:Int),.i ((t:Int)-1)]) ⟨_,Qn (by omega),0,rfl,?_,?_⟩ (by simp) ?_
   ·rfl
   ·rw [q _ ?_]
    rw[d];split<;>split<;>omega
   ·rintro _ _ ⟨rfl, rfl⟩
    (dsimp +instances only[Aa,Ab,Ac,Ad,Ae,Af,Ag])
    exact aa.pos (by simp) (aa.some rfl)
  ·rw [if_neg (by rw [h]; decide)] at d
   refine aa.tail (P:=fun u g=>u=0∧g=[.l a,.l b,.l (bE X),.l (bE Y),.i off,.l (dH F X.length Y.length (i+1)),.l (dM F Y.length i t),.i (i:Int),.i ((t:Int)-1)]) ⟨_,Qn (by omega),0,rfl,?_,?_⟩ (by simp) ?_
   ·rfl
   ·rw [q _ ?_]
    rw[d];split<;>omega
   ·rintro _ _ ⟨rfl, rfl⟩
    (dsimp +instances only[Aa,Ab,Ac,Ad,Ae,Af,Ag])
    exact aa.pos (by simp) (aa.some rfl)
theorem Qp{a b:List (List G)}{X Y:List Nat}(J:JC a b X Y)(off:Int){F:Nat→Nat→Int}(hF:dT F X.length Y.length (eH a b X Y off) (wJ a b X Y)):∀ t:Nat,t≤X.length →
  aZ vP [.l a,.l b,.l (bE X),.l (bE Y),.i off,.l (dH F X.length Y.length t),.i ((t:Int)-1)] (t+1) fun c g=>c=0∧g=[.l a,.l b,.l (bE X),.l (bE Y),.i off,.l (dH F X.length Y.length 0)]
 | 0,_=>by
  refine aZ.stop (x:=0) (aa.toEq ?_) ⟨rfl,rfl⟩;unfold vP
  (dsimp +instances only[Aa,Ab,Ac,Ad,Ae,Af,Ag])
  exact aa.neg (by rw[fv]; decide) (aa.pos (by simp) (aa.some rfl))
 | t+1,v=>by
  have nX:=J.nX;have nY:=J.nY;have k:=Qp J off hF t (by omega);have q:((t+1:Nat):Int)-1=(t:Int):=by omega
  rw[q];refine aZ.next (aa.toEq ?_) k
  have u:((Y.length:Int)+1).toNat=Y.length+1:=by omega
  have d:(bO (Y.length+1) ([.i 0]:List G))=dM F Y.length t Y.length:=(aeH (hF.lk t Y.length (.inr (aD _)))).symm;have h:=Qo J off hF (show t<X.length by omega) Y.length (aD _);unfold vP
  (dsimp +instances only[Aa,Ab,Ac,Ad,Ae,Af,Ag])
  simp only[lZ,u,d];refine aa.p (aa.p (aa.p (aa.p ?_)));refine aa.loop (h.to (by omega)) (by simp[oJ]) ?_;rintro _ _ ⟨rfl,rfl⟩
  (dsimp +instances only[Aa,Ab,Ac,Ad,Ae,Af,Ag])
  simp only[bD,cW,sZ,sY];refine aa.p (aa.pos (by simp; omega) (aa.p (aa.pos (by simp[sY]) (aa.some ?_))));rw[aeJ]
theorem aeL{a b:List (List G)}{X Y:List Nat}(J:JC a b X Y)(off:Int){F:Nat→Nat→Int}(hF:dT F X.length Y.length (eH a b X Y off) (wJ a b X Y)) :
  zQ [.l a,.l b,.l (bE X),.l (bE Y),.i off,.l []]=some [.l a,.l b,.l (bE X),.l (bE Y),.i off,.l (dH F X.length Y.length 0)]:=by
 have nX:=J.nX;have nY:=J.nY;have h:((X.length:Int)+1).toNat=X.length+1:=by omega
 have q:((Y.length:Int)+1).toNat=Y.length+1:=by omega
 have d:(bO (X.length+1) ([.l []]:List G)).set X.length [.l (bO (Y.length+1) [.i 0])]=dH F X.length Y.length X.length:=aeK fun k=>hF.lk X.length k (.inl (aD _));refine aa.toEq ?_;unfold zQ
 (dsimp +instances only[Aa,Ab,Ac,Ad,Ae,Af,Ag])
 simp only[lZ,h,q,cW,sZ,d,wL,sY];refine aa.p (aa.p (aa.p (aa.p (aa.p (aa.pos (by simp) (aa.p ?_))))));refine aa.loop ((Qp J off hF X.length (aD _)).to (by omega)) (by simp) ?_;rintro _ _ ⟨rfl,rfl⟩
 (dsimp +instances only[Aa,Ab,Ac,Ad,Ae,Af,Ag])
 exact aa.pos (by simp) (aa.some rfl)
def l5(X Y:List Nat)(p:Nat × Nat):List G:=[.i ((X.getD p.1 0:Nat):Int),.i ((Y.getD p.2 0:Nat):Int)]
def Qq(X Y:List Nat)(out:List (List G))(i:Nat):Option Nat→List (List G)
 |some q=>out++[l5 X Y (i,q)]
 |none=>out
def Qr(f:Nat):Option Nat→Nat
 |some q=>q+1
 |none=>f
theorem GD{a b d out:List (List G)}{X Y:List Nat}(off:Int){f i k n:Nat}(hi:i<X.length)(hk:k<Y.length)(nY:Y.length≤1000)(ho:out.length≤100000)(t:Bool) :
  sI [.l a,.l b,.l (bE X),.l (bE Y),.i off,.l d,.l out,.i (f:Int),.i (i:Int),.i (k:Int),.i (n:Int),.i (i:Int),.t t] =
   bif t then some (some 0,[.l a,.l b,.l (bE X),.l (bE Y),.i off,.l d,.l (out++[l5 X Y (i,k)]),.i ((k+1:Nat):Int),.i (n:Int),.i (i:Int)])
   else some (some 1,[.l a,.l b,.l (bE X),.l (bE Y),.i off,.l d,.l out,.i (f:Int),.i (i:Int),.i (k:Int),.i (n:Int),.i (i:Int)]):=by
 cases t with
 | false =>
  refine aa.toEq ?_;unfold sI
  (dsimp +instances only[Aa,Ab,Ac,Ad,Ae,Af,Ag])
  exact aa.neg rfl (aa.pos (by simp) (aa.some rfl))
 | true =>
  refine aa.toEq ?_;unfold sI
  (dsimp +instances only[Aa,Ab,Ac,Ad,Ae,Af,Ag])
  simp only[bD,sX hi,sX hk,lZ]
  (dsimp +instances only[Aa,Ab,Ac,Ad,Ae,Af,Ag])
  exact aa.pos rfl (aa.p (aa.p (aa.pos (by simp; omega) (aa.p (aa.pos (by simp) (aa.some rfl))))))
section
variable {a b:List (List G)} {X Y:List Nat} {F:Nat→Nat→Int}
theorem Qs(J:JC a b X Y)(off:Int)(hF:dT F X.length Y.length (eH a b X Y off) (wJ a b X Y))(out:List (List G))(ho:out.length≤100000){f i:Nat}(hi:i<X.length)(V:f≤Y.length):∀ t k:Nat,k+t=Y.length →
  aZ qe [.l a,.l b,.l (bE X),.l (bE Y),.i off,.l (dH F X.length Y.length 0),.l out,.i (f:Int),.i (i:Int),.i (k:Int),.i (X.length:Int),.i (i:Int)] (t+1)
   fun c g=>c=0∧g=[.l a,.l b,.l (bE X),.l (bE Y),.i off,.l (dH F X.length Y.length 0),.l (Qq X Y out i (gl (gL F (eH a b X Y off) (wJ a b X Y) (F i f) i) k t)),.i (Qr f (gl (gL F (eH a b X Y off) (wJ a b X Y) (F i f) i) k t):Int),.i (X.length:Int),.i (i:Int)]
 | 0,k,hk=>by
  refine aZ.stop (x:=0) (aa.toEq ?_) ⟨rfl,rfl⟩;have nY:=J.nY;unfold qe
  (dsimp +instances only[Aa,Ab,Ac,Ad,Ae,Af,Ag])
  simp only[lZ];exact aa.n (aa.pos (by simp) (aa.some rfl))
 | t+1,k,hk=>by
  have nX:=J.nX;have nY:=J.nY;have q:k<Y.length:=by omega
  have hW:∀ i k,F i k≤10000000000*((X.length-i:Nat):Int):=fun i k=>hF.le (W:=10000000000) (by omega) (fun i k=>by
   unfold wJ iI;split<;>omega) _ i k rfl
  have b2:=hF.Gw (i+1) (k+1);have b3:=hW (i+1) (k+1);have hwo : -2000000000000≤wJ a b X Y i k∧wJ a b X Y i k≤10000000000:=by
   have:=Ao (J.Ap hi).2 (J.Aq q).2;unfold wJ;omega
  have O:((i:Int)+1).toNat=i+1:=by omega
  have U:((k:Int)+1).toNat=k+1:=by omega
  have y:(dH F X.length Y.length 0).getD (i+1) []=[.l (dM F Y.length (i+1) 0)]:=by rw[GC (by omega),if_pos (eI _)]
  have B:(dH F X.length Y.length 0).getD i []=[.l (dM F Y.length i 0)]:=by rw[GC (by omega),if_pos (eI _)]
  have I:(dM F Y.length (i+1) 0).getD (k+1) []=[.i (F (i+1) (k+1))]:=by rw[v7 (by omega),if_pos (eI _)]
  have M:(dM F Y.length i 0).getD f []=[.i (F i f)]:=by rw[v7 (by omega),if_pos (eI _)]
  have N:∀ c:Bool,gL F (eH a b X Y off) (wJ a b X Y) (F i f) i k=c→gl (gL F (eH a b X Y off) (wJ a b X Y) (F i f) i) k (t+1)=bif c then some k else gl (gL F (eH a b X Y off) (wJ a b X Y) (F i f) i) (k+1) t:=fun c hc=>by rw[←hc]; rfl
  have go:gL F (eH a b X Y off) (wJ a b X Y) (F i f) i k=false→aa (qe [.l a,.l b,.l (bE X),.l (bE Y),.i off,.l (dH F X.length Y.length 0),.l out,.i (f:Int),.i (i:Int),.i (k:Int),.i (X.length:Int),.i (i:Int)])
    (fun o=>o=(none,[.l a,.l b,.l (bE X),.l (bE Y),.i off,.l (dH F X.length Y.length 0),.l out,.i (f:Int),.i (i:Int),.i ((k+1:Nat):Int),.i (X.length:Int),.i (i:Int)])):=fun d=>by
   unfold qe
   (dsimp +instances only[Aa,Ab,Ac,Ad,Ae,Af,Ag])
   simp only[lZ];refine aa.p ?_;refine aa.cE (Qm J off _ hi q) ?_
   (dsimp +instances only[Aa,Ab,Ac,Ad,Ae,Af,Ag])
   simp only[bD,O,U,y,B]
   (dsimp +instances only[Aa,Ab,Ac,Ad,Ae,Af,Ag])
   simp only[I,M,sY,oJ]
   (dsimp +instances only[Aa,Ab,Ac,Ad,Ae,Af,Ag])
   refine aa.test (fun h=>?_) fun h=>?_
   ·refine aa.p (aa.p (aa.p (aa.p (aa.pos (kX.2 ⟨by omega, by omega⟩) (aa.p (aa.p ?_))))))
    have v:(wJ a b X Y i k+F (i+1) (k+1)==F i f)=false:=by
     unfold gL at d
     rwa [h,jW]at d
    rw[v];refine aa.tail (P:=fun u g=>u=1∧g=[.l a,.l b,.l (bE X),.l (bE Y),.i off,.l (dH F X.length Y.length 0),.l out,.i (f:Int),.i (i:Int),.i (k:Int),.i (X.length:Int),.i (i:Int)]) ⟨_,GD off hi q nY ho false,1,rfl,rfl,rfl⟩ (by simp) ?_;rintro _ _ ⟨rfl,rfl⟩
    (dsimp +instances only[Aa,Ab,Ac,Ad,Ae,Af,Ag])
    exact aa.neg rfl (aa.p (aa.pos (by simp) (aa.some rfl)))
   ·refine aa.tail (P := fun u g => u = 1 ∧ g = [.l a, .l b, .l (bE X), .l (bE Y), .i off, .l (dH F X.length Y.length 0), .l out, .i (f : Int), .i (i : Int), .i (k : Int), .i (X.length : Int), .i (i : Int)]) ⟨_, GD off hi q nY ho false, 1, rfl, rfl, rfl⟩ (by simp) ?_
    rintro _ _ ⟨rfl,rfl⟩
    (dsimp +instances only[Aa,Ab,Ac,Ad,Ae,Af,Ag])
    exact aa.neg rfl (aa.p (aa.pos (by simp) (aa.some rfl)))
  cases d:gL F (eH a b X Y off) (wJ a b X Y) (F i f) i k with
  | false =>
   rw[N false d,cond_false];exact aZ.next (aa.toEq (go d)) (Qs J off hF out ho hi V t (k+1) (by omega))
  | true =>
   rw[N true d,cond_true];obtain⟨o1,o2⟩:=Gx.1 d;refine aZ.stop (x:=0) (aa.toEq ?_) ⟨rfl,rfl⟩;unfold qe
   (dsimp +instances only[Aa,Ab,Ac,Ad,Ae,Af,Ag])
   simp only[lZ];refine aa.p ?_;refine aa.cE (Qm J off _ hi q) ?_
   (dsimp +instances only[Aa,Ab,Ac,Ad,Ae,Af,Ag])
   simp only[bD,O,U,y,B]
   (dsimp +instances only[Aa,Ab,Ac,Ad,Ae,Af,Ag])
   simp only[I,M,sY,oJ]
   (dsimp +instances only[Aa,Ab,Ac,Ad,Ae,Af,Ag])
   refine aa.pos o1 ?_;refine aa.p (aa.p (aa.p (aa.p (aa.pos (kX.2 ⟨by omega,by omega⟩) (aa.p (aa.p ?_))))));have v:(wJ a b X Y i k+F (i+1) (k+1)==F i f)=true:=by rw[beq_iff_eq]; exact o2
   rw[v];refine aa.tail (P:=fun u g=>u=0∧g=[.l a,.l b,.l (bE X),.l (bE Y),.i off,.l (dH F X.length Y.length 0),.l (out++[l5 X Y (i,k)]),.i ((k+1:Nat):Int),.i (X.length:Int),.i (i:Int)]) ⟨_,GD off hi q nY ho true,0,rfl,rfl,rfl⟩ (by simp) ?_;rintro _ _ ⟨rfl,rfl⟩
   (dsimp +instances only[Aa,Ab,Ac,Ad,Ae,Af,Ag])
   exact aa.pos rfl (aa.pos (by simp) (aa.some rfl))
theorem GF(J:JC a b X Y)(off:Int)(hF:dT F X.length Y.length (eH a b X Y off) (wJ a b X Y)):∀(t i f:Nat) (out:List (List G)),i+t=X.length→f≤Y.length→out.length+t≤100000 →
  aZ sJ [.l a,.l b,.l (bE X),.l (bE Y),.i off,.l (dH F X.length Y.length 0),.l out,.i (f:Int),.i (X.length:Int),.i (i:Int)] (t+1)
   fun c g=>c=0∧g=[.l a,.l b,.l (bE X),.l (bE Y),.i off,.l (dH F X.length Y.length 0),.l (out++(gM F Y.length (eH a b X Y off) (wJ a b X Y) t i f).map (l5 X Y))]
 | 0,i,f,out,hi,h,ho=>by
  have e:out++(gM F Y.length (eH a b X Y off) (wJ a b X Y) 0 i f).map (l5 X Y)=out:=by rw[gM,List.map_nil,db]
  rw[e];refine aZ.stop (x:=0) (aa.toEq ?_) ⟨rfl,rfl⟩;unfold sJ
  (dsimp +instances only[Aa,Ab,Ac,Ad,Ae,Af,Ag])
  exact aa.n (aa.pos (by simp) (aa.some rfl))
 | t+1,i,f,out,hi,h,ho=>by
  have nX:=J.nX;have nY:=J.nY;have k:=Qs J off hF out (by omega) (f:=f) (i:=i) (by omega) h (Y.length-f) f (by omega);have step:∀ q,gl (gL F (eH a b X Y off) (wJ a b X Y) (F i f) i) f (Y.length-f)=q→aa (sJ [.l a,.l b,.l (bE X),.l (bE Y),.i off,.l (dH F X.length Y.length 0),.l out,.i (f:Int),.i (X.length:Int),.i (i:Int)])
    (fun o=>o=(none,[.l a,.l b,.l (bE X),.l (bE Y),.i off,.l (dH F X.length Y.length 0),.l (Qq X Y out i q),.i (Qr f q:Int),.i (X.length:Int),.i ((i+1:Nat):Int)])):=fun q d=>by
   rw[d]at k;unfold sJ
   (dsimp +instances only[Aa,Ab,Ac,Ad,Ae,Af,Ag])
   refine aa.p ?_;refine aa.loop (k.to (by omega)) (by simp) ?_;rintro _ _ ⟨rfl,rfl⟩
   (dsimp +instances only[Aa,Ab,Ac,Ad,Ae,Af,Ag])
   exact aa.p (aa.pos (by simp) (aa.some rfl))
  cases d:gl (gL F (eH a b X Y off) (wJ a b X Y) (F i f) i) f (Y.length-f)with
  | none =>
   have:=GF J off hF t (i+1) f out (by omega) h (by omega);rw[Gy d];exact aZ.next (aa.toEq (step none d)) this
  | some q =>
   obtain⟨u,v,_,_⟩:=Al d;have:=GF J off hF t (i+1) (q+1) (out++[l5 X Y (i,q)]) (by omega) (by omega) (by simp; omega);rw[Am d,dg];rw[gp]at this;exact aZ.next (aa.toEq (step (some q) d)) this
theorem aeM(J:JC a b X Y)(off:Int)(hF:dT F X.length Y.length (eH a b X Y off) (wJ a b X Y)) :
  zS [.l a,.l b,.l (bE X),.l (bE Y),.i off,.l []]=some [.l a,.l b,.l (bE X),.l (bE Y),.i off,.l (dH F X.length Y.length 0),.l ((gM F Y.length (eH a b X Y off) (wJ a b X Y) X.length 0 0).map (l5 X Y))]:=by
 have nX:=J.nX;refine aa.toEq ?_;unfold zS
 (dsimp +instances only[Aa,Ab,Ac,Ad,Ae,Af,Ag])
 refine aa.cE (aeL J off hF) ?_
 (dsimp +instances only[Aa,Ab,Ac,Ad,Ae,Af,Ag])
 simp only[lZ];have h:=GF J off hF X.length 0 0 [] (by omega) (eI _) (by simp; omega);rw[jV]at h;refine aa.loop (h.to (by omega)) (by first|rfl|simp) ?_;rintro _ _ ⟨rfl,rfl⟩
 (dsimp +instances only[Aa,Ab,Ac,Ad,Ae,Af,Ag])
 exact aa.pos (by simp) (aa.some rfl)
end
abbrev GK:=ByteArray × Int
def du(k:GK):List G:=[.s k.1,.i k.2]
theorem aeN(k:GK):aK [.str,.int .i64] (du k) (du k)=true:=by
 show ((k.1.toList==k.1.toList)&&((k.2==k.2)&&true))=true
 simp
theorem aeO{k k':GK}(h:k≠k'):aK [.str,.int .i64] (du k) (du k')=false:=by
 show ((k.1.toList==k'.1.toList)&&((k.2==k'.2)&&true))=false
 cases h1:k.1.toList==k'.1.toList with
 |false=>rfl
 | true =>
  cases d:k.2==k'.2 with
  |false=>rfl
  |true=>exact(h (Prod.ext (IA (eq_of_beq h1)) (eq_of_beq d))).elim
def jt(i:Nat)(e:GK × List Nat):List G:=[.l [du e.1],.l [[.l (bE e.2)]],.i (i:Int),.t true]
def bu:Nat→List (GK × List Nat)→List (List G)
 |_,[]=>[]
 |i,e::L=>jt i e::bu (i+1) L
theorem v8:∀(i:Nat) (L:List (GK × List Nat)),(bu i L).length=L.length
 |_,[]=>rfl
 |i,_::L=>by simp[bu,v8 (i+1) L]
theorem s7:∀(i:Nat) (A B:List (GK × List Nat)),bu i (A++B)=bu i A++bu (i+A.length) B
 |i,[],B=>by simp[bu]
 | i,e::A,B=>by
  simp only[kG,bu,s7 (i+1) A B,cr];rw[show i+1+A.length=i+(A.length+1) from by omega]
def kC(k:GK)(v:Nat):List (GK × List Nat)→List (GK × List Nat)
 | []=>[(k,[v])]
 |e::L=>if e.1=k then (e.1,e.2++[v])::L else e::kC k v L
theorem Ar(k:GK):∀ L:List (GK × List Nat),(∀ e∈L,e.1≠k)∨∃ A vs B,L=A++(k,vs)::B∧∀ e∈A,e.1≠k
 | []=>.inl fun e h=>by cases h
 | e::L=>by
  by_cases he:e.1=k
  ·exact .inr ⟨[],e.2,L,by rw[←he]; rfl,fun e h=>by cases h⟩
  ·rcases Ar k L with h | ⟨A, vs, B, rfl, h⟩
   ·exact .inl fun x d=>by
     rcases bR.1 d with rfl|d
     ·exact he
     ·exact h x d
   ·exact .inr ⟨e::A,vs,B,rfl,fun x d=>by
     rcases bR.1 d with rfl|d
     ·exact he
     ·exact h x d⟩
theorem As{k:GK}(v:Nat):∀{L:List (GK × List Nat)},(∀ e∈L,e.1≠k)→kC k v L=L++[(k,[v])]
 | [],_=>rfl
 | e::L,h=>by
  rw[kC,if_neg (h e cO),As v fun x d=>h x (c9 _ d)];rfl
theorem Au{k:GK}(v:Nat)(vs:List Nat)(B:List (GK × List Nat)):∀{A:List (GK × List Nat)},(∀ e∈A,e.1≠k)→kC k v (A++(k,vs)::B)=A++(k,vs++[v])::B
 | [],_=>by rw[jV,kC,if_pos rfl,jV]
 | e::A,h=>by
  rw[kG,kC,if_neg (h e cO),Au v vs B fun x d=>h x (c9 _ d)];rfl
theorem GG(k:GK)(R:List (List G)):∀(A:List (GK × List Nat)) (i j:Nat),(∀ e∈A,e.1≠k)→bU [.str,.int .i64] (du k) (bu i A++R) j=bU [.str,.int .i64] (du k) R (j+A.length)
 | [],_,_,_=>rfl
 | e::A,i,j,h=>by
  rw[bu,kG,bU,show (gi (jt i e) 0).row=du e.1 from rfl,aeO (Ne.symm (h e cO)),cond_false,GG k R A (i+1) (j+1) fun x d=>h x (c9 _ d),cr];congr 1;omega
theorem Qt{k:GK}{L:List (GK × List Nat)}(h:∀ e∈L,e.1≠k)(i j:Nat):bU [.str,.int .i64] (du k) (bu i L) j=none:=by
 have:=GG k [] L i j h;rw[db]at this;exact this
theorem Qu{k:GK}{A:List (GK × List Nat)}(h:∀ e∈A,e.1≠k)(i:Nat)(r:List G)(hr:(gi r 0).row=du k)(R:List (List G)):bU [.str,.int .i64] (du k) (bu i A++r::R) 0=some (A.length,r):=by
 rw[GG k (r::R) A i 0 h,bU,hr,aeN,cond_true,cW]
theorem Qv(R:List (List G)):∀(A:List (GK × List Nat)) (i j c:Nat),i+A.length≤c→ff (c:Int) (bu i A++R) j=ff (c:Int) R (j+A.length)
 | [],_,_,_,_=>rfl
 | e::A,i,j,c,h=>by
  rw[cr]at h;have hb:(((gi (jt i e) 2).int.toNat:Int)==(c:Int))=false:=by
   show (((i:Int).toNat:Int)==(c:Int))=false
   rw[bD,beq_eq_false_iff_ne];omega
  rw[bu,kG,ff,hb,cond_false,Qv R A (i+1) (j+1) c (by omega),cr];congr 1;omega
theorem Qw(A:List (GK × List Nat))(r:List G)(R:List (List G))(hr:(gi r 2).int=(A.length:Int)):ff (A.length:Int) (bu 0 A++r::R) 0=some (A.length,r):=by
 rw[Qv (r::R) A 0 0 A.length (by omega),ff,hr,bD,show ((A.length:Int)==(A.length:Int))=true from by simp,cond_true,cW]
theorem v_{α:Type}(p:List α)(x y:α)(q:List α)(n:Nat)(h:p.length=n):(p++x::q).set n y=p++y::q:=by
 subst h;rw[List.set_append_right _ _ (aD _),Nat.sub_self,List.set_cons_zero]
def oK(L:List (GK × List Nat)):Nat:=(L.map fun e=>e.2.length).sum
theorem aeP{L:List (GK × List Nat)}{e:GK × List Nat}(h:e∈L):e.2.length≤oK L:=by
 induction L with
 |nil=>cases h
 | cons x L d =>
  unfold oK at d⊢;rw[dg,Sk];rcases bR.1 h with rfl|h
  ·omega
  ·have := d h
   omega
theorem Qx(k:GK)(v:Nat):∀ L:List (GK × List Nat),oK (kC k v L)=oK L+1
 | []=>rfl
 | e::L=>by
  have d:=Qx k v L;rw[kC];split
  ·unfold oK
   simp;omega
  ·unfold oK at d ⊢
   rw[dg,Sk,dg,Sk,d];omega
theorem aeQ(L:List (GK × List Nat))(k:GK)(v:Nat) :
  fe [.str,.int .i64] (bu 0 L) (du k)=true∧(dm [.str,.int .i64] (bu 0 L) (du k)).length≤oK L ∧
   rF (lL [.str,.int .i64] (bu 0 L) (du k) L.length) (lK [.str,.int .i64] (bu 0 L) (du k) L.length:Nat)=true ∧
   rE (lL [.str,.int .i64] (bu 0 L) (du k) L.length) (lK [.str,.int .i64] (bu 0 L) (du k) L.length:Nat) (dm [.str,.int .i64] (bu 0 L) (du k)++[[.i (v:Int)]])=bu 0 (kC k v L) ∧
   eE [.str,.int .i64] (bu 0 L) (du k) L.length=(kC k v L).length:=by
 rcases Ar k L with h1|⟨A,vs,B,rfl,I⟩
 ·have d := Qt h1 0 0
  have h:dm [.str,.int .i64] (bu 0 L) (du k)=[]:=by unfold dm; rw[d]
  have q:lL [.str,.int .i64] (bu 0 L) (du k) L.length=bu 0 L++[[.l [du k],.l [[.l []]],.i (L.length:Int),.t false]]:=by unfold lL; rw[d]
  have u:lK [.str,.int .i64] (bu 0 L) (du k) L.length=L.length:=by unfold lK; rw[d]
  have y:=Qw L [.l [du k],.l [[.l []]],.i (L.length:Int),.t false] [] rfl;refine⟨by unfold fe; rw[d],by rw[h]; simp,?_,?_,?_⟩
  ·rw [q, u]
   unfold rF;rw[y];rfl
  ·rw [q, u, h, As v h1, s7]
   unfold rE;rw[y];simp only[];rw[v_ _ _ _ _ _ (v8 0 L),cW];rfl
  ·rw [As v h1]
   unfold eE dC;rw[d];simp
 ·have d:bU [.str,.int .i64] (du k) (bu 0 (A++(k,vs)::B)) 0=some (A.length,jt A.length (k,vs)):=by
   rw[s7,bu,cW];exact Qu I 0 (jt A.length (k,vs)) rfl _
  have h:dm [.str,.int .i64] (bu 0 (A++(k,vs)::B)) (du k)=bE vs:=by unfold dm; rw[d]; rfl
  have q:lL [.str,.int .i64] (bu 0 (A++(k,vs)::B)) (du k) (A++(k,vs)::B).length=bu 0 A++[.l [du k],.l [[.l (bE vs)]],.i (A.length:Int),.t false]::bu (A.length+1) B:=by
   unfold lL;rw[d,s7,bu,cW];exact v_ _ _ _ _ _ (v8 0 A)
  have u:lK [.str,.int .i64] (bu 0 (A++(k,vs)::B)) (du k) (A++(k,vs)::B).length=A.length:=by
   unfold lK;rw[d];show ((A.length:Int).toNat)=A.length
   exact bD _
  have y:=Qw A [.l [du k],.l [[.l (bE vs)]],.i (A.length:Int),.t false] (bu (A.length+1) B) rfl;refine⟨by unfold fe; rw[d]; rfl,by rw[h,lZ]; exact aeP (e:=(k,vs)) (by simp),?_,?_,?_⟩
  ·rw [q, u]
   unfold rF;rw[y];rfl
  ·rw [q, u, h, Au v vs B I, s7, bu, cW]
   unfold rE;rw[y];simp only[];rw[v_ _ _ _ _ _ (v8 0 A)];have J:bE vs++[[G.i (v:Int)]]=bE (vs++[v]):=by unfold bE; rw[jX]; rfl
   rw[J];rfl
  ·rw [Au v vs B I]
   unfold eE dC;rw[d];simp
/-! ### d of a log -/
def cz(r:List G):GK:=(aT r,kB r)
def ll(l:List (List G))(s:ByteArray)(i:Nat):Bool:=(bA (l.getD i [])).toList==s.toList
def nc(l:List (List G))(s:ByteArray)(L:List (GK × List Nat))(i:Nat):List (GK × List Nat):=bif ll l s i then kC (cz (l.getD i [])) i L else L
def l6(l:List (List G))(s:ByteArray)(n:Nat):List (GK × List Nat):=(dP n).foldl (nc l s) []
theorem Qy(l:List (List G))(s:ByteArray)(n:Nat):l6 l s (n+1)=nc l s (l6 l s n) n:=by
 unfold l6;rw[A0,Sl];rfl
def fP(l:List (List G))(s:ByteArray)(k:GK)(n:Nat):List Nat:=(dP n).filter fun i=>ll l s i&&decide (cz (l.getD i [])=k)
theorem GH(l:List (List G))(s:ByteArray)(k:GK)(n:Nat):fP l s k (n+1)=fP l s k n++if ll l s n=true∧cz (l.getD n [])=k then [n] else []:=by
 unfold fP;rw[A0,List.filter_append];congr 1;by_cases h1:ll l s n=true
 ·by_cases d : cz (l.getD n []) = k
  ·rw[if_pos ⟨h1,d⟩,HC,if_pos (by rw[h1,jW,decide_eq_true_eq]; exact d),Sm]
  ·rw[if_neg fun e=>d e.2,HC,if_neg (by rw[h1,jW,decide_eq_true_eq]; exact d),Sm]
 ·rw[if_neg fun e=>h1 e.1,HC,if_neg (by rw[ax]; exact fun e=>h1 e.1),Sm]
structure GI (l:List (List G)) (s:ByteArray) (n:Nat) (L:List (GK × List Nat)):Prop where
 GJ:oK L≤n
 len:L.length≤n
 nd:(L.map (·.1)).Nodup
 qk:∀ e∈L,e.2=fP l s e.1 n∧e.2≠[]
 all:∀ k,fP l s k n≠[]→∃ e∈L,e.1=k
theorem GI.zero(l:List (List G))(s:ByteArray):GI l s 0 []:=⟨aD _,aD _,by simp,by simp,fun k h=>(h rfl).elim⟩
theorem GI.step{l:List (List G)}{s:ByteArray}{n:Nat}{L:List (GK × List Nat)}(h:GI l s n L):GI l s (n+1) (nc l s L n):=by
 unfold nc;cases hw:ll l s n with
 | false =>
  have e:∀ k,fP l s k (n+1)=fP l s k n:=fun k=>by rw[GH,if_neg (by rw[hw]; simp),db]
  exact⟨Sn h.GJ,Sn h.len,h.nd,fun x d=>by rw[e]; exact h.qk x d,fun k hk=>by rw[e]at hk; exact h.all k hk⟩
 | true =>
  rw[cond_true];have I:fP l s (cz (l.getD n [])) (n+1)=fP l s (cz (l.getD n [])) n++[n]:=by rw[GH,if_pos ⟨hw,rfl⟩]
  have u:∀ k,cz (l.getD n [])≠k→fP l s k (n+1)=fP l s k n:=fun k hk=>by rw[GH,if_neg (fun e=>hk e.2),db]
  have J:=Qx (cz (l.getD n [])) n L;have V:=h.GJ;have N:=h.len;rcases Ar (cz (l.getD n [])) L with h1|⟨A,vs,B,rfl,M⟩
  ·rw [As n h1] at J ⊢
   refine⟨by omega,by simp; omega,?_,fun x d=>?_,fun k hk=>?_⟩
   ·rw [jX, Sp]
    refine⟨h.nd,by simp,fun a ha b hb=>?_⟩;obtain⟨e,he,rfl⟩:=cV.1 ha;simp at hb;subst hb;exact h1 e he
   ·rcases cZ.1 d with d | d
    ·rw [u x.1 (Ne.symm (h1 x d))]
     exact h.qk x d
    ·have d := tv.1 d
     subst d;show [n]=fP l s (cz (l.getD n [])) (n+1)∧[n]≠[]
     rw[I];have:fP l s (cz (l.getD n [])) n=[]:=by
      cases O:fP l s (cz (l.getD n [])) n with
      |nil=>rfl
      | cons y W =>
       obtain⟨e,he,hk⟩:=h.all (cz (l.getD n [])) (by rw[O]; simp);exact(h1 e he hk).elim
     rw[this];simp
   ·by_cases e : cz (l.getD n []) = k
    ·exact⟨_,tA _ cO,e⟩
    ·rw [u k e] at hk
     obtain⟨x,d,q⟩:=h.all k hk;exact⟨x,oY _ d,q⟩
  ·rw [Au n vs B M] at J ⊢
   have v:=h.nd;rw[jX,dg]at v;have U:∀ e∈B,e.1≠cz (l.getD n []):=fun e he hk=>by
    have:=(Sp.1 v).2.1;rw[kK]at this;exact this.1 (hk▸cV.2 ⟨e,he,rfl⟩)
   refine⟨by omega,by simp at N⊢; omega,?_,fun x d=>?_,fun k hk=>?_⟩
   ·rw [jX, dg]
    exact v
   ·rcases cZ.1 d with d | d
    ·rw [u x.1 (Ne.symm (M x d))]
     exact h.qk x (oY _ d)
    ·rcases bR.1 d with rfl | d
     ·have := h.qk (cz (l.getD n []), vs) (by simp)
      simp only at this⊢;rw[I,←this.1];simp
     ·rw [u x.1 (Ne.symm (U x d))]
      exact h.qk x (tA _ (c9 _ d))
   ·by_cases e : cz (l.getD n []) = k
    ·exact⟨_,tA _ cO,e⟩
    ·rw [u k e] at hk
     obtain⟨x,d,q⟩:=h.all k hk;rcases cZ.1 d with d|d
     ·exact⟨x,oY _ d,q⟩
     ·rcases bR.1 d with rfl | d
      ·exact(e q).elim
      ·exact⟨x,tA _ (c9 _ d),q⟩
theorem GI.to(l:List (List G))(s:ByteArray):∀ n,GI l s n (l6 l s n)
 |0=>GI.zero l s
 | n+1=>by
  rw[Qy];exact(GI.to l s n).step
def fQ(l:List (List G))(s:ByteArray):List (GK × List Nat):=l6 l s l.length
theorem aeR(l:List (List G))(B:l.length≤100000)(s:ByteArray) :
  jS sF [.l [],.i 0,.s s,.l l,.i (l.length:Int),.i 0] fun c g=>c=0∧g=[.l (bu 0 (fQ l s)),.i ((fQ l s).length:Int)]:=by
 have r:=LC (st:=sF) (σ:=List (GK × List Nat)) (fun L i=>[.l (bu 0 L),.i (L.length:Int),.s s,.l l,.i (l.length:Int),.i (i:Int)]) l (fun L=>(0,[.l (bu 0 L),.i (L.length:Int)]))
  (fun L i=>L=l6 l s i) [] (by omega) rfl
  (fun L i z d hi q hm I => by
   have u:=GI.to l s i;rw[←d]at u;have J:=u.GJ;have k:nc l s L i=l6 l s (i+1):=by rw[Qy,d]
   obtain⟨v,a2,a3,a4,a5⟩:=aeQ L (cz z) i;unfold sF
   (dsimp +instances only[Aa,Ab,Ac,Ad,Ae,Af,Ag])
   simp only[bD,q];refine aa.p (aa.p ?_);have y:([.s (gi z 2).str,.i (gi z 1).int]:List G)=du (cz z):=rfl;rw[y,a4,a5];refine aa.test (fun h=>?_) fun h=>?_
   ·have e:nc l s L i=kC (cz z) i L:=by
     unfold nc ll;rw[q,show ((bA z).toList==s.toList)=true from h,cond_true]
    rw[e]at k;exact aa.pos v (aa.pos (by simp; omega) (aa.pos (by rw[a3]; simp) (aa.p (aa.some ⟨_,rfl,k⟩))))
   ·have e:nc l s L i=L:=by
     unfold nc ll;rw[q,show ((bA z).toList==s.toList)=false from h,cond_false]
    rw[e]at k;exact aa.p (aa.some ⟨L,rfl,k⟩))
  (fun L d => by
   unfold sF
   (dsimp +instances only[Aa,Ab,Ac,Ad,Ae,Af,Ag])
   simp only[bD];exact aa.n (aa.some rfl))
 refine r.mono ?_;rintro c g ⟨L,d,rfl,rfl⟩;exact⟨rfl,by rw[d]; rfl⟩
theorem Qz:∀(i:Nat) (L:List (GK × List Nat)),yG (bu i L)=true
 |_,[]=>rfl
 | i,e::L=>by
  have:=Qz (i+1) L;unfold yG at this⊢;rw[bu,List.all_cons,this];rfl
theorem QA(l:List (List G))(d:l.length≤100000)(s:ByteArray):vK [.l l,.s s]=some [.l (bu 0 (fQ l s)),.i ((fQ l s).length:Int)]:=by
 refine aa.toEq ?_;unfold vK
 (dsimp +instances only[Aa,Ab,Ac,Ad,Ae,Af,Ag])
 refine aa.loop (aeR l d s) (by first|rfl|simp) ?_;rintro _ _ ⟨rfl,rfl⟩
 (dsimp +instances only[Aa,Ab,Ac,Ad,Ae,Af,Ag])
 simp only[bD];exact aa.pos (by rw[Qz]; rfl) (aa.some rfl)
theorem aeS(l:List (List G))(s:ByteArray)(k:GK):cC [.str,.int .i64] (bu 0 (fQ l s)) (du k) [.l []]=[.l (bE (fP l s k l.length))]:=by
 have h:=GI.to l s l.length;show cC [.str,.int .i64] (bu 0 (l6 l s l.length)) (du k) [.l []]=_
 rcases Ar k (l6 l s l.length)with h1|⟨A,vs,B,he,q⟩
 ·have:fP l s k l.length=[]:=by
   cases d:fP l s k l.length with
   |nil=>rfl
   | cons y v =>
    obtain⟨e,he,hk⟩:=h.all k (by rw[d]; simp);exact(h1 e he hk).elim
  unfold cC;rw[Qt h1,this];rfl
 ·have u:bU [.str,.int .i64] (du k) (bu 0 (l6 l s l.length)) 0=some (A.length,jt A.length (k,vs)):=by
   rw[he,s7,bu,cW];exact Qu q 0 (jt A.length (k,vs)) rfl _
  have d:=h.qk (k,vs) (by rw[he]; simp);unfold cC;rw[u];show [G.l (bE vs)]=_
  rw[show vs=fP l s k l.length from d.1]
def Av(A B:List (List G))(off:Int)(X Y:List Nat):List (Nat × Nat):=gM (m_ X.length Y.length (eH A B X Y off) (wJ A B X Y)) Y.length (eH A B X Y off) (wJ A B X Y) X.length 0 0
def cJ(A:List (List G))(d:ByteArray)(k:GK):List Nat:=fP A d k A.length
def ju(A B:List (List G))(ac d:ByteArray)(off:Int)(k:GK):List (List G):=(Av A B off (cJ A d k) (cJ B ac k)).map (l5 (cJ A d k) (cJ B ac k))
def hG(A B:List (List G))(ac d:ByteArray)(off:Int):List (List G):=((fQ A d).map fun e=>ju A B ac d off e.1).flatten
def ln(r s:List G):Int:=fA (gi r 0).int (gi s 0).int
def iZ(A B:List (List G))(ac d:ByteArray)(off:Int):List (List G):=dG (bZ ln) (hG A B ac d off)
theorem lp{A:List (List G)}{s:ByteArray}{k:GK}{i:Nat}:i∈cJ A s k↔i<A.length∧ll A s i=true∧cz (A.getD i [])=k:=by
 unfold cJ fP;rw[List.mem_filter,fF,ax,decide_eq_true_eq]
theorem QB(A:List (List G))(s:ByteArray)(k:GK):(cJ A s k).length≤A.length:=by
 unfold cJ fP;have:=List.length_filter_le (fun i=>ll A s i&&decide (cz (A.getD i [])=k)) (dP A.length)
 rwa [th]at this
theorem aeT(A:List (List G))(s:ByteArray)(k:GK):(cJ A s k).Pairwise (·<·):=(List.pairwise_lt_range).filter _
structure gN (A B:List (List G)):Prop where
 ha:∀ z∈A,fO z
 hb:∀ z∈B,fO z
 na:A.length≤1000
 nb:B.length≤1000
theorem gN.flip{A B:List (List G)}(h:gN A B):gN B A:=⟨h.hb,h.ha,h.nb,h.na⟩
theorem gN.jc{A B:List (List G)}(h:gN A B)(ac d:ByteArray)(k:GK):JC A B (cJ A d k) (cJ B ac k):=by
 have h1:=h.na;have q:=h.nb;have u:=QB A d k;have v:=QB B ac k;exact⟨h.ha,h.hb,fun i hi=>(lp.1 hi).1,fun i hi=>(lp.1 hi).1,by omega,by omega,by omega,by omega⟩
theorem wa{A B:List (List G)}{off:Int}{X Y:List Nat}{x:Nat × Nat}(h:x∈Av A B off X Y):x.1<X.length∧x.2<Y.length∧eH A B X Y off x.1 x.2=true:=by
 obtain⟨_,b,_,d,e⟩:=An _ _ _ x h;exact⟨by omega,d,e⟩
theorem aeU(A B:List (List G))(off:Int)(X Y:List Nat):(Av A B off X Y).length≤X.length:=by
 have key:∀(F:Nat→Nat→Int) (m:Nat) (ok:Nat→Nat→Bool) (w:Nat→Nat→Int) (t i f:Nat),(gM F m ok w t i f).length≤t:=by
  intro F m ok w t
  induction t with
  |zero=>intro i f; exact aD _
  | succ t d =>
   intro i f;rw[gM];split
   ·rw [cr]
    exact Nat.succ_le_succ (d _ _)
   ·exact Sn (d _ _)
 exact key _ _ _ _ _ _ _
/-! ### d program -/
def GL(r:List G):Prop:=∃ i k:Nat,r=[.i (i:Int),.i (k:Int)]∧i≤100000∧k≤100000
theorem aeV:sm sK GL ln:=by
 rintro _ _ ⟨i,k,rfl,h1,h⟩ ⟨d,k',rfl,q,u⟩;refine⟨(i:Int)-(d:Int),?_,?_⟩
 ·refine aa.toEq ?_
  unfold sK
  (dsimp +instances only[Aa,Ab,Ac,Ad,Ae,Af,Ag])
  exact aa.pos (kX.2 ⟨by omega,by omega⟩) (aa.some rfl)
 ·show (i : Int) - (d : Int) < 0 ↔ fA (i : Int) (d : Int) < 0
  rw[qh];omega
theorem GM:fg (bZ ln) (fun _=>True):=aeC (fun a b=>Aj.flip _ _) fun a b d h1 h=>Aj.le _ _ _ h1 h
theorem GN{A B:List (List G)}(h:gN A B){ac d:ByteArray}{off:Int}{k:GK}{r:List G}(hr:r∈ju A B ac d off k) :
  ∃ i j:Nat,r=[.i (i:Int),.i (j:Int)]∧i∈cJ A d k∧j∈cJ B ac k∧oI off (A.getD i []) (B.getD j [])=true:=by
 obtain⟨x,q,rfl⟩:=cV.1 hr;obtain⟨a,b,c⟩:=wa q;exact⟨_,_,rfl,l4 a,l4 b,c⟩
theorem GO{A B:List (List G)}(h:gN A B){ac d:ByteArray}{off:Int}{r:List G}(hr:r∈hG A B ac d off) :
  ∃(k:GK) (i j:Nat),r=[.i (i:Int),.i (j:Int)]∧i∈cJ A d k∧j∈cJ B ac k∧oI off (A.getD i []) (B.getD j [])=true:=by
 obtain⟨l,q,hr⟩:=Hp.1 hr;obtain⟨e,_,rfl⟩:=cV.1 q;obtain⟨i,j,h1⟩:=GN h hr;exact⟨_,i,j,h1⟩
theorem GP{A B:List (List G)}(h:gN A B){ac d:ByteArray}{off:Int}:∀ r∈hG A B ac d off,GL r:=fun r hr=>by
 obtain⟨k,i,j,rfl,h1,q,_⟩:=GO h hr;have:=(lp.1 h1).1;have:=(lp.1 q).1;have:=h.na;have:=h.nb;exact⟨i,j,rfl,by omega,by omega⟩
theorem GQ{A B:List (List G)}(h:gN A B)(ac d:ByteArray)(off:Int):(hG A B ac d off).Pairwise fun a b=>(gi a 0).int≠(gi b 0).int:=by
 have M:=GI.to A d A.length;unfold hG;rw[List.pairwise_flatten];refine⟨fun l N=>?_,?_⟩
 ·obtain ⟨e, _, rfl⟩ := cV.1 N
  unfold ju;rw[oZ];refine(Gz _ _ _).imp_of_mem fun {x y} k q I he=>?_;obtain⟨u,_,_⟩:=wa (A:=A) (B:=B) (off:=off) k;obtain⟨b1,_,_⟩:=wa (A:=A) (B:=B) (off:=off) q;have he:(((cJ A d e.1).getD x.1 0:Nat):Int)=(((cJ A d e.1).getD y.1 0:Nat):Int):=he;have hr:=A1.1 (aeT A d e.1) x.1 y.1 u b1 I.1;rw[bG,bt u,bG,bt b1]at he;simp only[Option.getD_some]at he;omega
 ·rw [oZ]
  have J:(fQ A d).Pairwise fun e e'=>e.1≠e'.1:=by
   have:=M.nd;unfold A6 at this
   rwa [oZ]at this
  refine J.imp fun {e e'} aw x k y q he=>?_;obtain⟨i,j,rfl,h1,_⟩:=GN h k;obtain⟨v,U,rfl,O,_⟩:=GN h q;have he:(i:Int)=(v:Int):=he;have he:i=v:=by omega
  subst he;exact aw ((lp.1 h1).2.2.symm.trans (lp.1 O).2.2)
theorem QC{A B:List (List G)}(h:gN A B)(ac d:ByteArray)(off:Int):∀ a∈hG A B ac d off,∀ b∈hG A B ac d off,bZ ln a b=false→bZ ln b a=false→a=b:=by
 intro a ha b hb h1 k;unfold bZ ln at h1 k;rw[eW,decide_eq_false_iff_not,qh]at h1 k;have he:(gi a 0).int=(gi b 0).int:=by omega
 obtain⟨i,hi,rfl⟩:=ma ha;obtain⟨j,q,rfl⟩:=ma hb;have u:=A1.1 (GQ h ac d off);rcases HH i j with g|g|g
 ·exact(u i j hi q g he).elim
 ·subst g; rfl
 ·exact(u j i q hi g he.symm).elim
theorem aeW{A B:List (List G)}(h:gN A B)(ac d:ByteArray)(off:Int){out:List (List G)}(k:out.Perm (hG A B ac d off))(q:out.length<100000):sL [.l out]=some [.l (iZ A B ac d off)]:=by
 have h1:=Xv (C:=sK) (Q:=GL) aeV (GM.mono fun _ _=>trivial) out (fun y u=>GP h y (k.mem_iff.1 u)) q fun a ha b hb=>QC h ac d off a (k.mem_iff.1 ha) b (k.mem_iff.1 hb);unfold sL;rw[h1];have e:dG (bZ ln) (hG A B ac d off)=dG (bZ ln) out:=Xs GM k.symm (fun _ _=>trivial) (QC h ac d off);rw[←e];rfl
def Aw(r:List G):GK:=((gi (gi r 0).row 0).str,(gi (gi r 0).row 1).int)
theorem QD:∀(i:Nat) (L:List (GK × List Nat)) (r:List G),r∈bu i L→∃(j:Nat) (e:GK × List Nat),e∈L∧r=jt j e
 |_,[],_,h=>by cases h
 | i,e::L,r,h=>by
  rcases bR.1 h with rfl|h
  ·exact⟨i,e,cO,rfl⟩
  ·obtain ⟨j, e', h1, d⟩ := QD (i + 1) L r h
   exact⟨j,e',c9 _ h1,d⟩
theorem QE{β:Type}(f:GK→β):∀(i:Nat) (L:List (GK × List Nat)),(bu i L).map (fun r=>f (Aw r))=L.map fun e=>f e.1
 |_,[]=>rfl
 | i,e::L=>by
  simp only[bu,dg,QE f (i+1) L];rfl
theorem QF:∀(i:Nat) (L:List (GK × List Nat)),(bu i L).map cU=(dP L.length).map (i+·)
 |_,[]=>rfl
 | i,e::L=>by
  simp only[bu,dg,QF (i+1) L,cr,List.range_succ_eq_map,List.map_map];rw[show cU (jt i e)=i from by simp[cU,jt,gi,G.int]];congr 1;refine List.map_congr_left fun x _=>?_;simp only[AX];omega
theorem GR:∀ l:List Nat,l.Nodup→nodupB l=true
 | [],_=>rfl
 | a::l,d=>by
  obtain⟨h1,h⟩:=kK.1 d;simp only[nodupB,GR l h,fD,Bool.not_eq_true'];cases k:l.any (ae a)with
  |false=>rfl
  | true =>
   obtain⟨x,q,e⟩:=ia.1 k;rw[Nat.eq_of_beq_eq_true e]at h1;exact(h1 q).elim
theorem aeX(L:List (GK × List Nat)):ku (bu 0 L) L.length=true:=by
 have hb:(bu 0 L).map cU=dP L.length:=by
  rw[QF];simp
 unfold ku;rw[hb,ax];refine⟨GR _ List.nodup_range,?_⟩;rw[dq];intro r hr;have:cU r∈(bu 0 L).map cU:=cV.2 ⟨r,hr,rfl⟩;rw[hb,fF]at this;simpa using this
theorem QG{st:List G→List G→Option (List G)}{aY:List G→Nat}{r:List G}{q:List (List G)}{d d':List G}(h:st r d=some d')(ha:aY d'=aY d):cG st aY (r::q) d=cG st aY q d':=by
 simp only[cG,h];rw[ha,show ae (aY d) (aY d)=true from mq _,cond_true]
theorem QH{A B:List (List G)}(h:gN A B)(ac k:ByteArray)(off:Int)(u aY:Nat):∀(q out:List (List G)),(∀ r∈q,r∈bu 0 (fQ A k))→out.length+1000*q.length≤1000000 →
  cG zT (fun d=>(gi d 8).int.toNat) q [.s ac,.l A,.s k,.l B,.l (bu 0 (fQ B ac)),.i (u:Int),.l out,.i off,.i (aY:Int)] =
   some [.s ac,.l A,.s k,.l B,.l (bu 0 (fQ B ac)),.i (u:Int),.l (out++(q.map fun r=>ju A B ac k off (Aw r)).flatten),.i off,.i (aY:Int)]
 | [],out,_,_=>by simp[cG]
 | r::q,out,v,y=>by
  simp only[cr]at y;obtain⟨j,e,he,rfl⟩:=QD 0 _ r (v r cO);have I:=(GI.to A k A.length).qk e he;have hk:Aw (jt j e)=e.1:=rfl;have hX:e.2=cJ A k e.1:=I.1;have J:=h.jc ac k e.1;have hlen:(ju A B ac k off e.1).length≤1000:=by
   unfold ju;rw[cN];exact oQ (aeU _ _ _ _ _) J.nX
  have st:zT (jt j e) [.s ac,.l A,.s k,.l B,.l (bu 0 (fQ B ac)),.i (u:Int),.l out,.i off,.i (aY:Int)]=some [.s ac,.l A,.s k,.l B,.l (bu 0 (fQ B ac)),.i (u:Int),.l (out++ju A B ac k off e.1),.i off,.i (aY:Int)]:=by
   have M:(gi (gi (jt j e) 1).row 0).rows=bE e.2:=rfl;have N:aM [.str,.int .i64] (gi (jt j e) 0).row=du e.1:=rfl;refine aa.toEq ?_;unfold zT;rw[M,N]
   (dsimp +instances only[Aa,Ab,Ac,Ad,Ae,Af,Ag])
   rw[aeS,hX]
   (dsimp +instances only[Aa,Ab,Ac,Ad,Ae,Af,Ag])
   refine aa.cE (aeM J off (Ql _ _ _ _)) ?_
   (dsimp +instances only[Aa,Ab,Ac,Ad,Ae,Af,Ag])
   simp only[bD];exact aa.pos (by
    show ((ae out.length out.length)&&decide (out.length+(ju A B ac k off e.1).length≤1048576))=true
    rw[mq,jW,decide_eq_true_eq];omega) (aa.pos (by rw[mq]; rfl) (aa.some rfl))
  rw[QG st rfl,QH h ac k off u aY q _ (fun x O=>v x (c9 _ O)) (by rw[dY]; omega)];rw[dg,List.flatten_cons,hk,gp]
theorem Ax:∀(n:Nat) (l:List Nat),l.Nodup→(∀ x∈l,x<n)→l.length≤n
 | 0,l,_,h=>by
  cases l with
  |nil=>exact aD _
  |cons x l=>exact absurd (h x cO) (by omega)
 | n+1,l,k,h=>by
  by_cases hm:n∈l
  ·have h1:=Ax n (l.erase n) (k.erase n) fun x d=>by
    have q:=h x (List.mem_of_mem_erase d);have u:x≠n:=fun e=>by
     subst e;exact(List.Nodup.not_mem_erase k) d
    omega
   rw[List.length_erase_of_mem hm]at h1;omega
  ·have:=Ax n l k fun x d=>by
    have q:=h x d;have u:x≠n:=fun e=>hm (e▸d);omega
   omega
theorem aeY{A B:List (List G)}(h:gN A B)(ac d:ByteArray)(off:Int) :
  FR [.s ac,.l A,.s d,.l B,.l (bu 0 (fQ A d)),.i ((fQ A d).length:Int),.l (bu 0 (fQ B ac)),.i ((fQ B ac).length:Int),.l [],.i off]=some (some 0,[.l (iZ A B ac d off)]):=by
 have N:=GI.to A d A.length;have O:=N.len;have na:=h.na;show iU zU zV (bu 0 (fQ A d)) (((fQ A d).length:Int).toNat) _=_
 rw[bD];refine LX (aeX _) fun b p u=>⟨rfl,?_⟩
 have hpn:p.length≤1000:=by
  have:=u.length_eq;rw[v8]at this;have:(fQ A d).length≤A.length:=O;omega
 have v:((p.map fun r=>ju A B ac d off (Aw r)).flatten).Perm (hG A B ac d off):=by
  unfold hG;rw[←QE (fun k=>ju A B ac d off k) 0 (fQ A d)];exact(u.map _).flatten
 have W:(hG A B ac d off).length≤1000:=by
  have M:((hG A B ac d off).map fun r=>(gi r 0).int.toNat).Nodup:=by
   unfold A6;rw[oZ];refine(GQ h ac d off).imp_of_mem fun {x y} q U aw he=>aw ?_;obtain⟨i,k,rfl,_⟩:=GP h x q;obtain⟨I,k',rfl,_⟩:=GP h y U;have he:((i:Int)).toNat=((I:Int)).toNat:=he;show (i:Int)=(I:Int)
   omega
  have J:((hG A B ac d off).map fun r=>(gi r 0).int.toNat) ⊆ dP A.length:=by
   intro x q;obtain⟨r,hr,rfl⟩:=cV.1 q;obtain⟨k,i,j,rfl,h1,_⟩:=GO h hr;rw[fF];exact(lp.1 h1).1
  have:=Ax A.length _ M fun x q=>fF.1 (J q);rw[cN]at this;omega
 refine⟨_,QH h ac d off (fQ B ac).length b p [] (fun r hr=>u.mem_iff.1 hr) (by simp; omega),?_⟩;rw[jV];refine aa.toEq ?_;unfold zV
 (dsimp +instances only[Aa,Ab,Ac,Ad,Ae,Af,Ag])
 have V:=v.length_eq;refine aa.mU (aa.eq (aeW h ac d off v (by omega))) (by simp) ?_;rintro _ rfl
 (dsimp +instances only[Aa,Ab,Ac,Ad,Ae,Af,Ag])
 refine aa.pos ?_ (aa.some rfl);rw[V];unfold iZ;rw[DC,mq];rfl
theorem aeZ{A B:List (List G)}(h:gN A B)(ac d:ByteArray)(off:Int):zW [.l [[.s ac,.l A]],.l [[.s d,.l B]],.i off]=some [.l (iZ A B ac d off)]:=by
 have na:=h.na;have nb:=h.nb;refine aa.toEq ?_;unfold zW
 (dsimp +instances only[Aa,Ab,Ac,Ad,Ae,Af,Ag])
 refine aa.cE (QA A (by omega) d) ?_
 (dsimp +instances only[Aa,Ab,Ac,Ad,Ae,Af,Ag])
 refine aa.cE (QA B (by omega) ac) ?_
 (dsimp +instances only[Aa,Ab,Ac,Ad,Ae,Af,Ag])
 simp only[bD];refine aa.tail (P:=fun u g=>u=0∧g=[.l (iZ A B ac d off)]) ⟨_,aeY h ac d off,0,rfl,rfl,rfl⟩ (by first|rfl|simp) ?_;rintro _ _ ⟨rfl,rfl⟩
 (dsimp +instances only[Aa,Ab,Ac,Ad,Ae,Af,Ag])
 exact aa.pos (by simp) (aa.some rfl)
theorem QI{off:Int}{p q:List G}:oI off p q=true↔aT p=aT q∧kB p=kB q∧iI p q≤off:=by
 unfold oI;rw[oG,ax,ax,fv,decide_eq_true_eq,decide_eq_true_eq,beq_iff_eq]
theorem QJ{A:List (List G)}{s:ByteArray}{k:GK}{i:Nat}(hi:i<(cJ A s k).length):aT (g_ A (cJ A s k) i)=k.1∧kB (g_ A (cJ A s k) i)=k.2:=by
 have h:=(lp.1 (l4 (z:=0) hi)).2.2;unfold cz at h;rw[Prod.ext_iff]at h;exact h
theorem QK{A B:List (List G)}{ac d:ByteArray}{off:Int}{r:List G}:r∈hG A B ac d off↔∃ k,r∈ju A B ac d off k:=by
 constructor
 ·intro h
  obtain⟨l,u,hr⟩:=Hp.1 h;obtain⟨e,_,rfl⟩:=cV.1 u;exact⟨_,hr⟩
 ·rintro ⟨k, h⟩
  have h':=h;unfold ju at h';obtain⟨x,v,_⟩:=cV.1 h';have h1:=(wa v).1;obtain⟨e,he,rfl⟩:=(GI.to A d A.length).all k (by
   intro q;have q:cJ A d k=[]:=q;rw[q]at h1;simp at h1)
  exact Hp.2 ⟨_,cV.2 ⟨e,he,rfl⟩,h⟩
/-! ### h sorted d -/
theorem Ay(A B:List (List G))(ac d:ByteArray)(off:Int):(iZ A B ac d off).Perm (hG A B ac d off):=sk (lt:=bZ ln) _
theorem ae0{A B:List (List G)}(h:gN A B)(ac d:ByteArray)(off:Int):(iZ A B ac d off).Pairwise fun a b=>(gi a 0).int<(gi b 0).int:=by
 have h1:=zg (lt:=bZ ln) GM (l:=hG A B ac d off) (fun _ _=>trivial);have k:(iZ A B ac d off).Pairwise fun a b=>(gi a 0).int≠(gi b 0).int:=(GQ h ac d off).perm (Ay A B ac d off).symm (fun aw e=>aw e.symm);refine h1.imp₂ (fun {a b} g1 g2=>?_) k;unfold bZ ln at g1;rw[eW,decide_eq_false_iff_not,qh]at g1;omega
theorem Az{A B:List (List G)}(h:gN A B){ac d:ByteArray}{off:Int}{r:List G}(hr:r∈iZ A B ac d off) :
  ∃ i j:Nat,r=[.i (i:Int),.i (j:Int)]∧i<A.length∧j<B.length∧ll A d i=true∧ll B ac j=true∧oI off (A.getD i []) (B.getD j [])=true:=by
 obtain⟨k,i,j,rfl,h1,u,v⟩:=GO h ((Ay A B ac d off).mem_iff.1 hr);have q:=lp.1 h1;have a2:=lp.1 u;exact⟨i,j,rfl,q.1,a2.1,q.2.1,a2.2.1,v⟩
theorem ae1{A B:List (List G)}(h:gN A B)(ac d:ByteArray)(off:Int):(iZ A B ac d off).length≤A.length:=by
 have q:((iZ A B ac d off).map fun r=>(gi r 0).int.toNat).Nodup:=by
  unfold A6;rw[oZ];refine((ae0 h ac d off).imp_of_mem ?_);intro a b ha hb u e;obtain⟨i,j,rfl,_⟩:=Az h ha;obtain⟨k,y,rfl,_⟩:=Az h hb;have I:((i:Int)).toNat=((k:Int)).toNat:=e;have e':i=k:=by omega
  subst e';exact absurd u (Int.lt_irrefl _)
 have:=Ax A.length _ q fun x v=>by
  obtain⟨r,hr,rfl⟩:=cV.1 v;obtain⟨i,j,rfl,hi,_⟩:=Az h hr;show ((i:Int).toNat)<_
  rwa [bD]
 simpa using this
theorem l7(ks:List Kd)(r:List G)(rs:List (List G))(key:List G):dm ks (r::rs) key=bif aK ks key (gi r 0).row then gT r else dm ks rs key:=by
 unfold dm;simp only[bU];cases aK ks key (gi r 0).row with
 |true=>rfl
 | false =>
  simp only[cond_false];rw[mW ks key rs (0+1)];cases bU ks key rs 0<;>rfl
theorem l8(ks:List Kd)(r:List G)(rs:List (List G))(key:List G):fe ks (r::rs) key=bif aK ks key (gi r 0).row then (gi r 3).bool else fe ks rs key:=by
 unfold fe;simp only[bU];cases aK ks key (gi r 0).row with
 |true=>rfl
 | false =>
  simp only[cond_false];rw[mW ks key rs (0+1)];cases bU ks key rs 0<;>rfl
theorem wb(ks:List Kd)(r:List G)(rs:List (List G))(key:List G):iy ks (r::rs) key=bif aK ks key (gi r 0).row then [gi r 0,gi r 1,gi r 2,.t false]::rs else r::iy ks rs key:=by
 unfold iy;simp only[bU];cases aK ks key (gi r 0).row with
 |true=>rfl
 | false =>
  simp only[cond_false];rw[mW ks key rs (0+1)];cases bU ks key rs 0<;>rfl
theorem we(ks:List Kd)(r:List G)(rs:List (List G))(key:List G)(v:List (List G))(c:Nat):kh ks (r::rs) key v c=bif aK ks key (gi r 0).row then [.l [key],.l [[.l v]],.i (gi r 2).int,.t true]::rs else r::kh ks rs key v c:=by
 unfold kh;simp only[bU];cases aK ks key (gi r 0).row with
 |true=>rfl
 | false =>
  simp only[cond_false];rw[mW ks key rs (0+1)];cases bU ks key rs 0<;>rfl
theorem QL(ks:List Kd)(k key:List G):∀ rows:List (List G),dm ks (iy ks rows k) key=dm ks rows key
 | []=>rfl
 | r::rs=>by
  rw[wb];cases h:aK ks k (gi r 0).row with
  | true =>
   rw[cond_true,l7,l7];rfl
  |false=>rw[cond_false,l7,l7,QL ks k key rs]
theorem QM(ks:List Kd){k key:List G}(aw:aK ks key k=false):∀ rows:List (List G),fe ks (iy ks rows k) key=fe ks rows key
 | []=>rfl
 | r::rs=>by
  rw[wb];cases h:aK ks k (gi r 0).row with
  | true =>
   have e:aK ks key (gi r 0).row=false:=by rw[←vl h]; exact aw
   rw[cond_true,l8,l8,e];show (bif aK ks key (gi r 0).row then _ else _)=_
   rw[e];rfl
  |false=>rw[cond_false,l8,l8,QM ks aw rs]
theorem QN(ks:List Kd)(k key:List G)(v:List (List G))(c:Nat):∀ rows:List (List G),dm ks (kh ks rows k v c) key=bif aK ks key k then v else dm ks rows key
 | []=>by
  show dm ks [[.l [k],.l [[.l v]],.i (c:Int),.t true]] key=_
  rw[l7];rfl
 | r::rs=>by
  rw[we,l7];cases h:aK ks k (gi r 0).row with
  | true =>
   rw[cond_true,l7];have e:aK ks key (gi r 0).row=aK ks key k:=(vl h).symm;rw[e];show (bif aK ks key k then _ else _)=_
   cases aK ks key k<;>rfl
  | false =>
   rw[cond_false,l7,QN ks k key v c rs];cases d:aK ks key (gi r 0).row with
   |false=>rfl
   | true =>
    cases q:aK ks key k with
    |false=>rfl
    | true =>
     have:aK ks k (gi r 0).row=true:=p6 (by rw[mV]; exact q) d;rw[this]at h;cases h
theorem QO(ks:List Kd)(k key:List G)(v:List (List G))(c:Nat):∀ rows:List (List G),fe ks (kh ks rows k v c) key=bif aK ks key k then true else fe ks rows key
 | []=>by
  show fe ks [[.l [k],.l [[.l v]],.i (c:Int),.t true]] key=_
  rw[l8];rfl
 | r::rs=>by
  rw[we,l8];cases h:aK ks k (gi r 0).row with
  | true =>
   rw[cond_true,l8];have e:aK ks key (gi r 0).row=aK ks key k:=(vl h).symm;rw[e];show (bif aK ks key k then _ else _)=_
   cases aK ks key k<;>rfl
  | false =>
   rw[cond_false,l8,QO ks k key v c rs];cases d:aK ks key (gi r 0).row with
   |false=>rfl
   | true =>
    cases q:aK ks key k with
    |false=>rfl
    | true =>
     have:aK ks k (gi r 0).row=true:=p6 (by rw[mV]; exact q) d;rw[this]at h;cases h
theorem kD(s k:ByteArray):aK [.str] [.s s] [.s k]=decide (s=k):=by
 show ((s.toList==k.toList)&&true)=_
 rw[fD,oG]
structure oL (Q:List G→Prop) (m:List (List G)) (n:ByteArray→Nat):Prop where
 fe:∀ k,fe [.str] m [.s k]=true
 get:∀ k,(dm [.str] m [.s k]).length≤n k∧∀ z∈dm [.str] m [.s k],Q z
theorem oL.nil(Q:List G→Prop):oL Q [] fun _=>0:=⟨fun _=>rfl,fun _=>⟨aD _,by intro z d; cases d⟩⟩
theorem oL.add{Q:List G→Prop}{m:List (List G)}{n:ByteArray→Nat}(h:oL Q m n)(k:ByteArray){x:List G}(u:Q x)(c:Nat) :
  oL Q (kh [.str] (iy [.str] m [.s k]) [.s k] (dm [.str] m [.s k]++[x]) c) fun s=>if s=k then n s+1 else n s:=by
 refine⟨fun s=>?_,fun s=>?_⟩
 ·rw [QO, kD]
  by_cases e:s=k
  ·rw[decide_eq_true e]; rfl
  ·rw [decide_eq_false e, cond_false, QM _ (by rw [kD]; exact decide_eq_false e)]
   exact h.fe s
 ·rw [QN, kD]
  obtain⟨h1,q⟩:=h.get s;by_cases e:s=k
  ·subst e
   rw[decide_eq_true rfl,cond_true];simp only[if_true];refine⟨by rw[dY]; simp; omega,fun z d=>?_⟩;rcases cZ.1 d with d|d
   ·exact q z d
   ·rw[tv.1 d]; exact u
  ·rw [decide_eq_false e, cond_false, QL]
   simp only[if_neg e];exact⟨h1,q⟩
theorem oL.mono{Q:List G→Prop}{m:List (List G)}{n d:ByteArray→Nat}(h:oL Q m n)(q:∀ k,n k≤d k):oL Q m d :=
 ⟨h.fe,fun k=>⟨oQ (h.get k).1 (q k),(h.get k).2⟩⟩
def QP(r:List G):Prop:=dy r∧0≤(gi r 0).int∧(gi r 0).int≤1000000
def GS(m:List (List G))(B:Int):Prop:=∀ k,0≤(gi (cC [.str] m [.s k] [.i 0]) 0).int∧(gi (cC [.str] m [.s k] [.i 0]) 0).int≤B
theorem GS.add{m:List (List G)}{B:Int}(h:GS m B)(k:ByteArray)(c:Nat):GS (eO [.str] m [.s k] [.i ((gi (cC [.str] m [.s k] [.i 0]) 0).int+1)] c) (B+1):=fun s=>by
 have h1:=h k;have d:=h s;rw[y9,kD];by_cases e:s=k
 ·rw [decide_eq_true e, cond_true]
  show 0≤(gi (cC [.str] m [.s k] [.i 0]) 0).int+1∧(gi (cC [.str] m [.s k] [.i 0]) 0).int+1≤B+1
  omega
 ·rw [decide_eq_false e, cond_false]
  omega
def wg(K:List Kd)(C:List G→Option (List G))(d:List G):Option (Option Nat × List G) :=
 (bif (ao (gi d 3).int (gi d 2).int) then (bif ((aB (gi d 3).int)&&(ao (gi d 3).int (((gi d 0).rows.length:Nat):Int))) then (ay (C [.l [(aM K ((gi d 0).rows.getD (((gi d 3).int).toNat) []))],.l [(aM [.str,.list K] (gi d 1).row)]]) fun g1=>(bif (gi g1 0).bool then some (some 0,[.i (gi d 3).int]) else (bif (au ((gi d 3).int+1)) then some (none,[.l (gi d 0).rows,.l [(aM [.str,.list K] (gi d 1).row)],.i (gi d 2).int,.i ((gi d 3).int+1)]) else none))) else none) else some (some 1,[]))
def QQ(K:List Kd)(C:List G→Option (List G))(d:List G):Option (List G) :=
 (ay (a8 true (bV (wg K C) [.l (gi d 0).rows,.l [(aM [.str,.list K] (aM [.str,.list K] (gi d 1).row))],.i (((gi d 0).rows.length:Nat):Int),.i 0]) fun h g2=>(bif ae h 0 then some [.i (gi g2 0).int] else some [.i (-1)])) fun g1=>some [.t (ba 0 (gi g1 0).int)])
def i_(c:ByteArray)(L:List (List G)):Bool:=L.any fun z=>(gi z 3).str.toList==c.toList
section
variable {C:List G→Option (List G)} {c:ByteArray} {A:List (List G)} (hC:∀ z,dy z→C [.l [z],.l [[.s c,.l A]]]=some [.t ((gi z 3).str.toList==c.toList)])
include hC
theorem QR:∀(q p:List (List G)),(∀ z∈p++q,dy z)→p.length+q.length<100000 →
  aZ (wg [.int .i64,.int .i64,.str,.str,.int .i64,.int .i64,.str,.str] C) [.l (p++q),.l [[.s c,.l A]],.i ((p.length+q.length:Nat):Int),.i (p.length:Int)] (q.length+1) fun x g=>(x=0∧i_ c q=true∧∃ v:Int,0≤v∧g=[.i v])∨x=1∧i_ c q=false
 | [],p,k,u=>by
  refine aZ.stop (x:=1) (d':=[]) (aa.toEq ?_) (.inr ⟨rfl,rfl⟩);unfold wg
  (dsimp +instances only[Aa,Ab,Ac,Ad,Ae,Af,Ag])
  (repeat first|refine aa.p ?_|refine aa.n ?_)
  exact aa.some rfl
 | x::q,p,k,u=>by
  simp only[cr]at u;have d:dy x:=k x (by simp);have g1:(p++x::q).getD (p.length:Int).toNat []=x:=lg _ _ _ _ _ (by simp);have hlen:(p++x::q).length=p.length+q.length+1:=by simp; omega
  cases h:(gi x 3).str.toList==c.toList with
  | true =>
   refine aZ.stop (x:=0) (d':=[.i (p.length:Int)]) (aa.toEq ?_) (.inl ⟨rfl,by simp only[i_,A4,h,Bool.true_or],_,by omega,rfl⟩);unfold wg
   (dsimp +instances only[Aa,Ab,Ac,Ad,Ae,Af,Ag])
   simp only[g1,hlen,cr,d.eta]
   (repeat first|refine aa.p ?_|refine aa.n ?_)
   refine aa.cE (hC x d) ?_
   (dsimp +instances only[Aa,Ab,Ac,Ad,Ae,Af,Ag])
   exact aa.pos h (aa.some rfl)
  | false =>
   have y:=QR q (p++[x]) (by simpa using k) (by simp; omega);have B:(p++[x])++q=p++x::q:=by simp
   have I:(((p++[x]).length+q.length:Nat):Int)=((p.length+(x::q).length:Nat):Int):=by simp; omega
   have J:(((p++[x]).length:Nat):Int)=(p.length:Int)+1:=by simp
   rw[B,I,J]at y;have M:i_ c (x::q)=i_ c q:=by simp only[i_,A4,h,Bool.false_or]
   rw[M];refine aZ.next (aa.toEq ?_) y
   unfold wg
   (dsimp +instances only[Aa,Ab,Ac,Ad,Ae,Af,Ag])
   simp only[g1,hlen,cr,d.eta]
   (repeat first|refine aa.p ?_|refine aa.n ?_)
   refine aa.cE (hC x d) ?_
   (dsimp +instances only[Aa,Ab,Ac,Ad,Ae,Af,Ag])
   refine aa.neg h (aa.p (aa.some rfl))
theorem ae2(L:List (List G))(h:∀ z∈L,dy z)(k:L.length<100000):QQ [.int .i64,.int .i64,.str,.str,.int .i64,.int .i64,.str,.str] C [.l L,.l [[.s c,.l A]]]=some [.t (i_ c L)]:=by
 refine aa.toEq ?_;unfold QQ
 (dsimp +instances only[Aa,Ab,Ac,Ad,Ae,Af,Ag])
 have h1:=QR hC L [] (by simpa using h) (by simpa using k);have h0:((0:Nat):Int)=0:=rfl;simp only[jV,mr,cW,h0]at h1;refine aa.call (P:=fun g=>∃ v:Int,g=[.i v]∧ba 0 v=i_ c L) ?_ ?_
 ·refine aa.loop (h1.to (by omega)) (by (first|rfl|assumption|(simp only [au,sl]<;>omega))) ?_
  rintro x g (⟨rfl,d,v,q,rfl⟩|⟨rfl,d⟩)
  ·exact aa.some ⟨v,rfl,by rw[d,fv]; exact decide_eq_true q⟩
  ·exact aa.some ⟨-1,rfl,by rw[d]; rfl⟩
 ·rintro _ ⟨v, rfl, d⟩
  exact aa.some (congrArg (fun b=>[G.t b]) d)
end
def ql(c:ByteArray)(L:List (List G)):Int:=bif !iY c then 3 else bif fZ L != 0 then fZ L else bif i_ c L then 6 else 0
theorem QS{c:ByteArray}{L:List (List G)}(h:ql c L=0):fZ L=0:=by
 unfold ql at h;cases h1:iY c with
 |false=>rw[h1]at h; cases h
 | true =>
  rw[h1]at h;cases d:fZ L != 0 with
  |false=>simpa using d
  | true =>
   rw[d]at h;simp only[Bool.not_true,cond_false,cond_true]at h;exact h
theorem QP.m{z:List G}(h:QP z):fO z:=by
 obtain⟨h,h0,h1⟩:=h;exact⟨h.eta,by unfold f_; omega,by unfold f_; omega⟩
def fR(k:Nat):List Nat→Option Nat
 | []=>none
 |a::l=>bif a==k then some 0 else (fR k l).map (·+1)
theorem GU{k:Nat}:∀{l:List Nat},fR k l=none↔k∉l
 | []=>by simp[fR]
 | a::l=>by
  unfold fR;cases h:a==k with
  |true=>simp at h; simp[h]
  | false =>
   simp at h;simp only[cond_false,Option.map_eq_none_iff,GU,bR,not_or];exact⟨fun g=>⟨fun e=>h e.symm,g⟩,fun g=>g.2⟩
theorem AA{k:Nat}:∀{l:List Nat} {n:Nat},fR k l=some n→n<l.length∧l.getD n 0=k
 | [],n,h=>by cases h
 | a::l,n,h=>by
  unfold fR at h;cases e:a==k with
  | true =>
   rw[e]at h;cases h;simp at e;exact⟨by simp,by simpa using e⟩
  | false =>
   rw[e]at h;simp only[cond_false,Option.map_eq_some_iff]at h;obtain⟨m,h1,rfl⟩:=h;obtain⟨q,d⟩:=AA h1;exact⟨by simp; omega,by simpa using d⟩
theorem GV{k:Nat}:∀{l:List Nat},k∉l→fR k (l++[k])=some l.length
 | [],_=>by simp[fR]
 | a::l,h=>by
  simp only[bR,not_or]at h;have e:(a==k)=false:=by simp; exact fun e=>h.1 e.symm
  show (bif a==k then some 0 else (fR k (l++[k])).map (·+1))=_
  rw[e,GV h.2];rfl
theorem GW(a b:Int):aK [.int .i64] [.i a] [.i b]=decide (a=b):=by
 show ((a==b)&&true)=decide (a=b)
 rw[fD];exact Bool.beq_eq_decide_eq a b
def bh:Nat→List Nat→List (List G)
 |_,[]=>[]
 |i,k::ks=>[.l [[.i (k:Int)]],.i (i:Int),.i (i:Int)]::bh (i+1) ks
theorem QT:∀(i:Nat) (A B:List Nat),bh i (A++B)=bh i A++bh (i+A.length) B
 |i,[],B=>by simp[bh]
 | i,a::A,B=>by
  show _::bh (i+1) (A++B)=_::(bh (i+1) A++bh (i+(A.length+1)) B)
  rw[QT (i+1) A B,show i+1+A.length=i+(A.length+1) by omega]
theorem GX(k:Nat):∀(ks:List Nat) (i j:Nat),bU [.int .i64] [.i (k:Int)] (bh i ks) j=(fR k ks).map fun n=>(j+n,([.l [[.i (k:Int)]],.i ((i+n:Nat):Int),.i ((i+n:Nat):Int)]:List G))
 | [],_,_=>rfl
 | a::ks,i,j=>by
  have d:=GX k ks (i+1) (j+1);have e:aK [.int .i64] [.i (k:Int)] ((gi [.l [[.i (a:Int)]],.i (i:Int),.i (i:Int)] 0).row)=(a==k):=by
   show aK [.int .i64] [.i (k:Int)] [.i (a:Int)]=_
   rw[GW];by_cases h:a=k
   ·subst h; simp
   ·have q : ¬ (k : Int) = (a : Int) := fun e => h (by omega)
    simp[h,q]
  show (bif _ then some (j,_) else bU _ _ (bh (i+1) ks) (j+1))=_
  rw[e,d];show _=Option.map _ (bif a==k then some 0 else (fR k ks).map (·+1))
  cases h:a==k with
  | true =>
   simp at h;subst h;rfl
  | false =>
   simp only[cond_false,Option.map_map];congr 1
   funext n
   simp only[AX];rw[show j+1+n=j+(n+1) by omega,show i+1+n=i+(n+1) by omega]
theorem ae3(k:Nat)(ks:List Nat):dC [.int .i64] (bh 0 ks) [.i (k:Int)]=(fR k ks).isSome:=by
 unfold dC;rw[GX,Option.isSome_map]
theorem AB(k:Nat)(ks:List Nat):fJ [.int .i64] (bh 0 ks) [.i (k:Int)]=fR k ks:=by
 unfold fJ;rw[GX];cases h:fR k ks with
 |none=>rfl
 | some n =>
  show (bif ba 0 ((0+n:Nat):Int) then some ((0+n:Nat):Int).toNat else none)=some n
  rw[fv,decide_eq_true (by omega:(0:Int)≤((0+n:Nat):Int))];simp
theorem GY(r:List G):∀(ks:List Nat) (i j c:Nat),i+ks.length≤c→ff (c:Int) (bh i ks++[r]) j=ff (c:Int) [r] (j+ks.length)
 | [],i,j,c,_=>rfl
 | a::ks,i,j,c,h=>by
  simp only[cr]at h;have d:=GY r ks (i+1) (j+1) c (by omega);show (bif ((i:Int).toNat:Int)==(c:Int) then _ else ff (c:Int) (bh (i+1) ks++[r]) (j+1))=_
  have e:(((i:Int).toNat:Int)==(c:Int))=false:=by
   rw[bD];simp;omega
  rw[e,d,show j+1+ks.length=j+(ks.length+1) by omega];rfl
theorem QU:∀(i:Nat) (ks:List Nat),(bh i ks).length=ks.length
 |_,[]=>rfl
 |i,_::ks=>by simp[bh,QU (i+1) ks]
def s8(k c:Nat):List G:=[.l [[.i (k:Int)]],.i (-1),.i (c:Int)]
theorem QV(k c j:Nat):ff (c:Int) [s8 k c] j=some (j,s8 k c):=by
 show (bif ((c:Int).toNat:Int)==(c:Int) then _ else _)=_
 rw[bD];simp
theorem ae4(k:Nat)(ks:List Nat):rI (bh 0 ks++[s8 k ks.length]) (ks.length:Int)=true:=by
 unfold rI;rw[GY _ _ _ _ _ (by omega),QV];rfl
theorem ae5(k:Nat)(ks:List Nat):rJ (bh 0 ks++[s8 k ks.length]) (ks.length:Int) ks.length=bh 0 (ks++[k]):=by
 unfold rJ;rw[GY _ _ _ _ _ (by omega),QV,QT];show (bh 0 ks++[s8 k ks.length]).set (0+ks.length) _=_
 rw[v_ (bh 0 ks) _ _ [] _ (by rw[QU,cW])];rw[cW];rfl
def gn(d:List G→List G × List G)(q:List (List G))(a:List (List G) × Nat):List (List G) × Nat :=
 q.foldl (fun a r=>(eO [.int .i64] a.1 (d r).1 (d r).2 a.2,eE [.int .i64] a.1 (d r).1 a.2)) a
def l9(a:List (List G) × Nat):List G:=[.l a.1,.i (a.2:Int)]
def s9(r:List G):List G × List G:=([.i (gi r 0).int],[.i (gi r 1).int])
def QW(r:List G):List G × List G:=([.i (gi r 1).int],[.t true])
def dI(p:List (List G)):List G:=l9 (gn s9 p ([],0))
def dJ(p:List (List G)):List G:=l9 (gn QW p ([],0))
theorem QX(d:List G→List G × List G)(p:List (List G))(r:List G)(a:List (List G) × Nat) :
  gn d (p++[r]) a=(eO [.int .i64] (gn d p a).1 (d r).1 (d r).2 (gn d p a).2,eE [.int .i64] (gn d p a).1 (d r).1 (gn d p a).2):=by
 unfold gn;rw[Sl];rfl
theorem QY(M:List (List G))(a:List (List G) × Nat)(key val:List G) :
  rH (M++[l9 a]) (some M.length) [.int .i64] key val=M++[l9 (eO [.int .i64] a.1 key val a.2,eE [.int .i64] a.1 key a.2)]:=by
 unfold rH;have e:gG (M++[l9 a]) (some M.length)=l9 a:=by
  show (M++[l9 a]).getD M.length []=_
  rw[bG];simp
 rw[e];show (M++[l9 a]).set M.length _=_
 rw[v_ M _ _ [] _ rfl];show M++[[.l (eO [.int .i64] a.1 key val (a.2:Int).toNat),.i ((eE [.int .i64] a.1 key (a.2:Int).toNat:Nat):Int)]]=_
 rw[bD];rfl
theorem QZ(M:List (List G))(x:List G):kZ (M++[x]) (some M.length)=true:=by
 show Nat.blt M.length (M++[x]).length=true
 simp
theorem Q0(d:List G→List G × List G)(key:List G):∀(q:List (List G)) (a:List (List G) × Nat),dC [.int .i64] (gn d q a).1 key=(q.any (fun r=>aK [.int .i64] key (d r).1)||dC [.int .i64] a.1 key)
 | [],a=>rfl
 | r::q,a=>by
  show dC [.int .i64] (gn d q (_,_)).1 key=_
  rw[Q0 d key q];simp only[A4];rw[LJ];cases aK [.int .i64] key (d r).1<;>cases dC [.int .i64] a.1 key<;>simp
theorem Q1(d:List G→List G × List G)(key z:List G):∀(q:List (List G)) (a:List (List G) × Nat),(∃ r∈q,aK [.int .i64] key (d r).1=true∧cC [.int .i64] (gn d q a).1 key z=(d r).2) ∨
  (∀ r∈q,aK [.int .i64] key (d r).1=false)∧cC [.int .i64] (gn d q a).1 key z=cC [.int .i64] a.1 key z
 | [],a=>.inr ⟨fun _ h=>(by cases h),rfl⟩
 | r::q,a=>by
  show (∃ _,_∧_∧cC [.int .i64] (gn d q (eO [.int .i64] a.1 (d r).1 (d r).2 a.2,_)).1 key z=_)∨_∧cC [.int .i64] (gn d q (eO [.int .i64] a.1 (d r).1 (d r).2 a.2,_)).1 key z=_
  rcases Q1 d key z q (eO [.int .i64] a.1 (d r).1 (d r).2 a.2,eE [.int .i64] a.1 (d r).1 a.2)with⟨s,h1,k,v⟩|⟨h1,k⟩
  ·exact .inl ⟨s,c9 _ h1,k,v⟩
  ·rw [k, y9]
   cases e:aK [.int .i64] key (d r).1 with
   |true=>exact .inl ⟨r,by simp,e,rfl⟩
   | false =>
    refine .inr ⟨fun s u=>?_,rfl⟩;rcases bR.1 u with rfl|u
    ·exact e
    ·exact h1 s u
structure fS (m i:Nat) (r:List (List G)):Prop where
 len:r.length=m
 val:∀ j,j<m→∃ v:Int,r.getD j []=[.i v]∧0≤v∧v≤(i:Int)+(j:Int)
theorem fS.set{m i k:Nat}{r:List (List G)}(h:fS m i r){v:Int}(h0:0≤v)(h1:v≤(i:Int)+(k:Int)):fS m i (r.set k [.i v]):=by
 refine⟨by rw[nk,h.len],fun j d=>?_⟩;by_cases e:k=j
 ·subst e
  refine⟨v,?_,h0,h1⟩;rw[bG,bx (by rw[h.len]; exact d)];rfl
 ·obtain ⟨w, g1, g2⟩ := h.val j d
  refine⟨w,?_,g2⟩;rw[bG,List.getElem?_set_ne e,←bG,g1]
theorem fS.zero(m i:Nat):fS m i (bO m [.i 0]):=by
 refine⟨wL ..,fun j d=>⟨0,?_,Si 0,by omega⟩⟩;rw[bG,ahe,if_pos d];rfl
def GZ(r0 r1 r2:List (List G))(a b:ByteArray)(i m:Nat)(h k q u:Int)(x:Nat)(g:List G):Prop :=
 x=0∧∃ d:List (List G),g=[.l r0,.l r1,.l r2,.l d,.s a,.s b,.i (i:Int),.i h,.i k,.i q,.i u]∧fS m i d
def ae6(r:List G)(x:Nat)(g:List G):Prop:=x=0∧g=r
theorem ae7{r0 r1 r2 row:List (List G)}{a b:ByteArray}{i k m:Nat}{d q u y:Int}{f:Bool}(hk:k<m)(hr:fS m i row)(I:f=true→2≤i∧2≤k∧fS m (i-2) r1)(hi:i≤1000)(hm:m≤1000) :
  aa (oB [.l r0,.l r1,.l r2,.l row,.s a,.s b,.i (i:Int),.i (k:Int),.i d,.i q,.i u,.i y,.t f]) fun o=>∃ x,o.1=some x∧GZ r0 r1 r2 a b i m d q u y x o.2:=by
 unfold oB
 (dsimp +instances only[Aa,Ab,Ac,Ad,Ae,Af,Ag])
 refine aa.test (fun h=>?_) fun h=>?_
 ·obtain ⟨h1, O, B⟩ := I h
  obtain⟨v,J,v0,v1⟩:=hr.val k hk;obtain⟨w,hw,U,V⟩:=B.val (k-2) (by omega);have M:((k:Int)).toNat=k:=bD k;have N:((k:Int)-2).toNat=k-2:=by omega
  have l1:=hr.len;have l2:=B.len;simp only[M,N,cW,J,hw,sZ]
  (dsimp +instances only[Aa,Ab,Ac,Ad,Ae,Af,Ag])
  refine aa.p (aa.p (aa.p (aa.p (aa.p (aa.p (aa.p (aa.p ?_)))))));refine aa.some ⟨0,rfl,rfl,_,rfl,hr.set ?_ ?_⟩<;>split<;>omega
 ·exact aa.p (aa.some ⟨0,rfl,rfl,_,rfl,hr⟩)
theorem ae8{r0 r1 r2 row:List (List G)}{a b:ByteArray}{i k m:Nat}{c d q u v:Int}(hk1:1≤k)(hk:k<m)(hb:m=b.size+1)(hi1:1≤i)(ha:i≤a.size)(hr:fS m i row)(y:fS m (i-1) r2)(h1:2≤i→fS m (i-2) r1)(c0:0≤c)(c1:c≤1)(hi:i≤1000)(hm:m≤1000) :
  aa (sM [.l r0,.l r1,.l r2,.l row,.s a,.s b,.i (i:Int),.i (k:Int),.i c,.i d,.i q,.i u,.i v]) fun o=>∃ x,o.1=some x∧GZ r0 r1 r2 a b i m d q u v x o.2:=by
 unfold sM
 (dsimp +instances only[Aa,Ab,Ac,Ad,Ae,Af,Ag])
 obtain⟨v1,M,v10,v11⟩:=y.val k hk;obtain⟨v2,N,v20,v21⟩:=hr.val (k-1) (by omega);obtain⟨v3,O,v30,v31⟩:=y.val (k-1) (by omega);have W:((k:Int)).toNat=k:=bD k;have n2:((k:Int)-1).toNat=k-1:=by omega
 have l1:=hr.len;have l2:=y.len;simp only[W,n2,cW,M,N,O,sZ]
 (dsimp +instances only[Aa,Ab,Ac,Ad,Ae,Af,Ag])
 obtain⟨V,hV,V0,V1⟩:∃ V:Int,(if v3+c<(if v2+1<v1+1 then v2+1 else v1+1) then v3+c else (if v2+1<v1+1 then v2+1 else v1+1))=V∧0≤V∧V≤(i:Int)+(k:Int):=by
  refine⟨_,rfl,?_,?_⟩<;>split<;>(try split)<;>omega
 simp only[hV];have I:=hr.set V0 V1;refine aa.p (aa.p (aa.p (aa.p (aa.p (aa.p (aa.p (aa.p (aa.p (aa.p (aa.p ?_))))))))));have fin:∀(f:Bool),(f=true→2≤i∧2≤k)→aa (a8 (ae row.length (row.set k [.i V]).length&&true) (dn (oB [.l r0,.l r1,.l r2,.l (row.set k [.i V]),.s a,.s b,.i (i:Int),.i (k:Int),.i d,.i q,.i u,.i v,.t f])) fun cg g=>(bif (ae (gi g 3).rows.length (gi g 3).rows.length)&&true then some ((some 0:Option Nat),[G.l (gi g 0).rows,.l (gi g 1).rows,.l (gi g 2).rows,.l (gi g 3).rows,.s (gi g 4).str,.s (gi g 5).str,.i (gi g 6).int,.i (gi g 7).int,.i (gi g 8).int,.i (gi g 9).int,.i (gi g 10).int]) else none))
   fun o=>∃ x,o.1=some x∧GZ r0 r1 r2 a b i m d q u v x o.2:=fun f B=>by
  refine aa.tail (ae7 hk I (fun h=>⟨(B h).1,(B h).2,h1 (B h).1⟩) hi hm) (by(first|rfl|assumption|(simp only[au,sl]<;>omega))) ?_;rintro _ _ ⟨rfl,J,rfl,U⟩
  (dsimp +instances only[Aa,Ab,Ac,Ad,Ae,Af,Ag])
  exact aa.p (aa.some ⟨0,rfl,rfl,J,rfl,U⟩)
 refine aa.test (fun g1=>?_) fun g1=>fin false (fun h=>by cases h);rw[eW,decide_eq_true_eq]at g1;refine aa.test (fun g2=>?_) fun g2=>fin false (fun h=>by cases h);rw[eW,decide_eq_true_eq]at g2;refine aa.p (aa.p (aa.p (aa.p ?_)));refine aa.test (fun g3=>?_) fun g3=>fin false (fun h=>by cases h);refine aa.p (aa.p (aa.p (aa.p ?_)));exact fin _ fun _=>⟨by omega,by omega⟩
theorem G0{r0 r1 r2 row:List (List G)}{a b:ByteArray}{d h q u:Int}{k:Nat}(hk:k≤1000) :
  aa (oA [.l r0,.l r1,.l r2,.l row,.s a,.s b,.i d,.i h,.i q,.i u,.i (k:Int)]) fun o=>∃ x,o.1=some x∧ae6 [.l r0,.l r1,.l r2,.l row,.s a,.s b,.i d,.i h,.i q,.i u,.i ((k:Int)+1)] x o.2:=by
 unfold oA
 (dsimp +instances only[Aa,Ab,Ac,Ad,Ae,Af,Ag])
 exact aa.p (aa.p (aa.some ⟨0,rfl,rfl,rfl⟩))
theorem Q2{r0 r1 r2:List (List G)}{a b:ByteArray}{i m:Nat}{n:Int}(hb:m=b.size+1)(ha:i≤a.size)(u:1≤i→fS m (i-1) r2)(h1:2≤i→fS m (i-2) r1)(hi:i≤1000)(hm:m≤1000):∀(t k:Nat) (row:List (List G)),k+t=m→fS m i row →
  aZ sN [.l r0,.l r1,.l r2,.l row,.s a,.s b,.i (i:Int),.i n,.i (i:Int),.i (m:Int),.i (k:Int)] (t+1) fun x g=>x=0∧∃ d,g=[.l r0,.l r1,.l r2,.l d,.s a,.s b,.i n,.i (i:Int)]∧fS m i d
 | 0,k,row,hk,hr=>by
  refine aZ.stop (x:=0) (aa.toEq ?_) ⟨rfl,row,rfl,hr⟩;unfold sN
  (dsimp +instances only[Aa,Ab,Ac,Ad,Ae,Af,Ag])
  exact aa.n (aa.p (aa.some rfl))
 | t+1,k,row,hk,hr=>by
  have step:aa (sN [.l r0,.l r1,.l r2,.l row,.s a,.s b,.i (i:Int),.i n,.i (i:Int),.i (m:Int),.i (k:Int)]) fun o=>∃ d,o=(none,[.l r0,.l r1,.l r2,.l d,.s a,.s b,.i (i:Int),.i n,.i (i:Int),.i (m:Int),.i ((k:Int)+1)])∧fS m i d:=by
   unfold sN
   (dsimp +instances only[Aa,Ab,Ac,Ad,Ae,Af,Ag])
   have l1:=hr.len;have v:((k:Int)).toNat=k:=bD k;simp only[v,cW,sZ];refine aa.p (aa.test (fun g0=>?_) fun g0=>aa.test (fun g1=>?_) fun g1=>?_)
   ·refine aa.p (aa.p ?_)
    refine aa.tail (G0 (k:=k) (by omega)) (by(first|rfl|assumption|(simp only[au,sl]<;>omega))) ?_;rintro _ _ ⟨rfl,rfl⟩
    (dsimp +instances only[Aa,Ab,Ac,Ad,Ae,Af,Ag])
    exact aa.p (aa.some ⟨_,rfl,hr.set (by omega) (by omega)⟩)
   ·refine aa.p (aa.p ?_)
    refine aa.tail (G0 (k:=k) (by omega)) (by(first|rfl|assumption|(simp only[au,sl]<;>omega))) ?_;rintro _ _ ⟨rfl,rfl⟩
    (dsimp +instances only[Aa,Ab,Ac,Ad,Ae,Af,Ag])
    exact aa.p (aa.some ⟨_,rfl,hr.set (by omega) (by omega)⟩)
   ·have i1:1≤i:=by
     have:¬ ((i:Int)=0):=by simpa using g0
     omega
    have y:1≤k:=by
     have:¬ ((k:Int)=0):=by simpa using g1
     omega
    have fin:∀ c:Int,0≤c→c≤1→aa (a8 (ae row.length row.length&&true) (dn (sM [.l r0,.l r1,.l r2,.l row,.s a,.s b,.i (i:Int),.i (k:Int),.i c,.i n,.i (i:Int),.i (m:Int),.i (k:Int)])) fun B g=>a8 (ae (gi g 3).rows.length (gi g 3).rows.length&&true) (dn (oA [.l (gi g 0).rows,.l (gi g 1).rows,.l (gi g 2).rows,.l (gi g 3).rows,.s (gi g 4).str,.s (gi g 5).str,.i (gi g 6).int,.i (gi g 7).int,.i (gi g 8).int,.i (gi g 9).int,.i (gi g 10).int])) fun B g=>(bif (ae (gi g 3).rows.length (gi g 3).rows.length)&&true then some ((none:Option Nat),[G.l (gi g 0).rows,.l (gi g 1).rows,.l (gi g 2).rows,.l (gi g 3).rows,.s (gi g 4).str,.s (gi g 5).str,.i (gi g 6).int,.i (gi g 7).int,.i (gi g 8).int,.i (gi g 9).int,.i (gi g 10).int]) else none))
      fun o=>∃ d,o=(none,[.l r0,.l r1,.l r2,.l d,.s a,.s b,.i (i:Int),.i n,.i (i:Int),.i (m:Int),.i ((k:Int)+1)])∧fS m i d:=fun c I c1=>by
     refine aa.tail (ae8 y (by omega) hb i1 ha hr (u i1) h1 I c1 hi hm) (by(first|rfl|assumption|(simp only[au,sl]<;>omega))) ?_;rintro _ _ ⟨rfl,d,rfl,q⟩
     (dsimp +instances only[Aa,Ab,Ac,Ad,Ae,Af,Ag])
     refine aa.tail (G0 (k:=k) (by omega)) (by(first|rfl|assumption|(simp only[au,sl]<;>omega))) ?_;rintro _ _ ⟨rfl,rfl⟩
     (dsimp +instances only[Aa,Ab,Ac,Ad,Ae,Af,Ag])
     exact aa.p (aa.some ⟨d,rfl,q⟩)
    refine aa.p (aa.p (aa.p (aa.p ?_)));exact aa.test (fun _=>fin 0 (by omega) (by omega)) fun _=>fin 1 (by omega) (by omega)
  obtain⟨o,h,d,rfl,q⟩:=step;exact aZ.next h (Q2 hb ha u h1 hi hm t (k+1) d (by omega) q)
theorem Q3{a b:ByteArray}{m:Nat}(hb:m=b.size+1)(ha:a.size≤100)(hm:m≤1000):∀(t i:Nat) (r0 r1 r2:List (List G)),i+t=a.size+1→(1≤i→fS m (i-1) r2)→(2≤i→fS m (i-2) r1) →
  aZ sO [.l r0,.l r1,.l r2,.s a,.s b,.i ((a.size:Nat)+1:Int),.i (i:Int)] (t+1) fun x g=>x=0∧∃ r0 r1 r2,g=[.l r0,.l r1,.l r2,.s b]∧r2.length=m
 | 0,i,r0,r1,r2,hi,d,h1=>by
  refine aZ.stop (x:=0) (aa.toEq ?_) ⟨rfl,r0,r1,r2,rfl,(d (by omega)).len⟩;unfold sO
  (dsimp +instances only[Aa,Ab,Ac,Ad,Ae,Af,Ag])
  exact aa.n (aa.some rfl)
 | t+1,i,r0,r1,r2,hi,d,h1=>by
  have step:aa (sO [.l r0,.l r1,.l r2,.s a,.s b,.i ((a.size:Nat)+1:Int),.i (i:Int)]) fun o=>∃ row,o=(none,[.l r1,.l r2,.l row,.s a,.s b,.i ((a.size:Nat)+1:Int),.i ((i:Int)+1)])∧fS m i row:=by
   unfold sO
   (dsimp +instances only[Aa,Ab,Ac,Ad,Ae,Af,Ag])
   have k:(((b.size:Nat):Int)+1).toNat=m:=by omega
   simp only[k];refine aa.p (aa.p (aa.p ?_));refine aa.loop ((Q2 hb (by omega) d h1 (by omega) hm m 0 _ (by omega) (fS.zero m i)).to (by omega)) (by(first|rfl|assumption|(simp only[au,sl]<;>omega))) ?_;rintro _ _ ⟨rfl,row,rfl,hr⟩
   (dsimp +instances only[Aa,Ab,Ac,Ad,Ae,Af,Ag])
   exact aa.p (aa.p (aa.some ⟨row,rfl,hr⟩))
  obtain⟨o,h,row,rfl,hr⟩:=step;exact aZ.next h (Q3 hb ha hm t (i+1) r1 r2 row (by omega) (fun _=>hr) (fun h=>d (by omega)))
theorem ae9{a b:ByteArray}(ha:a.size≤100)(hb:b.size≤100):aa (zX [.s a,.s b]) fun g=>∃ v:Int,g=[.i v]:=by
 unfold zX
 (dsimp +instances only[Aa,Ab,Ac,Ad,Ae,Af,Ag])
 refine aa.p ?_;refine aa.loop ((Q3 (m:=b.size+1) rfl ha (by omega) (a.size+1) 0 [] [] [] (by omega) (fun h=>by omega) (fun h=>by omega)).to (by omega)) (by(first|rfl|assumption|(simp only[au,sl]<;>omega))) ?_;rintro _ _ ⟨rfl,r0,r1,r2,rfl,d⟩
 (dsimp +instances only[Aa,Ab,Ac,Ad,Ae,Af,Ag])
 exact aa.p (aa.some ⟨_,rfl⟩)
end
end Go.Proofs.gY
