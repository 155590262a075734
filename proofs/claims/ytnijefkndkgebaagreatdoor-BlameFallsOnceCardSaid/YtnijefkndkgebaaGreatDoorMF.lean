/-
 What is proved here: what the methods of the stream give on data. No condition.
-/
import Derived.Test.YtnijefkndkgebaaGreatDoorML4
import Derived.Test.YtnijefkndkgebaaGreatDoorME
set_option linter.all false
open Bool renaming and_true→fH,and_eq_true→aB,true_and→pM,not_eq_true'→mE,not_true→GS,eq_iff_iff→mH,or_false→G1
open Function renaming comp→GZ
open Go.ByteArray renaming toList_eq→pR
open Go.Lib renaming compareBytes→gv
open Go.Op renaming bytesLess→lz
open Int renaming mul_le_mul→GH,toNat_natCast→a7,tdiv→mI,tmod→iX,tmod_lt_of_pos→agT,tmod_eq_emod_of_nonneg→agU,mul_nonneg→G8,le_refl→sK,le_trans→G_,eq_ofNat_of_zero_le→ag2
open List renaming length_cons→cB,append_nil→cY,append_assoc→gu,length_map→dE,mem_map→dF,getElem?_map→bZ,getElem_of_mem→n3,getElem?_eq_getElem→bI,getElem?_eq_none→ly,getElem?_set_self→bB,getElem?_set→dN,all_eq_true→cO,getD_eq_getElem?_getD→ch,mem_cons→bV,map_cons→dq,cons_append→lC,ext_getElem?→jx,length_set→mA,length_append→fi,mem_append→cS,nil_append→kM,replicate→bM,length_range→sA,mem_cons_self→db,mem_cons_of_mem→df,length_replicate→vK,map_append→j6,nodup_cons→lI,range→dG,mem_append_left→pO,any_eq_true→jy,mem_range→eP,mem_singleton→zZ,length_nil→lK,map_nil→sF,not_mem_nil→od,getElem?_range→sI,getElem_mem→kN,mem_append_right→vS,filter_cons→G2,range_succ→G4,pairwise_map→vV,pairwise_iff_getElem→RL,pairwise_cons→sJ,any_cons→G9,eq_replicate_iff→agX,getElem?_replicate→agY,sum_cons→RQ,foldl_append→agZ,filter_nil→RR,nodup_append→ag0,Nodup→RT,length_singleton→ag4
open List.Pairwise renaming take→ahj
open Nat renaming le_refl→aG,le_trans→mw,zero_le→ef,lt_or_ge→iV,zero_add→cP,beq→ad,ble→dH,blt→fj,ble_eq→z6,beq_refl→vT,exists_eq_add_of_le→agW,le_succ_of_le→RS,lt_trichotomy→ag1,le_of_not_lt→ag3
open Option renaming map_some→eF,getD_some→lH
open UInt8 renaming le_antisymm→RO,not_lt→vY,lt_irrefl→RP,lt_trans→agV
namespace Go.Proofs.iz
open Go Go.AL Go.Proofs
noncomputable section
theorem FI(x n:Int)(h0:1≤n)(h1:n≤1099511627776):aa (rB [.i x,.i n]) fun g=>∃ v,g=[.i v]∧0≤v∧v<n:=by
 unfold rB
 (dsimp +instances only[Aa,Ab,Ac,Ad,Ae,Af,Ag])
 have ha:=agT x (by omega:0<n);have hb:=Int.lt_tmod_of_pos x (by omega:0<n)
 (repeat first|refine aa.p ?_|refine aa.n ?_)
 refine aa.test (fun h=>?_) fun h=>?_
 ·simp only [dV, decide_eq_true_eq] at h
  (repeat first|refine aa.p ?_|refine aa.n ?_)
  exact aa.some ⟨_,rfl,by omega,by omega⟩
 ·simp only [dV, decide_eq_false_iff_not] at h
  exact aa.some ⟨_,rfl,by omega,by omega⟩
theorem vn(l:List (List G))(a n:Int)(ha:0≤a)(J:a≤1000000)(h0:1≤n)(h1:n≤1099511627776) :
  aa (nK [.l l,.i a,.i n]) fun g=>∃ v,g=[.l l,.i (a+1),.i v]∧0≤v∧v<n:=by
 unfold nK
 (dsimp +instances only[Aa,Ab,Ac,Ad,Ae,Af,Ag])
 have y:a+1-1=a:=by omega
 simp only[y];by_cases M:l.length=0
 ·(repeat first|refine aa.p ?_|refine aa.n ?_)
  refine aa.call (FI _ n h0 h1) ?_;rintro _ ⟨v,rfl,d,h⟩
  (dsimp +instances only[Aa,Ab,Ac,Ad,Ae,Af,Ag])
  exact aa.some ⟨v,rfl,d,h⟩
 ·have B : (0 : Int) < (l.length : Int) := by omega
  have d0:0≤mI a l.length:=Int.tdiv_nonneg ha (by omega);have d1:mI a l.length≤a:=by
   rw[Int.tdiv_eq_ediv_of_nonneg ha];exact Int.ediv_le_self _ ha
  have m0:0≤iX a l.length:=by
   rw[agU ha];exact Int.emod_nonneg _ (by omega)
  have m1:iX a l.length<l.length:=agT a B;have m2:iX a l.length≤a:=by
   rw[agU ha];have:=Int.mul_ediv_add_emod a l.length;have k:0≤(l.length:Int)*(a / l.length):=G8 (by omega) (Int.ediv_nonneg ha (by omega));omega
  generalize N:mI a l.length=q at *;generalize O:iX a l.length=r at *;have p0:0≤q*(7919+r):=G8 d0 (by omega);have p1:q*(7919+r)≤1000000*2000000:=GH (by omega) (by omega) (by omega) (by omega);generalize U:q*(7919+r)=z at *
  (repeat first|refine aa.p ?_|refine aa.n ?_)
  refine aa.call (FI _ 1073741824 (by omega) (by omega)) ?_;rintro _ ⟨u,rfl,d,h⟩
  (dsimp +instances only[Aa,Ab,Ac,Ad,Ae,Af,Ag])
  (repeat first|refine aa.p ?_|refine aa.n ?_)
  refine aa.call (FI _ n h0 h1) ?_;rintro _ ⟨v,rfl,k,I⟩
  (dsimp +instances only[Aa,Ab,Ac,Ad,Ae,Af,Ag])
  exact aa.some ⟨v,rfl,k,I⟩
theorem zn(l:List (List G))(a lo hi:Int)(ha:0≤a)(d:a≤1000000)(h0:lo≤hi)(h1 : -1000000000≤lo)(h:hi≤1000000000) :
  aa (po [.l l,.i a,.i lo,.i hi]) fun g=>∃ v,g=[.l l,.i (a+1),.i v]∧lo≤v∧v≤hi:=by
 unfold po
 (dsimp +instances only[Aa,Ab,Ac,Ad,Ae,Af,Ag])
 (repeat first|refine aa.p ?_|refine aa.n ?_)
 refine aa.call (vn l a _ ha d (by omega) (by omega)) ?_;rintro _ ⟨v,rfl,k,q⟩
 (dsimp +instances only[Aa,Ab,Ac,Ad,Ae,Af,Ag])
 (repeat first|refine aa.p ?_|refine aa.n ?_)
 exact aa.some ⟨_,rfl,by omega,by omega⟩
theorem P1{l:List (List G)}{v:Int}(h0:0≤v)(h1:v<l.length):l.getD v.toNat []∈l:=by
 have:v.toNat<l.length:=by omega
 rw[ch,bI this];exact kN this
theorem aeq(P:Int→Prop)(l:List (List G))(a:Int)(xs:List (List G))(ha:0≤a)(d:a≤1000000)(h0:1≤xs.length)(h1:xs.length≤1000000)(h:∀ x∈xs,P (gi x 0).int) :
  aa (pq [.l l,.i a,.l xs]) fun g=>∃ v,g=[.l l,.i (a+1),.i v]∧P v:=by
 unfold pq
 (dsimp +instances only[Aa,Ab,Ac,Ad,Ae,Af,Ag])
 refine aa.call (vn l a _ ha d (by omega) (by omega)) ?_;rintro _ ⟨v,rfl,k,q⟩
 (dsimp +instances only[Aa,Ab,Ac,Ad,Ae,Af,Ag])
 (repeat first|refine aa.p ?_|refine aa.n ?_)
 exact aa.some ⟨_,rfl,h _ (P1 k q)⟩
theorem aer(P:ByteArray→Prop)(l:List (List G))(a:Int)(xs:List (List G))(ha:0≤a)(d:a≤1000000)(h0:1≤xs.length)(h1:xs.length≤1000000)(h:∀ x∈xs,P (gi x 0).str) :
  aa (ll [.l l,.i a,.l xs]) fun g=>∃ v,g=[.l l,.i (a+1),.s v]∧P v:=by
 unfold ll
 (dsimp +instances only[Aa,Ab,Ac,Ad,Ae,Af,Ag])
 refine aa.call (vn l a _ ha d (by omega) (by omega)) ?_;rintro _ ⟨v,rfl,k,q⟩
 (dsimp +instances only[Aa,Ab,Ac,Ad,Ae,Af,Ag])
 (repeat first|refine aa.p ?_|refine aa.n ?_)
 exact aa.some ⟨_,rfl,h _ (P1 k q)⟩
theorem aes(l:List (List G))(a n:Int)(ha:0≤a)(d:a≤1000000)(h0:1≤n)(h1:n≤1000000) :
  aa (yN [.l l,.i a,.i n]) fun g=>∃ b,g=[.l l,.i (a+1),.t b]:=by
 unfold yN
 (dsimp +instances only[Aa,Ab,Ac,Ad,Ae,Af,Ag])
 refine aa.call (vn l a _ ha d (by omega) (by omega)) ?_;rintro _ ⟨v,rfl,h,k⟩;exact aa.some ⟨_,rfl⟩
def jT(L:List ByteArray)(s:ByteArray):Bool:=L.any fun x=>nI x s
theorem zo{L:List ByteArray}{s:ByteArray}(h:jT L s=true):s∈L:=by
 obtain⟨x,d,he⟩:=jy.1 h;exact Lm he▸d
theorem FJ(lo hi:Int)(l:List (List G))(a:Int)(xs:List (List G))(ha:0≤a)(d:a≤1000000)(h0:(dH 1 xs.length&&dH xs.length 1000000)=true) (h:(xs.all fun x=>a8 lo (gi x 0).int&&a8 (gi x 0).int hi)=true) :
  aa (pq [.l l,.i a,.l xs]) fun g=>∃ v,g=[.l l,.i (a+1),.i v]∧lo≤v∧v≤hi:=by
 simp only[aB,z6]at h0;refine aeq (fun v=>lo≤v∧v≤hi) l a xs ha d h0.1 h0.2 fun x k=>?_;have:=cO.1 h x k;simpa only[eT,aB,decide_eq_true_eq]using this
theorem r7(L:List ByteArray)(l:List (List G))(a:Int)(xs:List (List G))(ha:0≤a)(d:a≤1000000)(h0:(dH 1 xs.length&&dH xs.length 1000000)=true) (h:(xs.all fun x=>jT L (gi x 0).str)=true) :
  aa (ll [.l l,.i a,.l xs]) fun g=>∃ v,g=[.l l,.i (a+1),.s v]∧v∈L:=by
 simp only[aB,z6]at h0;exact aer (fun v=>v∈L) l a xs ha d h0.1 h0.2 fun x k=>zo (cO.1 h x k)
def calls:List ByteArray:=[⟨#[]⟩,⟨#[107,49]⟩,⟨#[75,49,65,66]⟩,⟨#[107,49,97,98,47]⟩,⟨#[49,97]⟩,⟨#[107,49,97,98,47,109,109,47,112]⟩,⟨#[107,49,97,98]⟩,⟨#[107,49,97,97]⟩,⟨#[107,49,97,98,47,52]⟩,
 ⟨#[111,104,50,97,98,99]⟩,⟨#[111,104,50,97,98,100]⟩,⟨#[119,49,97,119]⟩,⟨#[110,49,109,109]⟩,⟨#[103,51,120,121,122,47,112]⟩,⟨#[119,49,97,120]⟩]
def kG:List ByteArray:=[⟨#[]⟩,⟨#[66]⟩,⟨#[98,50,48]⟩,⟨#[98,52,48]⟩]
def names:List ByteArray:=[⟨#[]⟩,⟨#[65]⟩,⟨#[49]⟩,⟨#[102,105,110]⟩,⟨#[117,115,97]⟩,⟨#[120]⟩]
def small(n:Int):Prop := -2000000000000≤n∧n≤2000000000000
def dC(r:List G):Prop:=∃(t m:Int) (b c:ByteArray) (s h:Int) (x y:ByteArray),r=[.i t,.i m,.s b,.s c,.i s,.i h,.s x,.s y]∧small t∧small m∧small s∧small h∧b∈kG∧c∈calls∧x∈names∧y∈names
def tight(n:Int):Prop := -1900000000000≤n∧n≤1900000000000
def zp(n:Int):Prop := -1900000000000≤n∧(n≤345000000000∨(345686399999<n∧n≤1900000000000))
def P2(r:List G):Prop:=∃(t m:Int) (b c:ByteArray) (s h:Int) (x y:ByteArray),r=[.i t,.i m,.s b,.s c,.i s,.i h,.s x,.s y]∧zp t∧tight m∧tight s∧tight h∧b∈kG∧c∈calls∧x∈names∧y∈names
theorem tight.to{n:Int}(h:tight n):small n:=⟨by have:=h.1; omega,by have:=h.2; omega⟩
theorem zp.to{n:Int}(h:zp n):small n:=by
 unfold zp at h;exact⟨by omega,by omega⟩
theorem P2.to{r:List G}(h:P2 r):dC r:=by
 obtain⟨t,m,b,c,s,h,x,y,e,h1,d,g,k,q⟩:=h;exact⟨t,m,b,c,s,h,x,y,e,h1.to,d.to,g.to,k.to,q⟩
theorem dC.eta{r:List G}(h:dC r):aI [.int .i64,.int .i64,.str,.str,.int .i64,.int .i64,.str,.str] r=r:=by
 obtain⟨t,m,b,c,s,h,x,y,rfl,_⟩:=h;rfl
def gl(a b:Int):Int:=if a<b then -1 else if b<a then 1 else 0
theorem P3:∀{a b:List UInt8},gv a b=0→a=b
 | [],[],_=>rfl
 | [],_::_,h=>by simp[gv]at h
 |_::_,[],h=>by simp[gv]at h
 | x::a,y::b,h=>by
  unfold gv at h;split at h
  ·cases h
  ·split at h
   ·cases h
   ·rename_i h1 d
    rw[P3 h,RO (vY.1 d) (vY.1 h1)]
theorem P4:∀ a:List UInt8,gv a a=0
 | []=>rfl
 |x::a=>by simp[gv,P4 a]
theorem FL(a b:ByteArray):(a.toList==b.toList)=decide (dQ a b=0):=by
 rw[pR,pR,mH,decide_eq_true_eq,beq_iff_eq];constructor
 ·intro h
  unfold dQ;rw[h];exact P4 _
 ·exact fun h=>P3 h
def vo(a b c d:Int):Int:=if a≠0 then a else if b≠0 then b else if c≠0 then c else d
def fG(r s:List G):Int:=vo (gl (gi r 0).int (gi s 0).int) (dQ (gi r 3).str (gi s 3).str) (dQ (gi r 2).str (gi s 2).str) (gl (gi r 1).int (gi s 1).int)
theorem sign_eq(a b:Int):uO [.i (a-b)]=some [.i (gl a b)]:=by
 refine aa.toEq ?_;unfold uO gl
 (dsimp +instances only[Aa,Ab,Ac,Ad,Ae,Af,Ag])
 by_cases h1:a<b
 ·(repeat first|refine aa.p ?_|refine aa.n ?_)
  exact aa.some (by simp[h1])
 ·by_cases d : b < a
  ·(repeat first|refine aa.p ?_|refine aa.n ?_)
   exact aa.some (by simp[h1,d])
  ·(repeat first|refine aa.p ?_|refine aa.n ?_)
   exact aa.some (by simp[h1,d])
theorem FM{r s:List G}(q:dC r)(u:dC s):pr [.l [r],.l [s]]=some [.i (fG r s)]:=by
 obtain⟨t,m,b,c,_,_,_,_,rfl,I,hm,_⟩:=q;obtain⟨t',m',d,g,_,_,_,_,rfl,y,B,_⟩:=u;unfold small at *;refine aa.toEq ?_;unfold pr fG vo
 (dsimp +instances only[Aa,Ab,Ac,Ad,Ae,Af,Ag])
 simp only[FL];by_cases v:t=t'
 ·subst v
  have z:gl t t=0:=by simp[gl]
  simp only[z]
  (repeat first|refine aa.p ?_|refine aa.n ?_)
  by_cases h:dQ c g=0
  ·simp only [h]
   (repeat first|refine aa.p ?_|refine aa.n ?_)
   by_cases k:dQ b d=0
   ·simp only [k]
    (repeat first|refine aa.p ?_|refine aa.n ?_)
    refine aa.cE (sign_eq m m') ?_
    (dsimp +instances only[Aa,Ab,Ac,Ad,Ae,Af,Ag])
    exact aa.some (by simp)
   ·refine aa.pos (by simpa using k) (aa.call (aa.eq (rfl : hG [.s b, .s d] = some [.i (dQ b d)])) ?_)
    rintro _ rfl
    (dsimp +instances only[Aa,Ab,Ac,Ad,Ae,Af,Ag])
    exact aa.some (by simp[k])
  ·refine aa.pos (by simpa using h) (aa.call (aa.eq (rfl : hG [.s c, .s g] = some [.i (dQ c g)])) ?_)
   rintro _ rfl
   (dsimp +instances only[Aa,Ab,Ac,Ad,Ae,Af,Ag])
   exact aa.some (by simp[h])
 ·(repeat first|refine aa.p ?_|refine aa.n ?_)
  refine aa.cE (sign_eq t t') ?_
  (dsimp +instances only[Aa,Ab,Ac,Ad,Ae,Af,Ag])
  have z:gl t t'≠0:=by
   unfold gl;split
   ·omega
   ·split<;>omega
  exact aa.some (by simp[z])
theorem P5(a b:Int):ru [.i a,.i b]=some [.i (gl a b)]:=by
 refine aa.toEq ?_;unfold ru yF gl
 (dsimp +instances only[Aa,Ab,Ac,Ad,Ae,Af,Ag])
 simp only[bne_self_eq_false];refine aa.call ⟨_,rfl,rfl⟩ ?_;rintro _ rfl;refine aa.call ⟨_,rfl,rfl⟩ ?_;rintro _ rfl
 (dsimp +instances only[Aa,Ab,Ac,Ad,Ae,Af,Ag])
 (repeat first|refine aa.p ?_|refine aa.n ?_)
 by_cases h1:a<b
 ·(repeat first|refine aa.p ?_|refine aa.n ?_)
  exact aa.some (by simp[h1])
 ·by_cases d : b < a
  ·(repeat first|refine aa.p ?_|refine aa.n ?_)
   exact aa.some (by simp[h1,d])
  ·(repeat first|refine aa.p ?_|refine aa.n ?_)
   exact aa.some (by simp[h1,d])
def nP:List (List G)→Int
 | []=>0
 |x::q=>if (gi x 0).int≠0 then (gi x 0).int else nP q
theorem P6:∀(q p:List (List G)),p.length+q.length<100000 →
  aV ry [.i 0,.l (p++q),.i ((p.length+q.length:Nat):Int),.i (p.length:Int)] (q.length+1) fun c g=>c≤1∧g=[.i (nP q)]
 | [],p,d=>by
  refine aV.stop (x:=1) (aa.toEq ?_) ⟨by omega,rfl⟩;unfold ry
  (dsimp +instances only[Aa,Ab,Ac,Ad,Ae,Af,Ag])
  (repeat first|refine aa.p ?_|refine aa.n ?_)
  exact aa.some rfl
 | y::q,p,d=>by
  simp only[cB]at d;have g1:(p++y::q).getD (p.length:Int).toNat []=y:=jS _ _ _ _ _ (by simp);have hlen:(p++y::q).length=p.length+q.length+1:=by simp; omega
  by_cases he:(gi y 0).int=0
  ·have h := P6 q (p ++ [y]) (by simp; omega)
   have e:nP (y::q)=nP q:=by simp[nP,he]
   rw[e];refine aV.next (aa.toEq ?_) h
   unfold ry
   (dsimp +instances only[Aa,Ab,Ac,Ad,Ae,Af,Ag])
   simp only[g1,hlen,cB]
   (repeat first|refine aa.p ?_|refine aa.n ?_)
   refine aa.some ?_;simp;omega
  ·refine aV.stop (x := 0) (aa.toEq ?_) ⟨by omega, rfl⟩
   unfold ry
   (dsimp +instances only[Aa,Ab,Ac,Ad,Ae,Af,Ag])
   simp only[g1,hlen,cB]
   (repeat first|refine aa.p ?_|refine aa.n ?_)
   refine aa.some ?_;simp[nP,he]
theorem or_eq(a b c d:Int):pn [.l [[.i a],[.i b],[.i c],[.i d]]]=some [.i (vo a b c d)]:=by
 refine aa.toEq ?_;unfold pn
 (dsimp +instances only[Aa,Ab,Ac,Ad,Ae,Af,Ag])
 have h:=P6 [[.i a],[.i b],[.i c],[.i d]] [] (by simp);refine aa.loop (h.to (by simp)) (by(first|rfl|assumption|(simp only[aq,sl]<;>omega))) ?_;rintro x g ⟨v,rfl⟩;have e:nP [[.i a],[.i b],[.i c],[.i d]]=vo a b c d:=by
  simp only[nP,vo]
  (dsimp +instances only[Aa,Ab,Ac,Ad,Ae,Af,Ag])
  by_cases h1:a=0<;>by_cases k:b=0<;>by_cases q:c=0<;>by_cases u:d=0<;>simp[h1,k,q,u]
 rw[e]
 (dsimp +instances only[Aa,Ab,Ac,Ad,Ae,Af,Ag])
 exact aa.test (fun _=>aa.some rfl) fun _=>aa.some rfl
theorem aet{r s:List G}(h:dC r)(k:dC s):yG [.l [r],.l [s]]=some [.i (fG r s)]:=by
 obtain⟨t,m,b,c,_,_,_,_,rfl,v,hm,_⟩:=h;obtain⟨t',m',d,g,_,_,_,_,rfl,q,u,_⟩:=k;refine aa.toEq ?_;unfold yG
 (dsimp +instances only[Aa,Ab,Ac,Ad,Ae,Af,Ag])
 refine aa.cE (P5 t t') ?_;refine aa.cE (rfl:hG [.s c,.s g]=some [.i (dQ c g)]) ?_;refine aa.cE (rfl:hG [.s b,.s d]=some [.i (dQ b d)]) ?_;refine aa.cE (P5 m m') ?_
 (dsimp +instances only[Aa,Ab,Ac,Ad,Ae,Af,Ag])
 refine aa.cE (or_eq _ _ _ _) ?_;exact aa.some rfl
theorem aeu:rh [.int .i64,.int .i64,.str,.str,.int .i64,.int .i64,.str,.str] pr dC fG:=⟨fun _ _ d g=>FM d g,fun _ h=>h.eta⟩
def eC(v lo hi:Int):Bool:=a8 lo v&&a8 v hi
theorem aev(v lo hi:Int):nM [.i v,.i lo,.i hi]=some [.t (eC v lo hi)]:=by
 unfold nM eC
 (dsimp +instances only[Aa,Ab,Ac,Ad,Ae,Af,Ag])
 cases a8 lo v<;>rfl
theorem r8(v lo hi:Int):lk [.i v,.i lo,.i hi]=some [.t (!eC v lo hi)]:=by
 unfold lk eC
 (dsimp +instances only[Aa,Ab,Ac,Ad,Ae,Af,Ag])
 have h1:al v lo = !a8 lo v:=by rw[dV,eT,mH]; simp
 have d:al hi v = !a8 v hi:=by rw[dV,eT,mH]; simp
 rw[h1,d];cases a8 lo v<;>cases a8 v hi<;>rfl
def lp(s:ByteArray):Bool:=jT [⟨#[98,50,48]⟩,⟨#[98,52,48]⟩,⟨#[102,105,110]⟩,⟨#[117,115,97]⟩,⟨#[120]⟩] s
def lq(s:ByteArray):Bool:=jT [⟨#[]⟩] s||lp s
def jU(s:ByteArray):Bool:=(gi ((rr [.s s]).getD []) 0).bool
theorem aew{s:ByteArray}(h:s∈kG∨s∈names):rq [.s s]=some [.t (lp s)]:=by
 simp only[kG,names,bV,od,or_false]at h;rcases h with(rfl|rfl|rfl|rfl)|(rfl|rfl|rfl|rfl|rfl|rfl)<;>kernel_rfl
theorem FN{s:ByteArray}(h:s∈kG∨s∈names):rG [.s s]=some [.t (lp s)]:=by
 simp only[kG,names,bV,od,or_false]at h;rcases h with(rfl|rfl|rfl|rfl)|(rfl|rfl|rfl|rfl|rfl|rfl)<;>kernel_rfl
theorem P7{s:ByteArray}(h:s∈names):yD [.s s]=some [.t (lq s)]:=by
 simp only[names,bV,od,or_false]at h;rcases h with(rfl|rfl|rfl|rfl|rfl|rfl)<;>kernel_rfl
theorem P8{s:ByteArray}(h:s∈calls):rr [.s s]=some [.t (jU s)]:=by
 simp only[calls,bV,od,or_false]at h;rcases h with(rfl|rfl|rfl|rfl|rfl|rfl|rfl|rfl|rfl|rfl|rfl|rfl|rfl|rfl|rfl)<;>kernel_rfl
theorem FO{s:ByteArray}(h:s∈calls):uS [.s s]=some [.t (jU s)]:=by
 simp only[calls,bV,od,or_false]at h;rcases h with(rfl|rfl|rfl|rfl|rfl|rfl|rfl|rfl|rfl|rfl|rfl|rfl|rfl|rfl|rfl)<;>kernel_rfl
def gn(r:List G):Int :=
 bif !eC (gi r 0).int 0 345686399999 then 1 else bif !eC (gi r 1).int 1 3 then 4 else bif !lp (gi r 2).str then 5 else bif !jU (gi r 3).str then 3 else
 bif !eC (gi r 4).int 0 99999 then 1 else bif !eC (gi r 5).int 0 99999 then 1 else bif !lq (gi r 6).str then 5 else bif !lq (gi r 7).str then 5 else 0
theorem aex{r:List G}(d:dC r):yE [.l [r]]=some [.i (gn r)]:=by
 obtain⟨t,m,b,c,s,h,x,y,rfl,_,_,_,_,hb,g,k,q⟩:=d;unfold yE CS CU gn
 (dsimp +instances only[Aa,Ab,Ac,Ad,Ae,Af,Ag])
 have u:=aew (.inl hb);have v:=P7 k;have B:=P7 q;have I:=P8 g;rw[r8 t,r8 m];rw[u,I,r8 s,r8 h,v,B];generalize eC t 0 345686399999=b1;generalize eC m 1 3=J;generalize lp b=M;generalize jU c=N;generalize eC s 0 99999=O;generalize eC h 0 99999=U;generalize lq x=V;generalize lq y=W;cases b1<;>cases J<;>cases M<;>cases N<;>cases O<;>cases U<;>cases V<;>cases W<;>rfl
theorem empty_eq(s:ByteArray):(s.toList==(⟨#[]⟩:ByteArray).toList)=jT [⟨#[]⟩] s:=by
 rw[pR,pR];simp only[jT,nI,G9,List.any_nil,G1];rw[mH];simp only[beq_iff_eq];exact eq_comm
theorem aey{r:List G}(k:dC r):yR [.l [r]]=some [.i (gn r)]:=by
 obtain⟨t,m,b,c,s,h,x,y,rfl,_,_,_,_,hb,q,u,v⟩:=k;unfold yR D5 gn lq
 (dsimp +instances only[Aa,Ab,Ac,Ad,Ae,Af,Ag])
 have B:=FN (.inl hb);have I:=FN (.inr u);have J:=FN (.inr v);have M:=FO q;have ex:=empty_eq x;have d:=empty_eq y;generalize (⟨#[]⟩:ByteArray)=z at ex d⊢;simp only[aev,VC rfl,B,M,I,J]
 (dsimp +instances only[Aa,Ab,Ac,Ad,Ae,Af,Ag])
 rw[ex,d];generalize eC t 0 345686399999=b1;generalize eC m 1 3=N;generalize lp b=O;generalize jU c=U;generalize eC s 0 99999=V;generalize eC h 0 99999=W;generalize lp x=b7;generalize lp y=b8;generalize jT [z] x=b9;generalize jT [z] y=g;cases b1<;>cases N<;>cases O<;>cases U<;>cases V<;>cases W<;>cases b7<;>cases b8<;>cases b9<;>cases g<;>rfl
def pA(K:List Kd)(C D:List G→Option (List G))(d:List G):Option (Option Nat × List G) :=
 (bif (al (gi d 3).int (gi d 2).int) then (bif ((az (gi d 3).int)&&(al (gi d 3).int (((gi d 1).rows.length:Nat):Int))) then (aw (C [.l [(aI K ((gi d 1).rows.getD (((gi d 3).int).toNat) []))]]) fun g1=>(bif ((gi g1 0).int != 0) then some (some 0,[.i (gi g1 0).int]) else (bif (al 0 (gi d 3).int) then (bif (aq ((gi d 3).int-1)) then (bif ((az ((gi d 3).int-1))&&(al ((gi d 3).int-1) (((gi d 0).rows.length:Nat):Int))) then (aw (D [.l [(aI K ((gi d 0).rows.getD (((gi d 3).int-1).toNat) []))],.l [(aI K ((gi d 1).rows.getD (((gi d 3).int).toNat) []))]]) fun g2=>(bif (a8 0 (gi g2 0).int) then some (some 0,[.i 7]) else (bif (aq ((gi d 3).int+1)) then some (none,[.l (gi d 0).rows,.l (gi d 1).rows,.i (gi d 2).int,.i ((gi d 3).int+1)]) else none))) else none) else none) else (bif (aq ((gi d 3).int+1)) then some (none,[.l (gi d 0).rows,.l (gi d 1).rows,.i (gi d 2).int,.i ((gi d 3).int+1)]) else none)))) else none) else some (some 1,[]))
def P9(K:List Kd)(C D:List G→Option (List G))(d:List G):Option (List G) :=
 (bif (al 2000 (((gi d 0).rows.length:Nat):Int)) then some [.i 2] else (aO true (bQ (pA K C D) [.l (gi d 0).rows,.l (gi d 0).rows,.i (((gi d 0).rows.length:Nat):Int),.i 0]) fun g g3=>(bif ad g 0 then some [.i (gi g3 0).int] else some [.i 0])))
def gp:Option (List G)→List (List G)→Int
 |_,[]=>0
 |none,x::q=>if gn x≠0 then gn x else gp (some x) q
 |some y,x::q=>if gn x≠0 then gn x else if 0≤fG y x then 7 else gp (some x) q
def jV(l:List (List G)):Int:=if 2000<l.length then 2 else gp none l
section
variable {C D:List G→Option (List G)} (hC:∀ r,dC r→C [.l [r]]=some [.i (gn r)]) (hD:∀ r s,dC r→dC s→D [.l [r],.l [s]]=some [.i (fG r s)])
include hC hD
theorem P_:∀(q p:List (List G)),(∀ z∈p++q,dC z)→p.length+q.length<100000 →
  aV (pA [.int .i64,.int .i64,.str,.str,.int .i64,.int .i64,.str,.str] C D) [.l (p++q),.l (p++q),.i ((p.length+q.length:Nat):Int),.i (p.length:Int)] (q.length+1) fun c g=>(c=0∧g=[.i (gp p.getLast? q)])∨c=1∧gp p.getLast? q=0
 | [],p,u,I=>by
  refine aV.stop (x:=1) (d':=[]) (aa.toEq ?_) (.inr ⟨rfl,by unfold gp; rfl⟩);unfold pA
  (dsimp +instances only[Aa,Ab,Ac,Ad,Ae,Af,Ag])
  (repeat first|refine aa.p ?_|refine aa.n ?_)
  exact aa.some rfl
 | x::q,p,u,I=>by
  simp only[cB]at I;have d:dC x:=u x (by simp);have g1:(p++x::q).getD (p.length:Int).toNat []=x:=jS _ _ _ _ _ (by simp);have hlen:(p++x::q).length=p.length+q.length+1:=by simp; omega
  by_cases h:gn x=0
  ·have B := P_ q (p ++ [x]) (by simpa using u) (by simp; omega)
   rw[List.getLast?_concat]at B;rcases List.eq_nil_or_concat p with rfl|⟨k,y,rfl⟩
   ·have e : gp ([] : List (List G)).getLast? (x :: q) = gp (some x) q := by simp [gp, h]
    rw[e];refine aV.next (aa.toEq ?_) B
    unfold pA
    (dsimp +instances only[Aa,Ab,Ac,Ad,Ae,Af,Ag])
    simp only[g1,hlen,cB,d.eta]
    (repeat first|refine aa.p ?_|refine aa.n ?_)
    refine aa.cE (hC x d) ?_
    (dsimp +instances only[Aa,Ab,Ac,Ad,Ae,Af,Ag])
    simp only[h]
    (repeat first|refine aa.p ?_|refine aa.n ?_)
    refine aa.some ?_;simp;omega
   ·rw [List.concat_eq_append] at *
    have v:dC y:=u y (by simp);have g2:((k++[y])++x::q).getD (((k++[y]).length:Int)-1).toNat []=y:=by
     have e:(k++[y])++x::q=k++y::x::q:=by simp
     rw[e]; exact jS _ _ _ _ _ (by simp)
    have M:(k++[y]).length=k.length+1:=by simp
    have J:(k++[y]).getLast? = some y:=by simp
    rw[J];by_cases ho:0≤fG y x
    ·refine aV.stop (x := 0) (d' := [.i 7]) (aa.toEq ?_) (.inl ⟨rfl, by simp [gp, h, ho]⟩)
     unfold pA
     (dsimp +instances only[Aa,Ab,Ac,Ad,Ae,Af,Ag])
     simp only[g1,g2,hlen,cB,d.eta,v.eta]
     (repeat first|refine aa.p ?_|refine aa.n ?_)
     refine aa.cE (hC x d) ?_
     (dsimp +instances only[Aa,Ab,Ac,Ad,Ae,Af,Ag])
     simp only[h]
     (repeat first|refine aa.p ?_|refine aa.n ?_)
     refine aa.cE (hD y x v d) ?_
     (dsimp +instances only[Aa,Ab,Ac,Ad,Ae,Af,Ag])
     (repeat first|refine aa.p ?_|refine aa.n ?_)
     exact aa.some rfl
    ·have e : gp (some y) (x :: q) = gp (some x) q := by simp [gp, h, ho]
     rw[e];refine aV.next (aa.toEq ?_) B
     unfold pA
     (dsimp +instances only[Aa,Ab,Ac,Ad,Ae,Af,Ag])
     simp only[g1,g2,hlen,cB,d.eta,v.eta]
     (repeat first|refine aa.p ?_|refine aa.n ?_)
     refine aa.cE (hC x d) ?_
     (dsimp +instances only[Aa,Ab,Ac,Ad,Ae,Af,Ag])
     simp only[h]
     (repeat first|refine aa.p ?_|refine aa.n ?_)
     refine aa.cE (hD y x v d) ?_
     (dsimp +instances only[Aa,Ab,Ac,Ad,Ae,Af,Ag])
     (repeat first|refine aa.p ?_|refine aa.n ?_)
     refine aa.some ?_;simp;omega
  ·refine aV.stop (x := 0) (d' := [.i (gn x)]) (aa.toEq ?_) (.inl ⟨rfl, by cases N : p.getLast? <;> simp [gp, h]⟩)
   unfold pA
   (dsimp +instances only[Aa,Ab,Ac,Ad,Ae,Af,Ag])
   simp only[g1,hlen,cB,d.eta]
   (repeat first|refine aa.p ?_|refine aa.n ?_)
   refine aa.cE (hC x d) ?_
   (dsimp +instances only[Aa,Ab,Ac,Ad,Ae,Af,Ag])
   refine aa.pos (by simpa using h) (aa.some rfl)
theorem P'(l:List (List G))(d:∀ z∈l,dC z)(k:l.length<100000):P9 [.int .i64,.int .i64,.str,.str,.int .i64,.int .i64,.str,.str] C D [.l l]=some [.i (jV l)]:=by
 refine aa.toEq ?_;unfold P9 jV
 (dsimp +instances only[Aa,Ab,Ac,Ad,Ae,Af,Ag])
 by_cases h:2000<l.length
 ·(repeat first|refine aa.p ?_|refine aa.n ?_)
  exact aa.some (by simp[h])
 ·(repeat first|refine aa.p ?_|refine aa.n ?_)
  have h1:=P_ hC hD l [] (by simpa using d) (by simpa using k);have h0:((0:Nat):Int)=0:=rfl;simp only[kM,lK,cP,h0]at h1;refine aa.loop (h1.to (by omega)) (by(first|rfl|assumption|(simp only[aq,sl]<;>omega))) ?_;rintro c g (⟨rfl,rfl⟩|⟨rfl,q⟩)
  ·(dsimp +instances only [Aa,Ab,Ac,Ad,Ae,Af,Ag])
   (repeat first|refine aa.p ?_|refine aa.n ?_)
   refine aa.some ?_;rw[if_neg h];rfl
  ·(repeat first|refine aa.p ?_|refine aa.n ?_)
   refine aa.some ?_;rw[if_neg h];exact congrArg (fun z=>[G.i z]) q.symm
end
theorem aez(l:List (List G))(d:∀ z∈l,dC z)(g:l.length<100000):yH [.l l]=some [.i (jV l)] :=
 P' (fun _ h=>aex h) (fun _ _ h h'=>aet h h') l d g
theorem aeA(l:List (List G))(d:∀ z∈l,dC z)(g:l.length<100000):Ec [.l l]=some [.i (jV l)] :=
 P' (fun _ h=>aey h) (fun _ _ h h'=>FM h h') l d g
end
end Go.Proofs.iz

namespace Go.Proofs.iz
open Go Go.AL Go.Proofs
noncomputable section
theorem Qa:∀ a b:List UInt8,gv b a = - gv a b
 | [],[]=>rfl
 | [],_::_=>rfl
 |_::_,[]=>rfl
 | a::xs,b::g=>by
  simp only[gv];have k:=Qa xs g;by_cases h1:a<b
  ·have d : ¬ b < a := fun h => RP a (agV h1 h)
   simp[h1,d]
  ·by_cases d : b < a
   ·simp[h1,d]
   ·simp[h1,d,k]
theorem Qb:∀{a b c:List UInt8},gv a b<0→gv b c<0→gv a c<0
 | [],[],_,h,_=>by simp[gv]at h
 | [],_::_,[],_,h=>by simp[gv]at h
 | [],_::_,_::_,_,_=>by simp[gv]
 |_::_,[],_,h,_=>by simp[gv]at h
 |_::_,_::_,[],_,h=>by simp[gv]at h
 | a::xs,b::B,c::I,h1,d=>by
  simp only[gv]at h1 d⊢;by_cases g:a<b
  ·by_cases k : b < c
   ·rw [if_pos (agV g k)]
    omega
   ·by_cases u : c < b
    ·rw [if_neg k, if_pos u] at d
     omega
    ·have e : b = c := RO (vY.1 u) (vY.1 k)
     subst e;rw[if_pos g];omega
  ·by_cases v : b < a
   ·rw [if_neg g, if_pos v] at h1
    omega
   ·have e : a = b := RO (vY.1 v) (vY.1 g)
    subst e;rw[if_neg (RP a),if_neg (RP a)]at h1;by_cases q:a<c
    ·rw [if_pos q]
     omega
    ·by_cases y : c < a
     ·rw [if_neg q, if_pos y] at d
      omega
     ·rw [if_neg q, if_neg y] at d ⊢
      exact Qb h1 d
theorem aeB{a b:ByteArray}(h:(a.toList==b.toList)=true):a=b:=by
 rw[pR,pR,beq_iff_eq]at h;exact ByteArray.ext (Array.toList_inj.1 h)
theorem pB{a b:ByteArray}:dQ a b=0↔a=b:=by
 have h:=FL a b;constructor
 ·intro e
  rw[decide_eq_true (p:=dQ a b=0) e]at h;exact aeB h
 ·rintro rfl
  have d:(a.toList==a.toList)=true:=by simp
  rw[d]at h;exact of_decide_eq_true h.symm
theorem aeC{a b:Int}:gl a b=0↔a=b:=by
 unfold gl;constructor
 ·intro h
  split at h
  ·omega
  ·split at h<;>omega
 ·rintro rfl
  simp
theorem r9{a b:Int}:gl a b<0↔a<b:=by
 unfold gl;constructor
 ·intro h
  split at h
  ·assumption
  ·split at h<;>omega
 ·intro h
  rw[if_pos h];omega
theorem zq(a b:ByteArray):(a.toList==b.toList)=decide (a=b):=by
 rw[FL,mH,decide_eq_true_eq,decide_eq_true_eq];exact pB
structure r_ {α:Type} (c:α→α→Int):Prop where
 flip:∀ a b,c b a = - c a b
 eq:∀ a b,c a b=0→a=b
 tr:∀ a b d,c a b<0→c b d<0→c a d<0
theorem Qc:r_ gl:=⟨fun a b=>by unfold gl; split<;>split<;>first|omega|(split<;>omega)|skip,fun a b h=>aeC.1 h,fun a b d h1 g=>r9.2 (Int.lt_trans (r9.1 h1) (r9.1 g))⟩
theorem Qd:r_ dQ:=⟨fun a b=>Qa _ _,fun a b h=>pB.1 h,fun a b d h1 g=>Qb h1 g⟩
theorem r_.le{α:Type}{c:α→α→Int}(h:r_ c)(a b d:α)(h1:c a b≤0)(g:c b d≤0):c a d≤0:=by
 by_cases k:c a b=0
 ·rw [h.eq a b k]
  exact g
 ·by_cases q : c b d = 0
  ·rw [← h.eq b d q]
   exact h1
  ·have := h.tr a b d (by omega) (by omega)
   omega
theorem r_.refl{α:Type}{c:α→α→Int}(h:r_ c)(a:α):c a a=0:=by
 have:=h.flip a a;omega
theorem aeD{c:List G→List G→Int}(g:∀ a b,c b a = - c a b)(k:∀ a b d,c a b≤0→c b d≤0→c a d≤0):eV (bY c) (fun _=>True):=by
 have lt:∀ r s,bY c r s=decide (c r s<0):=fun r s=>by unfold bY; rw[dV]
 refine⟨fun a b d _ _ _ h1 q=>?_,fun a b _ _ h=>?_⟩
 ·rw [lt, decide_eq_false_iff_not] at *
  have:=k d b a (by have:=g d b; omega) (by have:=g b a; omega);have:=g a d;omega
 ·rw [lt, decide_eq_true_eq] at h
  rw[lt,decide_eq_false_iff_not];have:=g a b;omega
/-! ### d g h checked row by row -/
structure eo (F:Nat→Nat→Int) (n m:Nat) (ok:Nat→Nat→Bool) (w:Nat→Nat→Int):Prop where
 ml:∀ i k,n≤i∨m≤k→F i k=0
 step:∀ i k,i<n→k<m→F i k=if ok i k=true then max (max (F (i+1) k) (F i (k+1))) (w i k+F (i+1) (k+1)) else max (F (i+1) k) (F i (k+1))
structure Fair (n m:Nat) (ok:Nat→Nat→Bool) (w:Nat→Nat→Int):Prop where
 pos:∀ i k,i<n→k<m→ok i k=true→0<w i k
 aeE:∀ i p k q,i<p→p<n→k<q→q<m→ok i q=true→ok p k=true→ok i k=true∧ok p q=true∧w i q+w p k≤w i k+w p q
section
variable {F:Nat→Nat→Int} {n m:Nat} {ok:Nat→Nat→Bool} {w:Nat→Nat→Int}
theorem eo.flip(h:eo F n m ok w):eo (fun k i=>F i k) m n (fun k i=>ok i k) (fun k i=>w i k):=by
 refine⟨fun k i hk=>h.ml i k hk.symm,fun k i hk hi=>?_⟩;have:=h.step i k hi hk;rw[this];split<;>omega
theorem Fair.flip(h:Fair n m ok w):Fair m n (fun k i=>ok i k) (fun k i=>w i k):=by
 refine⟨fun k i hk hi ho=>h.pos i k hi hk ho,fun k q i p d u g v h1 y=>?_⟩;obtain⟨a,b,c⟩:=h.aeE i p k q g v d u y h1;exact⟨a,b,by omega⟩
theorem eo.down(h:eo F n m ok w)(i k:Nat):F (i+1) k≤F i k:=by
 by_cases he:n≤i∨m≤k
 ·rw [h.ml i k he, h.ml (i + 1) k (by omega)]
  exact sK _
 ·rw [h.step i k (by omega) (by omega)]
  split<;>omega
theorem eo.right(h:eo F n m ok w)(i k:Nat):F i (k+1)≤F i k:=h.flip.down k i
theorem eo.FP(h:eo F n m ok w)(i k:Nat):∀ d,F (i+d) k≤F i k
 |0=>sK _
 |d+1=>G_ (h.down (i+d) k) (h.FP i k d)
theorem eo.mono(h:eo F n m ok w){i p k q:Nat}(h1:i≤p)(g:k≤q):F p q≤F i k:=by
 obtain⟨d,rfl⟩:=agW h1;obtain⟨e,rfl⟩:=agW g;exact G_ (h.FP i (k+e) d) (h.flip.FP k i e)
theorem eo.take(h:eo F n m ok w){i p k q:Nat}(h1:i≤p)(d:k≤q)(g:p<n)(u:q<m)(ho:ok p q=true):w p q+F (p+1) (q+1)≤F i k:=by
 refine G_ ?_ (h.mono h1 d);rw[h.step p q g u,if_pos ho];omega
theorem eo.FQ(h:eo F n m ok w)(i k:Nat):0≤F i k:=by
 have h1:=h.mono (i:=i) (p:=i+n) (k:=k) (q:=k) (by omega) (aG _);rw[h.ml (i+n) k (.inl (by omega))]at h1;exact h1
theorem eo.row(h:eo F n m ok w){i:Nat}(hi:i<n):∀(s k:Nat),m-k≤s→F i k=F (i+1) k∨∃ q,k≤q∧q<m∧ok i q=true∧F i k=w i q+F (i+1) (q+1)
 | s,k,v=>by
  by_cases hk:k<m
  ·cases s with
   |zero=>omega
   | succ s =>
    have h0:=h.step i k hi hk;have h1:=h.down i k;have y:=h.right (i+1) k;by_cases ho:ok i k=true
    ·rw [if_pos ho] at h0
     by_cases e:F i k=w i k+F (i+1) (k+1)
     ·exact .inr ⟨k,aG _,hk,ho,e⟩
     ·by_cases d : F i k = F (i + 1) k
      ·exact .inl d
      ·have u : F i k = F i (k + 1) := by omega
       rcases h.row hi s (k+1) (by omega)with g|⟨q,g1,g2,g3,g4⟩
       ·exact .inl (by omega)
       ·exact .inr ⟨q,by omega,g2,g3,by omega⟩
    ·rw [if_neg ho] at h0
     by_cases d:F i k=F (i+1) k
     ·exact .inl d
     ·have u : F i k = F i (k + 1) := by omega
      rcases h.row hi s (k+1) (by omega)with g|⟨q,g1,g2,g3,g4⟩
      ·exact .inl (by omega)
      ·exact .inr ⟨q,by omega,g2,g3,by omega⟩
  ·exact .inl (by rw[h.ml i k (.inr (by omega)),h.ml (i+1) k (.inr (by omega))])
def iR(P:Nat→Bool):Nat→Nat→Option Nat
 |_,0=>none
 |q,t+1=>bif P q then some q else iR P (q+1) t
theorem FR{P:Nat→Bool}:∀{t q x:Nat},iR P q t=some x→q≤x∧x<q+t∧P x=true∧∀ y,q≤y→y<x→P y=false
 |0,_,_,h=>by cases h
 | t+1,q,x,h=>by
  unfold iR at h;cases g:P q with
  | true =>
   rw[g]at h;cases h;exact⟨aG _,by omega,g,fun y h1 k=>by omega⟩
  | false =>
   rw[g]at h;obtain⟨a,b,c,d⟩:=FR (t:=t) h;exact⟨by omega,by omega,c,fun y h1 k=>by
    by_cases e:y=q
    ·subst e; exact g
    ·exact d y (by omega) k⟩
def gE(F:Nat→Nat→Int)(ok:Nat→Nat→Bool)(w:Nat→Nat→Int)(v:Int)(i q:Nat):Bool:=ok i q&&(w i q+F (i+1) (q+1)==v)
theorem Qe{v:Int}{i q:Nat}:gE F ok w v i q=true↔ok i q=true∧w i q+F (i+1) (q+1)=v:=by
 unfold gE;rw[aB,beq_iff_eq]
def gF(F:Nat→Nat→Int)(m:Nat)(ok:Nat→Nat→Bool)(w:Nat→Nat→Int):Nat→Nat→Nat→List (Nat × Nat)
 |0,_,_=>[]
 | t+1,i,f=>match iR (gE F ok w (F i f) i) f (m-f) with
  |some q=>(i,q)::gF F m ok w t (i+1) (q+1)
  |none=>gF F m ok w t (i+1) f
theorem FT{t i f q:Nat} (h:iR (gE F ok w (F i f) i) f (m-f)=some q):gF F m ok w (t+1) i f=(i,q)::gF F m ok w t (i+1) (q+1):=by
 rw[gF,h]
theorem FU{t i f:Nat} (h:iR (gE F ok w (F i f) i) f (m-f)=none):gF F m ok w (t+1) i f=gF F m ok w t (i+1) f:=by
 rw[gF,h]
theorem zt:∀(t i f:Nat),∀ x∈gF F m ok w t i f,i≤x.1∧x.1<i+t∧f≤x.2∧x.2<m∧ok x.1 x.2=true
 |0,_,_,x,h=>by cases h
 | t+1,i,f,x,h=>by
  cases g:iR (gE F ok w (F i f) i) f (m-f)with
  | none =>
   rw[FU g]at h;obtain⟨a,b,c,d,e⟩:=zt t (i+1) f x h;exact⟨by omega,by omega,c,d,e⟩
  | some q =>
   rw[FT g]at h;obtain⟨k,v,u,_⟩:=FR g;rcases bV.1 h with rfl|h
   ·exact⟨aG _,by simp,k,by simp; omega,(Qe.1 u).1⟩
   ·obtain ⟨a, b, c, d, e⟩ := zt t (i + 1) (q + 1) x h
    exact⟨by omega,by omega,by omega,d,e⟩
theorem FV:∀(t i f:Nat),(gF F m ok w t i f).Pairwise fun x y=>x.1<y.1∧x.2<y.2
 |0,_,_=>.nil
 | t+1,i,f=>by
  cases d:iR (gE F ok w (F i f) i) f (m-f)with
  |none=>rw[FU d]; exact FV t (i+1) f
  | some q =>
   rw[FT d];refine .cons (fun y g=>?_) (FV t (i+1) (q+1));obtain⟨a,_,c,_,_⟩:=zt t (i+1) (q+1) y g;exact⟨by simp; omega,by simp; omega⟩
end
/-! ### g d, as a function -/
def mn(n m:Nat)(ok:Nat→Nat→Bool)(w:Nat→Nat→Int)(i k:Nat):Int :=
 if h:i<n∧k<m then
  if ok i k=true then max (max (mn n m ok w (i+1) k) (mn n m ok w i (k+1))) (w i k+mn n m ok w (i+1) (k+1)) else max (mn n m ok w (i+1) k) (mn n m ok w i (k+1))
 else 0
termination_by (n-i)+(m-k)
theorem aeF(n m:Nat)(ok:Nat→Nat→Bool)(w:Nat→Nat→Int):eo (mn n m ok w) n m ok w :=
 ⟨fun i k h => by rw [mn, dif_neg (by omega)], fun i k hi hk => by
  conv=>lhs; rw[mn]
  rw[dif_pos ⟨hi,hk⟩]⟩
theorem eo.le{F:Nat→Nat→Int}{n m:Nat}{ok:Nat→Nat→Bool}{w:Nat→Nat→Int}(h:eo F n m ok w){W:Int}(d:0≤W)(hw:∀ i k,w i k≤W):∀(t i k:Nat),n-i=t→F i k≤W*(t:Int)
 |0,i,k,u=>by rw[h.ml i k (.inl (by omega))]; simp
 | t+1,i,k,u=>by
  have e:W*((t+1:Nat):Int)=W*(t:Int)+W:=by rw[Int.natCast_succ,Int.mul_add,Int.mul_one]
  rw[e];rcases h.row (i:=i) (by omega) (m-k) k (aG _)with g|⟨q,_,_,_,g⟩
  ·have := h.le d hw t (i + 1) k (by omega)
   omega
  ·have := h.le d hw t (i + 1) (q + 1) (by omega)
   have:=hw i q;omega
/-! ### d -/
def hZ(r:List G):Int:=(gi r 0).int
def pC(r:List G):Int:=(gi r 1).int
def aY(r:List G):ByteArray:=(gi r 2).str
def FW(r:List G):ByteArray:=(gi r 3).str
def eD(r:List G):Prop:=aI [.int .i64,.int .i64,.str,.str,.int .i64,.int .i64,.str,.str] r=r ∧ -1000000000000≤hZ r∧hZ r≤1000000000000
def mo(p q:List G):Int:=if hZ q-hZ p>hZ p-hZ q then hZ q-hZ p else hZ p-hZ q
def sa(off:Int)(p q:List G):Bool:=((aY p).toList==(aY q).toList)&&((pC p==pC q)&&a8 (mo p q) off)
theorem zu{p q:List G}(d:eD p)(g:eD q):0≤mo p q∧mo p q≤2000000000000:=by
 obtain⟨_,h1,h⟩:=d;obtain⟨_,k,u⟩:=g;unfold mo;split<;>omega
theorem FX{p q:List G}(d:eD p)(g:eD q):rM [.l [p],.l [q]]=some [.i (mo p q)]:=by
 obtain⟨_,h1,h⟩:=d;obtain⟨_,k,u⟩:=g;unfold hZ at h1 h k u;refine aa.toEq ?_;unfold rM mo hZ
 (dsimp +instances only[Aa,Ab,Ac,Ad,Ae,Af,Ag])
 exact aa.pos (kq.2 ⟨by omega,by omega⟩) (aa.pos (kq.2 ⟨by omega,by omega⟩) (aa.some rfl))
theorem zw(off:Int){p q:List G}(d:eD p)(g:eD q):pt [.l [p],.l [q],.i off]=some [.t (sa off p q)]:=by
 refine aa.toEq ?_;unfold pt sa
 (dsimp +instances only[Aa,Ab,Ac,Ad,Ae,Af,Ag])
 refine aa.test (fun h=>?_) fun h=>?_
 ·have h : ((aY p).toList == (aY q).toList) = true := h
  rw[h];refine aa.test (fun h=>?_) fun h=>?_
  ·have h : (pC p == pC q) = true := h
   rw[h,d.1,g.1];refine aa.cE (FX d g) ?_;exact aa.some rfl
  ·have h : (pC p == pC q) = false := h
   rw[h];exact aa.some rfl
 ·have h : ((aY p).toList == (aY q).toList) = false := h
  rw[h];exact aa.some rfl
/-! ### g lists of numbers of d -/
structure JC (a b:List (List G)) (X Y:List Nat):Prop where
 ha:∀ z∈a,eD z
 hb:∀ z∈b,eD z
 hX:∀ i∈X,i<a.length
 hY:∀ i∈Y,i<b.length
 na:a.length≤100000
 nb:b.length≤100000
 nX:X.length≤1000
 nY:Y.length≤1000
def bE(X:List Nat):List (List G):=X.map fun(i:Nat)=>[G.i (i:Int)]
theorem lr(X:List Nat):(bE X).length=X.length:=dE _
theorem sb{X:List Nat}{i:Nat}(hi:i<X.length):(bE X).getD i []=[.i ((X.getD i 0:Nat):Int)]:=by
 unfold bE;rw[ch,bZ,bI hi,ch,bI hi];rfl
theorem sc{α:Type}{l:List α}{i:Nat}{z:α}(h:i<l.length):l.getD i z∈l:=by
 rw[ch,bI h];exact kN h
def ls(a:List (List G))(X:List Nat)(i:Nat):List G:=a.getD (X.getD i 0) []
def eW(a b:List (List G))(X Y:List Nat)(off:Int)(i k:Nat):Bool:=sa off (ls a X i) (ls b Y k)
def wJ(a b:List (List G))(X Y:List Nat)(i k:Nat):Int:=10000000000-mo (ls a X i) (ls b Y k)
theorem JC.zx{a b:List (List G)}{X Y:List Nat}(J:JC a b X Y){i:Nat}(hi:i<X.length):X.getD i 0<a.length∧eD (ls a X i):=by
 have h:=J.hX _ (sc (z:=0) hi);exact⟨h,J.ha _ (sc h)⟩
theorem JC.zy{a b:List (List G)}{X Y:List Nat}(J:JC a b X Y){i:Nat}(hi:i<Y.length):Y.getD i 0<b.length∧eD (ls b Y i):=by
 have h:=J.hY _ (sc (z:=0) hi);exact⟨h,J.hb _ (sc h)⟩
theorem aeG{a b:List (List G)}{X Y:List Nat}(J:JC a b X Y)(off:Int)(h:List (List G)){i k:Nat}(hi:i<X.length)(hk:k<Y.length) :
  uW [.l a,.l b,.l (bE X),.l (bE Y),.i off,.l h,.i (i:Int),.i (k:Int)]=some [.l a,.l b,.l (bE X),.l (bE Y),.i off,.l h,.i (wJ a b X Y i k),.t (eW a b X Y off i k)]:=by
 obtain⟨h1,d⟩:=J.zx hi;obtain⟨y,g⟩:=J.zy hk;have v:=zu d g;refine aa.toEq ?_;unfold uW
 (dsimp +instances only[Aa,Ab,Ac,Ad,Ae,Af,Ag])
 simp only[a7,sb hi,sb hk,lr]
 (dsimp +instances only[Aa,Ab,Ac,Ad,Ae,Af,Ag])
 simp only[a7];refine aa.p (aa.p (aa.p (aa.p ?_)));have q:a.getD (X.getD i 0) []=ls a X i:=rfl;have u:b.getD (Y.getD k 0) []=ls b Y k:=rfl;rw[q,u,d.1,g.1];refine aa.cE (FX d g) ?_
 (dsimp +instances only[Aa,Ab,Ac,Ad,Ae,Af,Ag])
 refine aa.pos (kq.2 ⟨by omega,by omega⟩) ?_;refine aa.cE (zw off d g) ?_
 (dsimp +instances only[Aa,Ab,Ac,Ad,Ae,Af,Ag])
 refine aa.pos ?_ (aa.some rfl);simp
theorem Qf{a b:List (List G)}{X Y:List Nat}(J:JC a b X Y)(off:Int)(h:List (List G)){i k:Nat}(hi:i<X.length)(hk:k<Y.length) :
  yY [.l [[.l a,.l b,.l (bE X),.l (bE Y),.i off,.l h]],.i (i:Int),.i (k:Int)]=some [.i (wJ a b X Y i k),.t (eW a b X Y off i k)]:=by
 obtain⟨h1,d⟩:=J.zx hi;obtain⟨y,g⟩:=J.zy hk;have v:=zu d g;refine aa.toEq ?_;unfold yY
 (dsimp +instances only[Aa,Ab,Ac,Ad,Ae,Af,Ag])
 simp only[a7,sb hi,sb hk,lr]
 (dsimp +instances only[Aa,Ab,Ac,Ad,Ae,Af,Ag])
 simp only[a7];refine aa.p (aa.p (aa.p (aa.p ?_)));have q:a.getD (X.getD i 0) []=ls a X i:=rfl;have u:b.getD (Y.getD k 0) []=ls b Y k:=rfl;rw[q,u,d.1,g.1];refine aa.cE (FX d g) ?_
 (dsimp +instances only[Aa,Ab,Ac,Ad,Ae,Af,Ag])
 refine aa.pos (kq.2 ⟨by omega,by omega⟩) ?_;refine aa.cE (zw off d g) ?_;exact aa.some rfl
/-! ### d table -/
def dD(F:Nat→Nat→Int)(m i t:Nat):List (List G):=(dG (m+1)).map fun j=>[G.i (if t≤j then F i j else 0)]
def dx(F:Nat→Nat→Int)(n m i:Nat):List (List G):=(dG (n+1)).map fun p=>[G.l (if i≤p then dD F m p 0 else [])]
theorem nQ(F:Nat→Nat→Int)(m i t:Nat):(dD F m i t).length=m+1:=by unfold dD; rw[dE,sA]
theorem sd(F:Nat→Nat→Int)(n m i:Nat):(dx F n m i).length=n+1:=by unfold dx; rw[dE,sA]
theorem vp{F:Nat→Nat→Int}{m i t j:Nat}(d:j≤m):(dD F m i t).getD j []=[.i (if t≤j then F i j else 0)]:=by
 unfold dD;rw[ch,bZ,sI (by omega)];rfl
theorem FY{F:Nat→Nat→Int}{n m i p:Nat}(d:p≤n):(dx F n m i).getD p []=[.l (if i≤p then dD F m p 0 else [])]:=by
 unfold dx;rw[ch,bZ,sI (by omega)];rfl
theorem aeH{F:Nat→Nat→Int}{m i t:Nat}:(dD F m i (t+1)).set t [.i (F i t)]=dD F m i t:=by
 apply jx;intro j;unfold dD;rw[dN,bZ,bZ,dE,sA];by_cases d:j<m+1
 ·rw [sI d]
  by_cases e:t=j
  ·subst e
   rw[if_pos rfl,if_pos d];simp
  ·rw [if_neg e]
   simp only[eF];by_cases h:t≤j
   ·rw[if_pos h,if_pos (by omega)]
   ·rw[if_neg h,if_neg (by omega)]
 ·rw [ly (by simp; omega)]
  by_cases e:t=j
  ·subst e
   rw[if_pos rfl,if_neg d];rfl
  ·rw [if_neg e]
   rfl
theorem aeI{F:Nat→Nat→Int}{m i:Nat}(h:F i m=0):dD F m i m=bM (m+1) [.i 0]:=by
 rw[agX];refine⟨nQ F m i m,fun x d=>?_⟩;unfold dD at d;obtain⟨j,g,rfl⟩:=dF.1 d;rw[eP]at g;by_cases e:m≤j
 ·rw[if_pos e,show j=m from by omega,h]
 ·rw[if_neg e]
theorem aeJ{F:Nat→Nat→Int}{m i:Nat}(h:∀ k,F i k=0):dD F m i 0=bM (m+1) [.i 0]:=by
 rw[agX];refine⟨nQ F m i 0,fun x d=>?_⟩;unfold dD at d;obtain⟨j,g,rfl⟩:=dF.1 d;rw[if_pos (ef _),h]
theorem aeK{F:Nat→Nat→Int}{n m i:Nat}:(dx F n m (i+1)).set i [.l (dD F m i 0)]=dx F n m i:=by
 apply jx;intro j;unfold dx;rw[dN,bZ,bZ,dE,sA];by_cases d:j<n+1
 ·rw [sI d]
  by_cases e:i=j
  ·subst e
   rw[if_pos rfl,if_pos d];simp
  ·rw [if_neg e]
   simp only[eF];by_cases h:i≤j
   ·rw[if_pos h,if_pos (by omega)]
   ·rw[if_neg h,if_neg (by omega)]
 ·rw [ly (by simp; omega)]
  by_cases e:i=j
  ·subst e
   rw[if_pos rfl,if_neg d];rfl
  ·rw [if_neg e]
   rfl
theorem aeL{F:Nat→Nat→Int}{n m:Nat}(h:∀ k,F n k=0):(bM (n+1) ([.l []]:List G)).set n [.l (bM (m+1) [.i 0])]=dx F n m n:=by
 apply jx;intro j;unfold dx;rw[dN,bZ,agY,vK];by_cases d:j<n+1
 ·rw [sI d]
  by_cases e:n=j
  ·subst e
   rw[if_pos rfl,if_pos d,eF,if_pos (aG _),aeJ h]
  ·rw[if_neg e,if_pos d,eF,if_neg (by omega)]
 ·rw [ly (by simp; omega)]
  by_cases e:n=j
  ·subst e
   rw[if_pos rfl,if_neg d];rfl
  ·rw [if_neg e, if_neg d]
   rfl
theorem se(k:Kd)(r:List G)(v:G):bg [k] r 0 [v]=[v]:=by
 simp[bg,mW]
theorem Qg{a b x y d row:List (List G)}{off:Int}{i k:Nat}(hk:k≤100000) :
  uY [.l a,.l b,.l x,.l y,.i off,.l d,.l row,.i (i:Int),.i (k:Int)]=some (some 0,[.l a,.l b,.l x,.l y,.i off,.l d,.l row,.i (i:Int),.i ((k:Int)-1)]):=by
 refine aa.toEq ?_;unfold uY
 (dsimp +instances only[Aa,Ab,Ac,Ad,Ae,Af,Ag])
 exact aa.pos (kq.2 ⟨by omega,by omega⟩) (aa.pos (by simp) (aa.some rfl))
theorem Qh{a b:List (List G)}{X Y:List Nat}(J:JC a b X Y)(off:Int){F:Nat→Nat→Int}(d:eo F X.length Y.length (eW a b X Y off) (wJ a b X Y)){i:Nat}(hi:i<X.length):∀ t:Nat,t≤Y.length →
  aV uZ [.l a,.l b,.l (bE X),.l (bE Y),.i off,.l (dx F X.length Y.length (i+1)),.l (dD F Y.length i t),.i (i:Int),.i ((t:Int)-1)] (t+1) fun c g=>c=0∧g=[.l a,.l b,.l (bE X),.l (bE Y),.i off,.l (dx F X.length Y.length (i+1)),.l (dD F Y.length i 0),.i (i:Int)]
 | 0,_=>by
  refine aV.stop (x:=0) (aa.toEq ?_) ⟨rfl,rfl⟩;unfold uZ
  (dsimp +instances only[Aa,Ab,Ac,Ad,Ae,Af,Ag])
  exact aa.neg (by rw[eT]; decide) (aa.pos (by simp) (aa.some rfl))
 | t+1,ht=>by
  have nX:=J.nX;have nY:=J.nY;have hW:∀ i k,F i k≤10000000000*((X.length-i:Nat):Int):=fun i k=>d.le (W:=10000000000) (by omega) (fun i k=>by
   unfold wJ mo;split<;>omega) _ i k rfl
  have b1:=d.FQ (i+1) t;have b2:=d.FQ (i+1) (t+1);have b3:=hW (i+1) (t+1);have hwo : -2000000000000≤wJ a b X Y i t∧wJ a b X Y i t≤10000000000:=by
   have:=zu (J.zx hi).2 (J.zy (show t<Y.length by omega)).2;unfold wJ;omega
  have ih:=Qh J off d hi t (by omega);have e0:((t+1:Nat):Int)-1=(t:Int):=by omega
  rw[e0];refine aV.next (aa.toEq ?_) ih
  have e1:((i:Int)+1).toNat=i+1:=by omega
  have e2:((t:Int)+1).toNat=t+1:=by omega
  have V:(dx F X.length Y.length (i+1)).getD (i+1) []=[.l (dD F Y.length (i+1) 0)]:=by rw[FY (by omega),if_pos (aG _)]
  have hN0:(dD F Y.length (i+1) 0).getD t []=[.i (F (i+1) t)]:=by rw[vp (by omega),if_pos (ef _)]
  have I:(dD F Y.length (i+1) 0).getD (t+1) []=[.i (F (i+1) (t+1))]:=by rw[vp (by omega),if_pos (ef _)]
  have M:(dD F Y.length i (t+1)).getD (t+1) []=[.i (F i (t+1))]:=by rw[vp (by omega),if_pos (aG _)]
  have q:=d.step i t hi (by omega);have y:∀ v,v=F i t→(dD F Y.length i (t+1)).set t [.i v]=dD F Y.length i t:=fun v hv=>by rw[hv,aeH]
  have B:∀ v:Int,((dD F Y.length i (t+1)).set t [.i v]).getD t []=[.i v]:=fun v=>by
   rw[ch,bB (by rw[nQ]; omega)];rfl
  have N:=sd F X.length Y.length (i+1);have O:=nQ F Y.length i (t+1);have U:=nQ F Y.length (i+1) 0;generalize hRR:dD F Y.length i (t+1)=R at M y B O⊢;unfold uZ
  (dsimp +instances only[Aa,Ab,Ac,Ad,Ae,Af,Ag])
  simp only[a7,e1,e2,cP,V]
  (dsimp +instances only[Aa,Ab,Ac,Ad,Ae,Af,Ag])
  simp only[hN0,I,M,se,N,O,U,mA,B,List.set_set]
  (dsimp +instances only[Aa,Ab,Ac,Ad,Ae,Af,Ag])
  refine aa.p (aa.p (aa.p (aa.p (aa.p (aa.p (aa.p (aa.p (aa.p (aa.p ?_)))))))));refine aa.nH (aa.eq (aeG J off _ hi (show t<Y.length by omega))) (by simp) ?_;rintro _ rfl
  (dsimp +instances only[Aa,Ab,Ac,Ad,Ae,Af,Ag])
  simp only[V]
  (dsimp +instances only[Aa,Ab,Ac,Ad,Ae,Af,Ag])
  simp only[I,N,U]
  (dsimp +instances only[Aa,Ab,Ac,Ad,Ae,Af,Ag])
  refine aa.test (fun h=>?_) fun h=>?_
  ·rw [if_pos h] at q
   refine aa.p (aa.p (aa.p (aa.p (aa.p (aa.p (aa.p (aa.pos (kq.2 ⟨by omega,by omega⟩) (aa.p (aa.p ?_)))))))));refine aa.tail (P:=fun u g=>u=0∧g=[.l a,.l b,.l (bE X),.l (bE Y),.i off,.l (dx F X.length Y.length (i+1)),.l (dD F Y.length i t),.i (i:Int),.i ((t:Int)-1)]) ⟨_,Qg (by omega),0,rfl,?_,?_⟩ (by simp) ?_
   ·rfl
   ·rw [y _ ?_]
    rw[q];split<;>split<;>omega
   ·rintro _ _ ⟨rfl, rfl⟩
    (dsimp +instances only[Aa,Ab,Ac,Ad,Ae,Af,Ag])
    exact aa.pos (by simp) (aa.some rfl)
  ·rw [if_neg (by rw [h]; decide)] at q
   refine aa.tail (P:=fun u g=>u=0∧g=[.l a,.l b,.l (bE X),.l (bE Y),.i off,.l (dx F X.length Y.length (i+1)),.l (dD F Y.length i t),.i (i:Int),.i ((t:Int)-1)]) ⟨_,Qg (by omega),0,rfl,?_,?_⟩ (by simp) ?_
   ·rfl
   ·rw [y _ ?_]
    rw[q];split<;>omega
   ·rintro _ _ ⟨rfl, rfl⟩
    (dsimp +instances only[Aa,Ab,Ac,Ad,Ae,Af,Ag])
    exact aa.pos (by simp) (aa.some rfl)
theorem Qi{a b:List (List G)}{X Y:List Nat}(J:JC a b X Y)(off:Int){F:Nat→Nat→Int}(d:eo F X.length Y.length (eW a b X Y off) (wJ a b X Y)):∀ t:Nat,t≤X.length →
  aV u9 [.l a,.l b,.l (bE X),.l (bE Y),.i off,.l (dx F X.length Y.length t),.i ((t:Int)-1)] (t+1) fun c g=>c=0∧g=[.l a,.l b,.l (bE X),.l (bE Y),.i off,.l (dx F X.length Y.length 0)]
 | 0,_=>by
  refine aV.stop (x:=0) (aa.toEq ?_) ⟨rfl,rfl⟩;unfold u9
  (dsimp +instances only[Aa,Ab,Ac,Ad,Ae,Af,Ag])
  exact aa.neg (by rw[eT]; decide) (aa.pos (by simp) (aa.some rfl))
 | t+1,y=>by
  have nX:=J.nX;have nY:=J.nY;have q:=Qi J off d t (by omega);have u:((t+1:Nat):Int)-1=(t:Int):=by omega
  rw[u];refine aV.next (aa.toEq ?_) q
  have v:((Y.length:Int)+1).toNat=Y.length+1:=by omega
  have h:(bM (Y.length+1) ([.i 0]:List G))=dD F Y.length t Y.length:=(aeI (d.ml t Y.length (.inr (aG _)))).symm;have k:=Qh J off d (show t<X.length by omega) Y.length (aG _);unfold u9
  (dsimp +instances only[Aa,Ab,Ac,Ad,Ae,Af,Ag])
  simp only[lr,v,h];refine aa.p (aa.p (aa.p (aa.p ?_)));refine aa.loop (k.to (by omega)) (by simp[nQ]) ?_;rintro _ _ ⟨rfl,rfl⟩
  (dsimp +instances only[Aa,Ab,Ac,Ad,Ae,Af,Ag])
  simp only[a7,cP,se,sd];refine aa.p (aa.pos (by simp; omega) (aa.p (aa.pos (by simp[sd]) (aa.some ?_))));rw[aeK]
theorem aeM{a b:List (List G)}{X Y:List Nat}(J:JC a b X Y)(off:Int){F:Nat→Nat→Int}(d:eo F X.length Y.length (eW a b X Y off) (wJ a b X Y)) :
  yX [.l a,.l b,.l (bE X),.l (bE Y),.i off,.l []]=some [.l a,.l b,.l (bE X),.l (bE Y),.i off,.l (dx F X.length Y.length 0)]:=by
 have nX:=J.nX;have nY:=J.nY;have h:((X.length:Int)+1).toNat=X.length+1:=by omega
 have q:((Y.length:Int)+1).toNat=Y.length+1:=by omega
 have g:(bM (X.length+1) ([.l []]:List G)).set X.length [.l (bM (Y.length+1) [.i 0])]=dx F X.length Y.length X.length:=aeL fun k=>d.ml X.length k (.inl (aG _));refine aa.toEq ?_;unfold yX
 (dsimp +instances only[Aa,Ab,Ac,Ad,Ae,Af,Ag])
 simp only[lr,h,q,cP,se,g,vK,sd];refine aa.p (aa.p (aa.p (aa.p (aa.p (aa.pos (by simp) (aa.p ?_))))));refine aa.loop ((Qi J off d X.length (aG _)).to (by omega)) (by simp) ?_;rintro _ _ ⟨rfl,rfl⟩
 (dsimp +instances only[Aa,Ab,Ac,Ad,Ae,Af,Ag])
 exact aa.pos (by simp) (aa.some rfl)
def nR(X Y:List Nat)(p:Nat × Nat):List G:=[.i ((X.getD p.1 0:Nat):Int),.i ((Y.getD p.2 0:Nat):Int)]
def Qj(X Y:List Nat)(out:List (List G))(i:Nat):Option Nat→List (List G)
 |some q=>out++[nR X Y (i,q)]
 |none=>out
def Qk(f:Nat):Option Nat→Nat
 |some q=>q+1
 |none=>f
theorem FZ{a b d out:List (List G)}{X Y:List Nat}(off:Int){f i k n:Nat}(hi:i<X.length)(hk:k<Y.length)(nY:Y.length≤1000)(ho:out.length≤100000)(t:Bool) :
  rN [.l a,.l b,.l (bE X),.l (bE Y),.i off,.l d,.l out,.i (f:Int),.i (i:Int),.i (k:Int),.i (n:Int),.i (i:Int),.t t] =
   bif t then some (some 0,[.l a,.l b,.l (bE X),.l (bE Y),.i off,.l d,.l (out++[nR X Y (i,k)]),.i ((k+1:Nat):Int),.i (n:Int),.i (i:Int)])
   else some (some 1,[.l a,.l b,.l (bE X),.l (bE Y),.i off,.l d,.l out,.i (f:Int),.i (i:Int),.i (k:Int),.i (n:Int),.i (i:Int)]):=by
 cases t with
 | false =>
  refine aa.toEq ?_;unfold rN
  (dsimp +instances only[Aa,Ab,Ac,Ad,Ae,Af,Ag])
  exact aa.neg rfl (aa.pos (by simp) (aa.some rfl))
 | true =>
  refine aa.toEq ?_;unfold rN
  (dsimp +instances only[Aa,Ab,Ac,Ad,Ae,Af,Ag])
  simp only[a7,sb hi,sb hk,lr]
  (dsimp +instances only[Aa,Ab,Ac,Ad,Ae,Af,Ag])
  exact aa.pos rfl (aa.p (aa.p (aa.pos (by simp; omega) (aa.p (aa.pos (by simp) (aa.some rfl))))))
section
variable {a b:List (List G)} {X Y:List Nat} {F:Nat→Nat→Int}
theorem Ql(J:JC a b X Y)(off:Int)(v:eo F X.length Y.length (eW a b X Y off) (wJ a b X Y))(out:List (List G))(ho:out.length≤100000){f i:Nat}(hi:i<X.length)(hf:f≤Y.length):∀ t k:Nat,k+t=Y.length →
  aV pv [.l a,.l b,.l (bE X),.l (bE Y),.i off,.l (dx F X.length Y.length 0),.l out,.i (f:Int),.i (i:Int),.i (k:Int),.i (X.length:Int),.i (i:Int)] (t+1)
   fun c g=>c=0∧g=[.l a,.l b,.l (bE X),.l (bE Y),.i off,.l (dx F X.length Y.length 0),.l (Qj X Y out i (iR (gE F (eW a b X Y off) (wJ a b X Y) (F i f) i) k t)),.i (Qk f (iR (gE F (eW a b X Y off) (wJ a b X Y) (F i f) i) k t):Int),.i (X.length:Int),.i (i:Int)]
 | 0,k,hk=>by
  refine aV.stop (x:=0) (aa.toEq ?_) ⟨rfl,rfl⟩;have nY:=J.nY;unfold pv
  (dsimp +instances only[Aa,Ab,Ac,Ad,Ae,Af,Ag])
  simp only[lr];exact aa.n (aa.pos (by simp) (aa.some rfl))
 | t+1,k,hk=>by
  have nX:=J.nX;have nY:=J.nY;have q:k<Y.length:=by omega
  have hW:∀ i k,F i k≤10000000000*((X.length-i:Nat):Int):=fun i k=>v.le (W:=10000000000) (by omega) (fun i k=>by
   unfold wJ mo;split<;>omega) _ i k rfl
  have b2:=v.FQ (i+1) (k+1);have b3:=hW (i+1) (k+1);have hwo : -2000000000000≤wJ a b X Y i k∧wJ a b X Y i k≤10000000000:=by
   have:=zu (J.zx hi).2 (J.zy q).2;unfold wJ;omega
  have U:((i:Int)+1).toNat=i+1:=by omega
  have V:((k:Int)+1).toNat=k+1:=by omega
  have B:(dx F X.length Y.length 0).getD (i+1) []=[.l (dD F Y.length (i+1) 0)]:=by rw[FY (by omega),if_pos (ef _)]
  have I:(dx F X.length Y.length 0).getD i []=[.l (dD F Y.length i 0)]:=by rw[FY (by omega),if_pos (ef _)]
  have M:(dD F Y.length (i+1) 0).getD (k+1) []=[.i (F (i+1) (k+1))]:=by rw[vp (by omega),if_pos (ef _)]
  have N:(dD F Y.length i 0).getD f []=[.i (F i f)]:=by rw[vp (by omega),if_pos (ef _)]
  have O:∀ c:Bool,gE F (eW a b X Y off) (wJ a b X Y) (F i f) i k=c→iR (gE F (eW a b X Y off) (wJ a b X Y) (F i f) i) k (t+1)=bif c then some k else iR (gE F (eW a b X Y off) (wJ a b X Y) (F i f) i) (k+1) t:=fun c hc=>by rw[←hc]; rfl
  have go:gE F (eW a b X Y off) (wJ a b X Y) (F i f) i k=false→aa (pv [.l a,.l b,.l (bE X),.l (bE Y),.i off,.l (dx F X.length Y.length 0),.l out,.i (f:Int),.i (i:Int),.i (k:Int),.i (X.length:Int),.i (i:Int)])
    (fun o=>o=(none,[.l a,.l b,.l (bE X),.l (bE Y),.i off,.l (dx F X.length Y.length 0),.l out,.i (f:Int),.i (i:Int),.i ((k+1:Nat):Int),.i (X.length:Int),.i (i:Int)])):=fun d=>by
   unfold pv
   (dsimp +instances only[Aa,Ab,Ac,Ad,Ae,Af,Ag])
   simp only[lr];refine aa.p ?_;refine aa.cE (Qf J off _ hi q) ?_
   (dsimp +instances only[Aa,Ab,Ac,Ad,Ae,Af,Ag])
   simp only[a7,U,V,B,I]
   (dsimp +instances only[Aa,Ab,Ac,Ad,Ae,Af,Ag])
   simp only[M,N,sd,nQ]
   (dsimp +instances only[Aa,Ab,Ac,Ad,Ae,Af,Ag])
   refine aa.test (fun h=>?_) fun h=>?_
   ·refine aa.p (aa.p (aa.p (aa.p (aa.pos (kq.2 ⟨by omega, by omega⟩) (aa.p (aa.p ?_))))))
    have y:(wJ a b X Y i k+F (i+1) (k+1)==F i f)=false:=by
     unfold gE at d
     rwa [h,pM]at d
    rw[y];refine aa.tail (P:=fun u g=>u=1∧g=[.l a,.l b,.l (bE X),.l (bE Y),.i off,.l (dx F X.length Y.length 0),.l out,.i (f:Int),.i (i:Int),.i (k:Int),.i (X.length:Int),.i (i:Int)]) ⟨_,FZ off hi q nY ho false,1,rfl,rfl,rfl⟩ (by simp) ?_;rintro _ _ ⟨rfl,rfl⟩
    (dsimp +instances only[Aa,Ab,Ac,Ad,Ae,Af,Ag])
    exact aa.neg rfl (aa.p (aa.pos (by simp) (aa.some rfl)))
   ·refine aa.tail (P := fun u g => u = 1 ∧ g = [.l a, .l b, .l (bE X), .l (bE Y), .i off, .l (dx F X.length Y.length 0), .l out, .i (f : Int), .i (i : Int), .i (k : Int), .i (X.length : Int), .i (i : Int)]) ⟨_, FZ off hi q nY ho false, 1, rfl, rfl, rfl⟩ (by simp) ?_
    rintro _ _ ⟨rfl,rfl⟩
    (dsimp +instances only[Aa,Ab,Ac,Ad,Ae,Af,Ag])
    exact aa.neg rfl (aa.p (aa.pos (by simp) (aa.some rfl)))
  cases d:gE F (eW a b X Y off) (wJ a b X Y) (F i f) i k with
  | false =>
   rw[O false d,cond_false];exact aV.next (aa.toEq (go d)) (Ql J off v out ho hi hf t (k+1) (by omega))
  | true =>
   rw[O true d,cond_true];obtain⟨o1,o2⟩:=Qe.1 d;refine aV.stop (x:=0) (aa.toEq ?_) ⟨rfl,rfl⟩;unfold pv
   (dsimp +instances only[Aa,Ab,Ac,Ad,Ae,Af,Ag])
   simp only[lr];refine aa.p ?_;refine aa.cE (Qf J off _ hi q) ?_
   (dsimp +instances only[Aa,Ab,Ac,Ad,Ae,Af,Ag])
   simp only[a7,U,V,B,I]
   (dsimp +instances only[Aa,Ab,Ac,Ad,Ae,Af,Ag])
   simp only[M,N,sd,nQ]
   (dsimp +instances only[Aa,Ab,Ac,Ad,Ae,Af,Ag])
   refine aa.pos o1 ?_;refine aa.p (aa.p (aa.p (aa.p (aa.pos (kq.2 ⟨by omega,by omega⟩) (aa.p (aa.p ?_))))));have y:(wJ a b X Y i k+F (i+1) (k+1)==F i f)=true:=by rw[beq_iff_eq]; exact o2
   rw[y];refine aa.tail (P:=fun u g=>u=0∧g=[.l a,.l b,.l (bE X),.l (bE Y),.i off,.l (dx F X.length Y.length 0),.l (out++[nR X Y (i,k)]),.i ((k+1:Nat):Int),.i (X.length:Int),.i (i:Int)]) ⟨_,FZ off hi q nY ho true,0,rfl,rfl,rfl⟩ (by simp) ?_;rintro _ _ ⟨rfl,rfl⟩
   (dsimp +instances only[Aa,Ab,Ac,Ad,Ae,Af,Ag])
   exact aa.pos rfl (aa.pos (by simp) (aa.some rfl))
theorem F0(J:JC a b X Y)(off:Int)(h:eo F X.length Y.length (eW a b X Y off) (wJ a b X Y)):∀(t i f:Nat) (out:List (List G)),i+t=X.length→f≤Y.length→out.length+t≤100000 →
  aV rO [.l a,.l b,.l (bE X),.l (bE Y),.i off,.l (dx F X.length Y.length 0),.l out,.i (f:Int),.i (X.length:Int),.i (i:Int)] (t+1)
   fun c g=>c=0∧g=[.l a,.l b,.l (bE X),.l (bE Y),.i off,.l (dx F X.length Y.length 0),.l (out++(gF F Y.length (eW a b X Y off) (wJ a b X Y) t i f).map (nR X Y))]
 | 0,i,f,out,hi,k,ho=>by
  have e:out++(gF F Y.length (eW a b X Y off) (wJ a b X Y) 0 i f).map (nR X Y)=out:=by rw[gF,sF,cY]
  rw[e];refine aV.stop (x:=0) (aa.toEq ?_) ⟨rfl,rfl⟩;unfold rO
  (dsimp +instances only[Aa,Ab,Ac,Ad,Ae,Af,Ag])
  exact aa.n (aa.pos (by simp) (aa.some rfl))
 | t+1,i,f,out,hi,k,ho=>by
  have nX:=J.nX;have nY:=J.nY;have u:=Ql J off h out (by omega) (f:=f) (i:=i) (by omega) k (Y.length-f) f (by omega);have step:∀ q,iR (gE F (eW a b X Y off) (wJ a b X Y) (F i f) i) f (Y.length-f)=q→aa (rO [.l a,.l b,.l (bE X),.l (bE Y),.i off,.l (dx F X.length Y.length 0),.l out,.i (f:Int),.i (X.length:Int),.i (i:Int)])
    (fun o=>o=(none,[.l a,.l b,.l (bE X),.l (bE Y),.i off,.l (dx F X.length Y.length 0),.l (Qj X Y out i q),.i (Qk f q:Int),.i (X.length:Int),.i ((i+1:Nat):Int)])):=fun q d=>by
   rw[d]at u;unfold rO
   (dsimp +instances only[Aa,Ab,Ac,Ad,Ae,Af,Ag])
   refine aa.p ?_;refine aa.loop (u.to (by omega)) (by simp) ?_;rintro _ _ ⟨rfl,rfl⟩
   (dsimp +instances only[Aa,Ab,Ac,Ad,Ae,Af,Ag])
   exact aa.p (aa.pos (by simp) (aa.some rfl))
  cases d:iR (gE F (eW a b X Y off) (wJ a b X Y) (F i f) i) f (Y.length-f)with
  | none =>
   have:=F0 J off h t (i+1) f out (by omega) k (by omega);rw[FU d];exact aV.next (aa.toEq (step none d)) this
  | some q =>
   obtain⟨v,y,_,_⟩:=FR d;have:=F0 J off h t (i+1) (q+1) (out++[nR X Y (i,q)]) (by omega) (by omega) (by simp; omega);rw[FT d,dq];rw[gu]at this;exact aV.next (aa.toEq (step (some q) d)) this
theorem aeN(J:JC a b X Y)(off:Int)(d:eo F X.length Y.length (eW a b X Y off) (wJ a b X Y)) :
  yZ [.l a,.l b,.l (bE X),.l (bE Y),.i off,.l []]=some [.l a,.l b,.l (bE X),.l (bE Y),.i off,.l (dx F X.length Y.length 0),.l ((gF F Y.length (eW a b X Y off) (wJ a b X Y) X.length 0 0).map (nR X Y))]:=by
 have nX:=J.nX;refine aa.toEq ?_;unfold yZ
 (dsimp +instances only[Aa,Ab,Ac,Ad,Ae,Af,Ag])
 refine aa.cE (aeM J off d) ?_
 (dsimp +instances only[Aa,Ab,Ac,Ad,Ae,Af,Ag])
 simp only[lr];have h:=F0 J off d X.length 0 0 [] (by omega) (ef _) (by simp; omega);rw[kM]at h;refine aa.loop (h.to (by omega)) (by first|rfl|simp) ?_;rintro _ _ ⟨rfl,rfl⟩
 (dsimp +instances only[Aa,Ab,Ac,Ad,Ae,Af,Ag])
 exact aa.pos (by simp) (aa.some rfl)
end
abbrev GK:=ByteArray × Int
def dc(k:GK):List G:=[.s k.1,.i k.2]
theorem aeO(k:GK):a_ [.str,.int .i64] (dc k) (dc k)=true:=by
 show ((k.1.toList==k.1.toList)&&((k.2==k.2)&&true))=true
 simp
theorem aeP{k k':GK}(h:k≠k'):a_ [.str,.int .i64] (dc k) (dc k')=false:=by
 show ((k.1.toList==k'.1.toList)&&((k.2==k'.2)&&true))=false
 cases h1:k.1.toList==k'.1.toList with
 |false=>rfl
 | true =>
  cases d:k.2==k'.2 with
  |false=>rfl
  |true=>exact(h (Prod.ext (HX (eq_of_beq h1)) (eq_of_beq d))).elim
def iS(i:Nat)(e:GK × List Nat):List G:=[.l [dc e.1],.l [[.l (bE e.2)]],.i (i:Int),.t true]
def bx:Nat→List (GK × List Nat)→List (List G)
 |_,[]=>[]
 |i,e::L=>iS i e::bx (i+1) L
theorem vq:∀(i:Nat) (L:List (GK × List Nat)),(bx i L).length=L.length
 |_,[]=>rfl
 |i,_::L=>by simp[bx,vq (i+1) L]
theorem sf:∀(i:Nat) (A B:List (GK × List Nat)),bx i (A++B)=bx i A++bx (i+A.length) B
 |i,[],B=>by simp[bx]
 | i,e::A,B=>by
  simp only[lC,bx,sf (i+1) A B,cB];rw[show i+1+A.length=i+(A.length+1) from by omega]
def jW(k:GK)(v:Nat):List (GK × List Nat)→List (GK × List Nat)
 | []=>[(k,[v])]
 |e::L=>if e.1=k then (e.1,e.2++[v])::L else e::jW k v L
theorem zz(k:GK):∀ L:List (GK × List Nat),(∀ e∈L,e.1≠k)∨∃ A vs B,L=A++(k,vs)::B∧∀ e∈A,e.1≠k
 | []=>.inl fun e h=>by cases h
 | e::L=>by
  by_cases he:e.1=k
  ·exact .inr ⟨[],e.2,L,by rw[←he]; rfl,fun e h=>by cases h⟩
  ·rcases zz k L with h | ⟨A, vs, B, rfl, h⟩
   ·exact .inl fun x d=>by
     rcases bV.1 d with rfl|d
     ·exact he
     ·exact h x d
   ·exact .inr ⟨e::A,vs,B,rfl,fun x d=>by
     rcases bV.1 d with rfl|d
     ·exact he
     ·exact h x d⟩
theorem zA{k:GK}(v:Nat):∀{L:List (GK × List Nat)},(∀ e∈L,e.1≠k)→jW k v L=L++[(k,[v])]
 | [],_=>rfl
 | e::L,h=>by
  rw[jW,if_neg (h e db),zA v fun x d=>h x (df _ d)];rfl
theorem zB{k:GK}(v:Nat)(vs:List Nat)(B:List (GK × List Nat)):∀{A:List (GK × List Nat)},(∀ e∈A,e.1≠k)→jW k v (A++(k,vs)::B)=A++(k,vs++[v])::B
 | [],_=>by rw[kM,jW,if_pos rfl,kM]
 | e::A,h=>by
  rw[lC,jW,if_neg (h e db),zB v vs B fun x d=>h x (df _ d)];rfl
theorem F1(k:GK)(R:List (List G)):∀(A:List (GK × List Nat)) (i j:Nat),(∀ e∈A,e.1≠k)→bT [.str,.int .i64] (dc k) (bx i A++R) j=bT [.str,.int .i64] (dc k) R (j+A.length)
 | [],_,_,_=>rfl
 | e::A,i,j,h=>by
  rw[bx,lC,bT,show (gi (iS i e) 0).row=dc e.1 from rfl,aeP (Ne.symm (h e db)),cond_false,F1 k R A (i+1) (j+1) fun x d=>h x (df _ d),cB];congr 1;omega
theorem Qm{k:GK}{L:List (GK × List Nat)}(h:∀ e∈L,e.1≠k)(i j:Nat):bT [.str,.int .i64] (dc k) (bx i L) j=none:=by
 have:=F1 k [] L i j h;rw[cY]at this;exact this
theorem Qn{k:GK}{A:List (GK × List Nat)}(h:∀ e∈A,e.1≠k)(i:Nat)(r:List G)(d:(gi r 0).row=dc k)(R:List (List G)):bT [.str,.int .i64] (dc k) (bx i A++r::R) 0=some (A.length,r):=by
 rw[F1 k (r::R) A i 0 h,bT,d,aeO,cond_true,cP]
theorem Qo(R:List (List G)):∀(A:List (GK × List Nat)) (i j c:Nat),i+A.length≤c→eU (c:Int) (bx i A++R) j=eU (c:Int) R (j+A.length)
 | [],_,_,_,_=>rfl
 | e::A,i,j,c,h=>by
  rw[cB]at h;have hb:(((gi (iS i e) 2).int.toNat:Int)==(c:Int))=false:=by
   show (((i:Int).toNat:Int)==(c:Int))=false
   rw[a7,beq_eq_false_iff_ne];omega
  rw[bx,lC,eU,hb,cond_false,Qo R A (i+1) (j+1) c (by omega),cB];congr 1;omega
theorem Qp(A:List (GK × List Nat))(r:List G)(R:List (List G))(d:(gi r 2).int=(A.length:Int)):eU (A.length:Int) (bx 0 A++r::R) 0=some (A.length,r):=by
 rw[Qo (r::R) A 0 0 A.length (by omega),eU,d,a7,show ((A.length:Int)==(A.length:Int))=true from by simp,cond_true,cP]
theorem vr{α:Type}(p:List α)(x y:α)(q:List α)(n:Nat)(h:p.length=n):(p++x::q).set n y=p++y::q:=by
 subst h;rw[List.set_append_right _ _ (aG _),Nat.sub_self,List.set_cons_zero]
def nS(L:List (GK × List Nat)):Nat:=(L.map fun e=>e.2.length).sum
theorem aeQ{L:List (GK × List Nat)}{e:GK × List Nat}(h:e∈L):e.2.length≤nS L:=by
 induction L with
 |nil=>cases h
 | cons x L d =>
  unfold nS at d⊢;rw[dq,RQ];rcases bV.1 h with rfl|h
  ·omega
  ·have := d h
   omega
theorem Qq(k:GK)(v:Nat):∀ L:List (GK × List Nat),nS (jW k v L)=nS L+1
 | []=>rfl
 | e::L=>by
  have d:=Qq k v L;rw[jW];split
  ·unfold nS
   simp;omega
  ·unfold nS at d ⊢
   rw[dq,RQ,dq,RQ,d];omega
theorem aeR(L:List (GK × List Nat))(k:GK)(v:Nat) :
  d_ [.str,.int .i64] (bx 0 L) (dc k)=true∧(cq [.str,.int .i64] (bx 0 L) (dc k)).length≤nS L ∧
   qB (kZ [.str,.int .i64] (bx 0 L) (dc k) L.length) (kY [.str,.int .i64] (bx 0 L) (dc k) L.length:Nat)=true ∧
   qA (kZ [.str,.int .i64] (bx 0 L) (dc k) L.length) (kY [.str,.int .i64] (bx 0 L) (dc k) L.length:Nat) (cq [.str,.int .i64] (bx 0 L) (dc k)++[[.i (v:Int)]])=bx 0 (jW k v L) ∧
   bD [.str,.int .i64] (bx 0 L) (dc k) L.length=(jW k v L).length:=by
 rcases zz k L with h1|⟨A,vs,B,rfl,y⟩
 ·have d := Qm h1 0 0
  have g:cq [.str,.int .i64] (bx 0 L) (dc k)=[]:=by unfold cq; rw[d]
  have h:kZ [.str,.int .i64] (bx 0 L) (dc k) L.length=bx 0 L++[[.l [dc k],.l [[.l []]],.i (L.length:Int),.t false]]:=by unfold kZ; rw[d]
  have q:kY [.str,.int .i64] (bx 0 L) (dc k) L.length=L.length:=by unfold kY; rw[d]
  have u:=Qp L [.l [dc k],.l [[.l []]],.i (L.length:Int),.t false] [] rfl;refine⟨by unfold d_; rw[d],by rw[g]; simp,?_,?_,?_⟩
  ·rw [h, q]
   unfold qB;rw[u];rfl
  ·rw [h, q, g, zA v h1, sf]
   unfold qA;rw[u];simp only[];rw[vr _ _ _ _ _ (vq 0 L),cP];rfl
  ·rw [zA v h1]
   unfold bD dL;rw[d];simp
 ·have d:bT [.str,.int .i64] (dc k) (bx 0 (A++(k,vs)::B)) 0=some (A.length,iS A.length (k,vs)):=by
   rw[sf,bx,cP];exact Qn y 0 (iS A.length (k,vs)) rfl _
  have g:cq [.str,.int .i64] (bx 0 (A++(k,vs)::B)) (dc k)=bE vs:=by unfold cq; rw[d]; rfl
  have h:kZ [.str,.int .i64] (bx 0 (A++(k,vs)::B)) (dc k) (A++(k,vs)::B).length=bx 0 A++[.l [dc k],.l [[.l (bE vs)]],.i (A.length:Int),.t false]::bx (A.length+1) B:=by
   unfold kZ;rw[d,sf,bx,cP];exact vr _ _ _ _ _ (vq 0 A)
  have q:kY [.str,.int .i64] (bx 0 (A++(k,vs)::B)) (dc k) (A++(k,vs)::B).length=A.length:=by
   unfold kY;rw[d];show ((A.length:Int).toNat)=A.length
   exact a7 _
  have u:=Qp A [.l [dc k],.l [[.l (bE vs)]],.i (A.length:Int),.t false] (bx (A.length+1) B) rfl;refine⟨by unfold d_; rw[d]; rfl,by rw[g,lr]; exact aeQ (e:=(k,vs)) (by simp),?_,?_,?_⟩
  ·rw [h, q]
   unfold qB;rw[u];rfl
  ·rw [h, q, g, zB v vs B y, sf, bx, cP]
   unfold qA;rw[u];simp only[];rw[vr _ _ _ _ _ (vq 0 A)];have I:bE vs++[[G.i (v:Int)]]=bE (vs++[v]):=by unfold bE; rw[j6]; rfl
   rw[I];rfl
  ·rw [zB v vs B y]
   unfold bD dL;rw[d];simp
/-! ### d of a log -/
def fg(r:List G):GK:=(aY r,pC r)
def kH(l:List (List G))(s:ByteArray)(i:Nat):Bool:=(FW (l.getD i [])).toList==s.toList
def mq(l:List (List G))(s:ByteArray)(L:List (GK × List Nat))(i:Nat):List (GK × List Nat):=bif kH l s i then jW (fg (l.getD i [])) i L else L
def lu(l:List (List G))(s:ByteArray)(n:Nat):List (GK × List Nat):=(dG n).foldl (mq l s) []
theorem Qr(l:List (List G))(s:ByteArray)(n:Nat):lu l s (n+1)=mq l s (lu l s n) n:=by
 unfold lu;rw[G4,agZ];rfl
def fu(l:List (List G))(s:ByteArray)(k:GK)(n:Nat):List Nat:=(dG n).filter fun i=>kH l s i&&decide (fg (l.getD i [])=k)
theorem F2(l:List (List G))(s:ByteArray)(k:GK)(n:Nat):fu l s k (n+1)=fu l s k n++if kH l s n=true∧fg (l.getD n [])=k then [n] else []:=by
 unfold fu;rw[G4,List.filter_append];congr 1;by_cases h1:kH l s n=true
 ·by_cases d : fg (l.getD n []) = k
  ·rw[if_pos ⟨h1,d⟩,G2,if_pos (by rw[h1,pM,decide_eq_true_eq]; exact d),RR]
  ·rw[if_neg fun e=>d e.2,G2,if_neg (by rw[h1,pM,decide_eq_true_eq]; exact d),RR]
 ·rw[if_neg fun e=>h1 e.1,G2,if_neg (by rw[aB]; exact fun e=>h1 e.1),RR]
structure GI (l:List (List G)) (s:ByteArray) (n:Nat) (L:List (GK × List Nat)):Prop where
 F3:nS L≤n
 len:L.length≤n
 nd:(L.map (·.1)).Nodup
 pD:∀ e∈L,e.2=fu l s e.1 n∧e.2≠[]
 all:∀ k,fu l s k n≠[]→∃ e∈L,e.1=k
theorem GI.zero(l:List (List G))(s:ByteArray):GI l s 0 []:=⟨aG _,aG _,by simp,by simp,fun k h=>(h rfl).elim⟩
theorem GI.step{l:List (List G)}{s:ByteArray}{n:Nat}{L:List (GK × List Nat)}(h:GI l s n L):GI l s (n+1) (mq l s L n):=by
 unfold mq;cases hw:kH l s n with
 | false =>
  have e:∀ k,fu l s k (n+1)=fu l s k n:=fun k=>by rw[F2,if_neg (by rw[hw]; simp),cY]
  exact⟨RS h.F3,RS h.len,h.nd,fun x d=>by rw[e]; exact h.pD x d,fun k hk=>by rw[e]at hk; exact h.all k hk⟩
 | true =>
  rw[cond_true];have v:fu l s (fg (l.getD n [])) (n+1)=fu l s (fg (l.getD n [])) n++[n]:=by rw[F2,if_pos ⟨hw,rfl⟩]
  have q:∀ k,fg (l.getD n [])≠k→fu l s k (n+1)=fu l s k n:=fun k hk=>by rw[F2,if_neg (fun e=>hk e.2),cY]
  have I:=Qq (fg (l.getD n [])) n L;have U:=h.F3;have M:=h.len;rcases zz (fg (l.getD n [])) L with h1|⟨A,vs,B,rfl,J⟩
  ·rw [zA n h1] at I ⊢
   refine⟨by omega,by simp; omega,?_,fun x d=>?_,fun k hk=>?_⟩
   ·rw [j6, ag0]
    refine⟨h.nd,by simp,fun a ha b hb=>?_⟩;obtain⟨e,he,rfl⟩:=dF.1 ha;simp at hb;subst hb;exact h1 e he
   ·rcases cS.1 d with d | d
    ·rw [q x.1 (Ne.symm (h1 x d))]
     exact h.pD x d
    ·have d := zZ.1 d
     subst d;show [n]=fu l s (fg (l.getD n [])) (n+1)∧[n]≠[]
     rw[v];have:fu l s (fg (l.getD n [])) n=[]:=by
      cases N:fu l s (fg (l.getD n [])) n with
      |nil=>rfl
      | cons y V =>
       obtain⟨e,he,hk⟩:=h.all (fg (l.getD n [])) (by rw[N]; simp);exact(h1 e he hk).elim
     rw[this];simp
   ·by_cases e : fg (l.getD n []) = k
    ·exact⟨_,vS _ db,e⟩
    ·rw [q k e] at hk
     obtain⟨x,d,g⟩:=h.all k hk;exact⟨x,pO _ d,g⟩
  ·rw [zB n vs B J] at I ⊢
   have u:=h.nd;rw[j6,dq]at u;have O:∀ e∈B,e.1≠fg (l.getD n []):=fun e he hk=>by
    have:=(ag0.1 u).2.1;rw[lI]at this;exact this.1 (hk▸dF.2 ⟨e,he,rfl⟩)
   refine⟨by omega,by simp at M⊢; omega,?_,fun x d=>?_,fun k hk=>?_⟩
   ·rw [j6, dq]
    exact u
   ·rcases cS.1 d with d | d
    ·rw [q x.1 (Ne.symm (J x d))]
     exact h.pD x (pO _ d)
    ·rcases bV.1 d with rfl | d
     ·have := h.pD (fg (l.getD n []), vs) (by simp)
      simp only at this⊢;rw[v,←this.1];simp
     ·rw [q x.1 (Ne.symm (O x d))]
      exact h.pD x (vS _ (df _ d))
   ·by_cases e : fg (l.getD n []) = k
    ·exact⟨_,vS _ db,e⟩
    ·rw [q k e] at hk
     obtain⟨x,d,g⟩:=h.all k hk;rcases cS.1 d with d|d
     ·exact⟨x,pO _ d,g⟩
     ·rcases bV.1 d with rfl | d
      ·exact(e g).elim
      ·exact⟨x,vS _ (df _ d),g⟩
theorem GI.to(l:List (List G))(s:ByteArray):∀ n,GI l s n (lu l s n)
 |0=>GI.zero l s
 | n+1=>by
  rw[Qr];exact(GI.to l s n).step
def fv(l:List (List G))(s:ByteArray):List (GK × List Nat):=lu l s l.length
theorem aeS(l:List (List G))(B:l.length≤100000)(s:ByteArray) :
  jR rL [.l [],.i 0,.s s,.l l,.i (l.length:Int),.i 0] fun c g=>c=0∧g=[.l (bx 0 (fv l s)),.i ((fv l s).length:Int)]:=by
 have r:=WE (st:=rL) (σ:=List (GK × List Nat)) (fun L i=>[.l (bx 0 L),.i (L.length:Int),.s s,.l l,.i (l.length:Int),.i (i:Int)]) l (fun L=>(0,[.l (bx 0 L),.i (L.length:Int)]))
  (fun L i=>L=lu l s i) [] (by omega) rfl
  (fun L i z d hi q hm I => by
   have u:=GI.to l s i;rw[←d]at u;have J:=u.F3;have k:mq l s L i=lu l s (i+1):=by rw[Qr,d]
   obtain⟨v,a2,a3,a4,a5⟩:=aeR L (fg z) i;unfold rL
   (dsimp +instances only[Aa,Ab,Ac,Ad,Ae,Af,Ag])
   simp only[a7,q];refine aa.p (aa.p ?_);have y:([.s (gi z 2).str,.i (gi z 1).int]:List G)=dc (fg z):=rfl;rw[y,a4,a5];refine aa.test (fun h=>?_) fun h=>?_
   ·have e:mq l s L i=jW (fg z) i L:=by
     unfold mq kH;rw[q,show ((FW z).toList==s.toList)=true from h,cond_true]
    rw[e]at k;exact aa.pos v (aa.pos (by simp; omega) (aa.pos (by rw[a3]; simp) (aa.p (aa.some ⟨_,rfl,k⟩))))
   ·have e:mq l s L i=L:=by
     unfold mq kH;rw[q,show ((FW z).toList==s.toList)=false from h,cond_false]
    rw[e]at k;exact aa.p (aa.some ⟨L,rfl,k⟩))
  (fun L d => by
   unfold rL
   (dsimp +instances only[Aa,Ab,Ac,Ad,Ae,Af,Ag])
   simp only[a7];exact aa.n (aa.some rfl))
 refine r.mono ?_;rintro c g ⟨L,d,rfl,rfl⟩;exact⟨rfl,by rw[d]; rfl⟩
theorem Qs:∀(i:Nat) (L:List (GK × List Nat)),xS (bx i L)=true
 |_,[]=>rfl
 | i,e::L=>by
  have:=Qs (i+1) L;unfold xS at this⊢;rw[bx,List.all_cons,this];rfl
theorem Qt(l:List (List G))(d:l.length≤100000)(s:ByteArray):uV [.l l,.s s]=some [.l (bx 0 (fv l s)),.i ((fv l s).length:Int)]:=by
 refine aa.toEq ?_;unfold uV
 (dsimp +instances only[Aa,Ab,Ac,Ad,Ae,Af,Ag])
 refine aa.loop (aeS l d s) (by first|rfl|simp) ?_;rintro _ _ ⟨rfl,rfl⟩
 (dsimp +instances only[Aa,Ab,Ac,Ad,Ae,Af,Ag])
 simp only[a7];exact aa.pos (by rw[Qs]; rfl) (aa.some rfl)
theorem aeT(l:List (List G))(s:ByteArray)(k:GK):aA [.str,.int .i64] (bx 0 (fv l s)) (dc k) [.l []]=[.l (bE (fu l s k l.length))]:=by
 have g:=GI.to l s l.length;show aA [.str,.int .i64] (bx 0 (lu l s l.length)) (dc k) [.l []]=_
 rcases zz k (lu l s l.length)with h1|⟨A,vs,B,he,h⟩
 ·have:fu l s k l.length=[]:=by
   cases d:fu l s k l.length with
   |nil=>rfl
   | cons y u =>
    obtain⟨e,he,hk⟩:=g.all k (by rw[d]; simp);exact(h1 e he hk).elim
  unfold aA;rw[Qm h1,this];rfl
 ·have q:bT [.str,.int .i64] (dc k) (bx 0 (lu l s l.length)) 0=some (A.length,iS A.length (k,vs)):=by
   rw[he,sf,bx,cP];exact Qn h 0 (iS A.length (k,vs)) rfl _
  have d:=g.pD (k,vs) (by rw[he]; simp);unfold aA;rw[q];show [G.l (bE vs)]=_
  rw[show vs=fu l s k l.length from d.1]
def F4(A B:List (List G))(off:Int)(X Y:List Nat):List (Nat × Nat):=gF (mn X.length Y.length (eW A B X Y off) (wJ A B X Y)) Y.length (eW A B X Y off) (wJ A B X Y) X.length 0 0
def gq(A:List (List G))(d:ByteArray)(k:GK):List Nat:=fu A d k A.length
def lv(A B:List (List G))(ac d:ByteArray)(off:Int)(k:GK):List (List G):=(F4 A B off (gq A d k) (gq B ac k)).map (nR (gq A d k) (gq B ac k))
def h_(A B:List (List G))(ac d:ByteArray)(off:Int):List (List G):=((fv A d).map fun e=>lv A B ac d off e.1).flatten
def kI(r s:List G):Int:=gl (gi r 0).int (gi s 0).int
def jX(A B:List (List G))(ac d:ByteArray)(off:Int):List (List G):=dp (bY kI) (h_ A B ac d off)
theorem mr{A:List (List G)}{s:ByteArray}{k:GK}{i:Nat}:i∈gq A s k↔i<A.length∧kH A s i=true∧fg (A.getD i [])=k:=by
 unfold gq fu;rw[List.mem_filter,eP,aB,decide_eq_true_eq]
theorem Qu(A:List (List G))(s:ByteArray)(k:GK):(gq A s k).length≤A.length:=by
 unfold gq fu;have:=List.length_filter_le (fun i=>kH A s i&&decide (fg (A.getD i [])=k)) (dG A.length)
 rwa [sA]at this
theorem aeU(A:List (List G))(s:ByteArray)(k:GK):(gq A s k).Pairwise (·<·):=(List.pairwise_lt_range).filter _
structure gr (A B:List (List G)):Prop where
 ha:∀ z∈A,eD z
 hb:∀ z∈B,eD z
 na:A.length≤1000
 nb:B.length≤1000
theorem gr.flip{A B:List (List G)}(h:gr A B):gr B A:=⟨h.hb,h.ha,h.nb,h.na⟩
theorem gr.jc{A B:List (List G)}(h:gr A B)(ac d:ByteArray)(k:GK):JC A B (gq A d k) (gq B ac k):=by
 have h1:=h.na;have g:=h.nb;have q:=Qu A d k;have u:=Qu B ac k;exact⟨h.ha,h.hb,fun i hi=>(mr.1 hi).1,fun i hi=>(mr.1 hi).1,by omega,by omega,by omega,by omega⟩
theorem F5{A B:List (List G)}{off:Int}{X Y:List Nat}{x:Nat × Nat}(h:x∈F4 A B off X Y):x.1<X.length∧x.2<Y.length∧eW A B X Y off x.1 x.2=true:=by
 obtain⟨_,b,_,d,e⟩:=zt _ _ _ x h;exact⟨by omega,d,e⟩
theorem aeV(A B:List (List G))(off:Int)(X Y:List Nat):(F4 A B off X Y).length≤X.length:=by
 have key:∀(F:Nat→Nat→Int) (m:Nat) (ok:Nat→Nat→Bool) (w:Nat→Nat→Int) (t i f:Nat),(gF F m ok w t i f).length≤t:=by
  intro F m ok w t
  induction t with
  |zero=>intro i f; exact aG _
  | succ t d =>
   intro i f;rw[gF];split
   ·rw [cB]
    exact Nat.succ_le_succ (d _ _)
   ·exact RS (d _ _)
 exact key _ _ _ _ _ _ _
/-! ### d program -/
def F6(r:List G):Prop:=∃ i k:Nat,r=[.i (i:Int),.i (k:Int)]∧i≤100000∧k≤100000
theorem aeW:rm rP F6 kI:=by
 rintro _ _ ⟨i,k,rfl,h1,g⟩ ⟨d,k',rfl,h,q⟩;refine⟨(i:Int)-(d:Int),?_,?_⟩
 ·refine aa.toEq ?_
  unfold rP
  (dsimp +instances only[Aa,Ab,Ac,Ad,Ae,Af,Ag])
  exact aa.pos (kq.2 ⟨by omega,by omega⟩) (aa.some rfl)
 ·show (i : Int) - (d : Int) < 0 ↔ gl (i : Int) (d : Int) < 0
  rw[r9];omega
theorem F7:eV (bY kI) (fun _=>True):=aeD (fun a b=>Qc.flip _ _) fun a b d h1 g=>Qc.le _ _ _ h1 g
theorem F8{A B:List (List G)}(h:gr A B){ac d:ByteArray}{off:Int}{k:GK}{r:List G}(g:r∈lv A B ac d off k) :
  ∃ i j:Nat,r=[.i (i:Int),.i (j:Int)]∧i∈gq A d k∧j∈gq B ac k∧sa off (A.getD i []) (B.getD j [])=true:=by
 obtain⟨x,q,rfl⟩:=dF.1 g;obtain⟨a,b,c⟩:=F5 q;exact⟨_,_,rfl,sc a,sc b,c⟩
theorem F9{A B:List (List G)}(h:gr A B){ac g:ByteArray}{off:Int}{r:List G}(d:r∈h_ A B ac g off) :
  ∃(k:GK) (i j:Nat),r=[.i (i:Int),.i (j:Int)]∧i∈gq A g k∧j∈gq B ac k∧sa off (A.getD i []) (B.getD j [])=true:=by
 obtain⟨l,q,d⟩:=List.mem_flatten.1 d;obtain⟨e,_,rfl⟩:=dF.1 q;obtain⟨i,j,h1⟩:=F8 h d;exact⟨_,i,j,h1⟩
theorem F_{A B:List (List G)}(h:gr A B){ac d:ByteArray}{off:Int}:∀ r∈h_ A B ac d off,F6 r:=fun r g=>by
 obtain⟨k,i,j,rfl,h1,q,_⟩:=F9 h g;have:=(mr.1 h1).1;have:=(mr.1 q).1;have:=h.na;have:=h.nb;exact⟨i,j,rfl,by omega,by omega⟩
theorem F'{A B:List (List G)}(h:gr A B)(ac d:ByteArray)(off:Int):(h_ A B ac d off).Pairwise fun a b=>(gi a 0).int≠(gi b 0).int:=by
 have M:=GI.to A d A.length;unfold h_;rw[List.pairwise_flatten];refine⟨fun l N=>?_,?_⟩
 ·obtain ⟨e, _, rfl⟩ := dF.1 N
  unfold lv;rw[vV];refine(FV _ _ _).imp_of_mem fun {x y} g k v he=>?_;obtain⟨q,_,_⟩:=F5 (A:=A) (B:=B) (off:=off) g;obtain⟨b1,_,_⟩:=F5 (A:=A) (B:=B) (off:=off) k;have he:(((gq A d e.1).getD x.1 0:Nat):Int)=(((gq A d e.1).getD y.1 0:Nat):Int):=he;have U:=RL.1 (aeU A d e.1) x.1 y.1 q b1 v.1;rw[ch,bI q,ch,bI b1]at he;simp only[lH]at he;omega
 ·rw [vV]
  have I:(fv A d).Pairwise fun e e'=>e.1≠e'.1:=by
   have:=M.nd;unfold RT at this
   rwa [vV]at this
  refine I.imp fun {e e'} J x g y k he=>?_;obtain⟨i,j,rfl,h1,_⟩:=F8 h g;obtain⟨u,V,rfl,O,_⟩:=F8 h k;have he:(i:Int)=(u:Int):=he;have he:i=u:=by omega
  subst he;exact J ((mr.1 h1).2.2.symm.trans (mr.1 O).2.2)
theorem Qv{A B:List (List G)}(h:gr A B)(ac d:ByteArray)(off:Int):∀ a∈h_ A B ac d off,∀ b∈h_ A B ac d off,bY kI a b=false→bY kI b a=false→a=b:=by
 intro a ha b hb h1 k;unfold bY kI at h1 k;rw[dV,decide_eq_false_iff_not,r9]at h1 k;have he:(gi a 0).int=(gi b 0).int:=by omega
 obtain⟨i,hi,rfl⟩:=n3 ha;obtain⟨j,q,rfl⟩:=n3 hb;have u:=RL.1 (F' h ac d off);rcases ag1 i j with g|g|g
 ·exact(u i j hi q g he).elim
 ·subst g; rfl
 ·exact(u j i q hi g he.symm).elim
theorem aeX{A B:List (List G)}(h:gr A B)(ac d:ByteArray)(off:Int){out:List (List G)}(g:out.Perm (h_ A B ac d off))(k:out.length<100000):rQ [.l out]=some [.l (jX A B ac d off)]:=by
 have h1:=WY (C:=rP) (Q:=F6) aeW (F7.mono fun _ _=>trivial) out (fun y q=>F_ h y (g.mem_iff.1 q)) k fun a ha b hb=>Qv h ac d off a (g.mem_iff.1 ha) b (g.mem_iff.1 hb);unfold rQ;rw[h1];have e:dp (bY kI) (h_ A B ac d off)=dp (bY kI) out:=WU F7 g.symm (fun _ _=>trivial) (Qv h ac d off);rw[←e];rfl
def zC(r:List G):GK:=((gi (gi r 0).row 0).str,(gi (gi r 0).row 1).int)
theorem Qw:∀(i:Nat) (L:List (GK × List Nat)) (r:List G),r∈bx i L→∃(j:Nat) (e:GK × List Nat),e∈L∧r=iS j e
 |_,[],_,h=>by cases h
 | i,e::L,r,h=>by
  rcases bV.1 h with rfl|h
  ·exact⟨i,e,db,rfl⟩
  ·obtain ⟨j, e', h1, d⟩ := Qw (i + 1) L r h
   exact⟨j,e',df _ h1,d⟩
theorem Qx{β:Type}(f:GK→β):∀(i:Nat) (L:List (GK × List Nat)),(bx i L).map (fun r=>f (zC r))=L.map fun e=>f e.1
 |_,[]=>rfl
 | i,e::L=>by
  simp only[bx,dq,Qx f (i+1) L];rfl
theorem Qy:∀(i:Nat) (L:List (GK × List Nat)),(bx i L).map cV=(dG L.length).map (i+·)
 |_,[]=>rfl
 | i,e::L=>by
  simp only[bx,dq,Qy (i+1) L,cB,List.range_succ_eq_map,List.map_map];rw[show cV (iS i e)=i from by simp[cV,iS,gi,G.int]];congr 1;refine List.map_congr_left fun x _=>?_;simp only[GZ];omega
theorem Qz:∀ l:List Nat,l.Nodup→nodupB l=true
 | [],_=>rfl
 | a::l,d=>by
  obtain⟨h1,g⟩:=lI.1 d;simp only[nodupB,Qz l g,fH,mE];cases h:l.any (ad a)with
  |false=>rfl
  | true =>
   obtain⟨x,k,e⟩:=jy.1 h;rw[Nat.eq_of_beq_eq_true e]at h1;exact(h1 k).elim
theorem aeY(L:List (GK × List Nat)):lb (bx 0 L) L.length=true:=by
 have hb:(bx 0 L).map cV=dG L.length:=by
  rw[Qy];simp
 unfold lb;rw[hb,aB];refine⟨Qz _ List.nodup_range,?_⟩;rw[cO];intro r d;have:cV r∈(bx 0 L).map cV:=dF.2 ⟨r,d,rfl⟩;rw[hb,eP]at this;simpa using this
theorem aeZ{st:List G→List G→Option (List G)}{ba:List G→Nat}{r:List G}{q:List (List G)}{d d':List G}(h:st r d=some d')(ha:ba d'=ba d):cJ st ba (r::q) d=cJ st ba q d':=by
 simp only[cJ,h];rw[ha,show ad (ba d) (ba d)=true from vT _,cond_true]
theorem QA{A B:List (List G)}(h:gr A B)(ac g:ByteArray)(off:Int)(clk ba:Nat):∀(q out:List (List G)),(∀ r∈q,r∈bx 0 (fv A g))→out.length+1000*q.length≤1000000 →
  cJ y8 (fun d=>(gi d 8).int.toNat) q [.s ac,.l A,.s g,.l B,.l (bx 0 (fv B ac)),.i (clk:Int),.l out,.i off,.i (ba:Int)] =
   some [.s ac,.l A,.s g,.l B,.l (bx 0 (fv B ac)),.i (clk:Int),.l (out++(q.map fun r=>lv A B ac g off (zC r)).flatten),.i off,.i (ba:Int)]
 | [],out,_,_=>by simp[cJ]
 | r::q,out,k,u=>by
  simp only[cB]at u;obtain⟨j,e,he,rfl⟩:=Qw 0 _ r (k r db);have v:=(GI.to A g A.length).pD e he;have hk:zC (iS j e)=e.1:=rfl;have hX:e.2=gq A g e.1:=v.1;have J:=h.jc ac g e.1;have hlen:(lv A B ac g off e.1).length≤1000:=by
   unfold lv;rw[dE];exact mw (aeV _ _ _ _ _) J.nX
  have st:y8 (iS j e) [.s ac,.l A,.s g,.l B,.l (bx 0 (fv B ac)),.i (clk:Int),.l out,.i off,.i (ba:Int)]=some [.s ac,.l A,.s g,.l B,.l (bx 0 (fv B ac)),.i (clk:Int),.l (out++lv A B ac g off e.1),.i off,.i (ba:Int)]:=by
   have y:(gi (gi (iS j e) 1).row 0).rows=bE e.2:=rfl;have I:aI [.str,.int .i64] (gi (iS j e) 0).row=dc e.1:=rfl;refine aa.toEq ?_;unfold y8;rw[y,I]
   (dsimp +instances only[Aa,Ab,Ac,Ad,Ae,Af,Ag])
   rw[aeT,hX]
   (dsimp +instances only[Aa,Ab,Ac,Ad,Ae,Af,Ag])
   refine aa.cE (aeN J off (aeF _ _ _ _)) ?_
   (dsimp +instances only[Aa,Ab,Ac,Ad,Ae,Af,Ag])
   simp only[a7];exact aa.pos (by
    show ((ad out.length out.length)&&decide (out.length+(lv A B ac g off e.1).length≤1048576))=true
    rw[vT,pM,decide_eq_true_eq];omega) (aa.pos (by rw[vT]; rfl) (aa.some rfl))
  rw[aeZ st rfl,QA h ac g off clk ba q _ (fun x M=>k x (df _ M)) (by rw[fi]; omega)];rw[dq,List.flatten_cons,hk,gu]
theorem zD:∀(n:Nat) (l:List Nat),l.Nodup→(∀ x∈l,x<n)→l.length≤n
 | 0,l,_,h=>by
  cases l with
  |nil=>exact aG _
  |cons x l=>exact absurd (h x db) (by omega)
 | n+1,l,g,h=>by
  by_cases hm:n∈l
  ·have h1:=zD n (l.erase n) (g.erase n) fun x d=>by
    have k:=h x (List.mem_of_mem_erase d);have q:x≠n:=fun e=>by
     subst e;exact(List.Nodup.not_mem_erase g) d
    omega
   rw[List.length_erase_of_mem hm]at h1;omega
  ·have:=zD n l g fun x d=>by
    have k:=h x d;have q:x≠n:=fun e=>hm (e▸d);omega
   omega
theorem ae0{A B:List (List G)}(h:gr A B)(ac d:ByteArray)(off:Int) :
  ES [.s ac,.l A,.s d,.l B,.l (bx 0 (fv A d)),.i ((fv A d).length:Int),.l (bx 0 (fv B ac)),.i ((fv B ac).length:Int),.l [],.i off]=some (some 0,[.l (jX A B ac d off)]):=by
 have O:=GI.to A d A.length;have U:=O.len;have na:=h.na;show jo y9 y_ (bx 0 (fv A d)) (((fv A d).length:Int).toNat) _=_
 rw[a7];refine WV (aeY _) fun b p q=>⟨rfl,?_⟩
 have hpn:p.length≤1000:=by
  have:=q.length_eq;rw[vq]at this;have:(fv A d).length≤A.length:=U;omega
 have v:((p.map fun r=>lv A B ac d off (zC r)).flatten).Perm (h_ A B ac d off):=by
  unfold h_;rw[←Qx (fun k=>lv A B ac d off k) 0 (fv A d)];exact(q.map _).flatten
 have hall:(h_ A B ac d off).length≤1000:=by
  have M:((h_ A B ac d off).map fun r=>(gi r 0).int.toNat).Nodup:=by
   unfold RT;rw[vV];refine(F' h ac d off).imp_of_mem fun {x y} g V N he=>N ?_;obtain⟨i,k,rfl,_⟩:=F_ h x g;obtain⟨I,k',rfl,_⟩:=F_ h y V;have he:((i:Int)).toNat=((I:Int)).toNat:=he;show (i:Int)=(I:Int)
   omega
  have J:((h_ A B ac d off).map fun r=>(gi r 0).int.toNat) ⊆ dG A.length:=by
   intro x g;obtain⟨r,u,rfl⟩:=dF.1 g;obtain⟨k,i,j,rfl,h1,_⟩:=F9 h u;rw[eP];exact(mr.1 h1).1
  have:=zD A.length _ M fun x g=>eP.1 (J g);rw[dE]at this;omega
 refine⟨_,QA h ac d off (fv B ac).length b p [] (fun r u=>q.mem_iff.1 u) (by simp; omega),?_⟩;rw[kM];refine aa.toEq ?_;unfold y_
 (dsimp +instances only[Aa,Ab,Ac,Ad,Ae,Af,Ag])
 have W:=v.length_eq;refine aa.nH (aa.eq (aeX h ac d off v (by omega))) (by simp) ?_;rintro _ rfl
 (dsimp +instances only[Aa,Ab,Ac,Ad,Ae,Af,Ag])
 refine aa.pos ?_ (aa.some rfl);rw[W];unfold jX;rw[CK,vT];rfl
theorem ae1{A B:List (List G)}(h:gr A B)(ac d:ByteArray)(off:Int):za [.l [[.s ac,.l A]],.l [[.s d,.l B]],.i off]=some [.l (jX A B ac d off)]:=by
 have na:=h.na;have nb:=h.nb;refine aa.toEq ?_;unfold za
 (dsimp +instances only[Aa,Ab,Ac,Ad,Ae,Af,Ag])
 refine aa.cE (Qt A (by omega) d) ?_
 (dsimp +instances only[Aa,Ab,Ac,Ad,Ae,Af,Ag])
 refine aa.cE (Qt B (by omega) ac) ?_
 (dsimp +instances only[Aa,Ab,Ac,Ad,Ae,Af,Ag])
 simp only[a7];refine aa.tail (P:=fun u g=>u=0∧g=[.l (jX A B ac d off)]) ⟨_,ae0 h ac d off,0,rfl,rfl,rfl⟩ (by first|rfl|simp) ?_;rintro _ _ ⟨rfl,rfl⟩
 (dsimp +instances only[Aa,Ab,Ac,Ad,Ae,Af,Ag])
 exact aa.pos (by simp) (aa.some rfl)
/-! ### g sorted d -/
theorem QB(A B:List (List G))(ac d:ByteArray)(off:Int):(jX A B ac d off).Perm (h_ A B ac d off):=rk (lt:=bY kI) _
theorem ae2{A B:List (List G)}(h:gr A B)(ac d:ByteArray)(off:Int):(jX A B ac d off).Pairwise fun a b=>(gi a 0).int<(gi b 0).int:=by
 have h1:=yz (lt:=bY kI) F7 (l:=h_ A B ac d off) (fun _ _=>trivial);have k:(jX A B ac d off).Pairwise fun a b=>(gi a 0).int≠(gi b 0).int:=(F' h ac d off).perm (QB A B ac d off).symm (fun g e=>g e.symm);refine h1.imp₂ (fun {a b} g1 g2=>?_) k;unfold bY kI at g1;rw[dV,decide_eq_false_iff_not,r9]at g1;omega
theorem zF{A B:List (List G)}(h:gr A B){ac d:ByteArray}{off:Int}{r:List G}(q:r∈jX A B ac d off) :
  ∃ i j:Nat,r=[.i (i:Int),.i (j:Int)]∧i<A.length∧j<B.length∧kH A d i=true∧kH B ac j=true∧sa off (A.getD i []) (B.getD j [])=true:=by
 obtain⟨k,i,j,rfl,h1,u,v⟩:=F9 h ((QB A B ac d off).mem_iff.1 q);have g:=mr.1 h1;have a2:=mr.1 u;exact⟨i,j,rfl,g.1,a2.1,g.2.1,a2.2.1,v⟩
theorem ae3{A B:List (List G)}(h:gr A B)(ac d:ByteArray)(off:Int):(jX A B ac d off).length≤A.length:=by
 have k:((jX A B ac d off).map fun r=>(gi r 0).int.toNat).Nodup:=by
  unfold RT;rw[vV];refine((ae2 h ac d off).imp_of_mem ?_);intro a b ha hb q e;obtain⟨i,j,rfl,_⟩:=zF h ha;obtain⟨g,y,rfl,_⟩:=zF h hb;have I:((i:Int)).toNat=((g:Int)).toNat:=e;have e':i=g:=by omega
  subst e';exact absurd q (Int.lt_irrefl _)
 have:=zD A.length _ k fun x u=>by
  obtain⟨r,v,rfl⟩:=dF.1 u;obtain⟨i,j,rfl,hi,_⟩:=zF h v;show ((i:Int).toNat)<_
  rwa [a7]
 simpa using this
theorem nT(ks:List Kd)(r:List G)(rs:List (List G))(key:List G):cq ks (r::rs) key=bif a_ ks key (gi r 0).row then jI r else cq ks rs key:=by
 unfold cq;simp only[bT];cases a_ ks key (gi r 0).row with
 |true=>rfl
 | false =>
  simp only[cond_false];rw[mf ks key rs (0+1)];cases bT ks key rs 0<;>rfl
theorem nU(ks:List Kd)(r:List G)(rs:List (List G))(key:List G):d_ ks (r::rs) key=bif a_ ks key (gi r 0).row then (gi r 3).bool else d_ ks rs key:=by
 unfold d_;simp only[bT];cases a_ ks key (gi r 0).row with
 |true=>rfl
 | false =>
  simp only[cond_false];rw[mf ks key rs (0+1)];cases bT ks key rs 0<;>rfl
theorem QC(ks:List Kd)(r:List G)(rs:List (List G))(key:List G):gb ks (r::rs) key=bif a_ ks key (gi r 0).row then [gi r 0,gi r 1,gi r 2,.t false]::rs else r::gb ks rs key:=by
 unfold gb;simp only[bT];cases a_ ks key (gi r 0).row with
 |true=>rfl
 | false =>
  simp only[cond_false];rw[mf ks key rs (0+1)];cases bT ks key rs 0<;>rfl
theorem QD(ks:List Kd)(r:List G)(rs:List (List G))(key:List G)(v:List (List G))(c:Nat):ku ks (r::rs) key v c=bif a_ ks key (gi r 0).row then [.l [key],.l [[.l v]],.i (gi r 2).int,.t true]::rs else r::ku ks rs key v c:=by
 unfold ku;simp only[bT];cases a_ ks key (gi r 0).row with
 |true=>rfl
 | false =>
  simp only[cond_false];rw[mf ks key rs (0+1)];cases bT ks key rs 0<;>rfl
theorem Ga(ks:List Kd)(k key:List G):∀ rows:List (List G),cq ks (gb ks rows k) key=cq ks rows key
 | []=>rfl
 | r::rs=>by
  rw[QC];cases h:a_ ks k (gi r 0).row with
  | true =>
   rw[cond_true,nT,nT];rfl
  |false=>rw[cond_false,nT,nT,Ga ks k key rs]
theorem Gb(ks:List Kd){k key:List G}(d:a_ ks key k=false):∀ rows:List (List G),d_ ks (gb ks rows k) key=d_ ks rows key
 | []=>rfl
 | r::rs=>by
  rw[QC];cases h:a_ ks k (gi r 0).row with
  | true =>
   have e:a_ ks key (gi r 0).row=false:=by rw[←uD h]; exact d
   rw[cond_true,nU,nU,e];show (bif a_ ks key (gi r 0).row then _ else _)=_
   rw[e];rfl
  |false=>rw[cond_false,nU,nU,Gb ks d rs]
theorem QE(ks:List Kd)(k key:List G)(v:List (List G))(c:Nat):∀ rows:List (List G),cq ks (ku ks rows k v c) key=bif a_ ks key k then v else cq ks rows key
 | []=>by
  show cq ks [[.l [k],.l [[.l v]],.i (c:Int),.t true]] key=_
  rw[nT];rfl
 | r::rs=>by
  rw[QD,nT];cases h:a_ ks k (gi r 0).row with
  | true =>
   rw[cond_true,nT];have e:a_ ks key (gi r 0).row=a_ ks key k:=(uD h).symm;rw[e];show (bif a_ ks key k then _ else _)=_
   cases a_ ks key k<;>rfl
  | false =>
   rw[cond_false,nT,QE ks k key v c rs];cases d:a_ ks key (gi r 0).row with
   |false=>rfl
   | true =>
    cases g:a_ ks key k with
    |false=>rfl
    | true =>
     have:a_ ks k (gi r 0).row=true:=rb (by rw[pd]; exact g) d;rw[this]at h;cases h
theorem QF(ks:List Kd)(k key:List G)(v:List (List G))(c:Nat):∀ rows:List (List G),d_ ks (ku ks rows k v c) key=bif a_ ks key k then true else d_ ks rows key
 | []=>by
  show d_ ks [[.l [k],.l [[.l v]],.i (c:Int),.t true]] key=_
  rw[nU];rfl
 | r::rs=>by
  rw[QD,nU];cases h:a_ ks k (gi r 0).row with
  | true =>
   rw[cond_true,nU];have e:a_ ks key (gi r 0).row=a_ ks key k:=(uD h).symm;rw[e];show (bif a_ ks key k then _ else _)=_
   cases a_ ks key k<;>rfl
  | false =>
   rw[cond_false,nU,QF ks k key v c rs];cases d:a_ ks key (gi r 0).row with
   |false=>rfl
   | true =>
    cases g:a_ ks key k with
    |false=>rfl
    | true =>
     have:a_ ks k (gi r 0).row=true:=rb (by rw[pd]; exact g) d;rw[this]at h;cases h
theorem vt(s k:ByteArray):a_ [.str] [.s s] [.s k]=decide (s=k):=by
 show ((s.toList==k.toList)&&true)=_
 rw[fH,zq]
structure fQ (Q:List G→Prop) (m:List (List G)) (n:ByteArray→Nat):Prop where
 d_:∀ k,d_ [.str] m [.s k]=true
 get:∀ k,(cq [.str] m [.s k]).length≤n k∧∀ z∈cq [.str] m [.s k],Q z
theorem fQ.nil(Q:List G→Prop):fQ Q [] fun _=>0:=⟨fun _=>rfl,fun _=>⟨aG _,by intro z d; cases d⟩⟩
theorem fQ.add{Q:List G→Prop}{m:List (List G)}{n:ByteArray→Nat}(h:fQ Q m n)(k:ByteArray){x:List G}(q:Q x)(c:Nat) :
  fQ Q (ku [.str] (gb [.str] m [.s k]) [.s k] (cq [.str] m [.s k]++[x]) c) fun s=>if s=k then n s+1 else n s:=by
 refine⟨fun s=>?_,fun s=>?_⟩
 ·rw [QF, vt]
  by_cases e:s=k
  ·rw[decide_eq_true e]; rfl
  ·rw [decide_eq_false e, cond_false, Gb _ (by rw [vt]; exact decide_eq_false e)]
   exact h.d_ s
 ·rw [QE, vt]
  obtain⟨h1,g⟩:=h.get s;by_cases e:s=k
  ·subst e
   rw[decide_eq_true rfl,cond_true];simp only[if_true];refine⟨by rw[fi]; simp; omega,fun z d=>?_⟩;rcases cS.1 d with d|d
   ·exact g z d
   ·rw[zZ.1 d]; exact q
  ·rw [decide_eq_false e, cond_false, Ga]
   simp only[if_neg e];exact⟨h1,g⟩
theorem fQ.mono{Q:List G→Prop}{m:List (List G)}{n d:ByteArray→Nat}(h:fQ Q m n)(g:∀ k,n k≤d k):fQ Q m d :=
 ⟨h.d_,fun k=>⟨mw (h.get k).1 (g k),(h.get k).2⟩⟩
def jt(r:List G):Prop:=dC r∧0≤(gi r 0).int∧(gi r 0).int≤1000000
theorem ae4{t m s h:Int}{b c x y:ByteArray}(d:0≤t∧t≤1000000)(hm:0≤m∧m≤10)(hb:b∈kG)(g:c∈calls)(u:0≤s∧s≤1000)(v:0≤h∧h≤1000)(k:x∈names)(q:y∈names) :
  jt [.i t,.i m,.s b,.s c,.i s,.i h,.s x,.s y] :=
 ⟨⟨t,m,b,c,s,h,x,y,rfl,by unfold small; omega,by unfold small; omega,by unfold small; omega,by unfold small; omega,hb,g,k,q⟩,d⟩
def iT(m:List (List G))(B:Int):Prop:=∀ k,0≤(gi (aA [.str] m [.s k] [.i 0]) 0).int∧(gi (aA [.str] m [.s k] [.i 0]) 0).int≤B
theorem iT.add{m:List (List G)}{B:Int}(h:iT m B)(k:ByteArray)(c:Nat):iT (aL [.str] m [.s k] [.i ((gi (aA [.str] m [.s k] [.i 0]) 0).int+1)] c) (B+1):=fun s=>by
 have h1:=h k;have d:=h s;rw[CH,vt];by_cases e:s=k
 ·rw [decide_eq_true e, cond_true]
  show 0≤(gi (aA [.str] m [.s k] [.i 0]) 0).int+1∧(gi (aA [.str] m [.s k] [.i 0]) 0).int+1≤B+1
  omega
 ·rw [decide_eq_false e, cond_false]
  omega
theorem QG{Q:List G→Prop}{l aH ser cs:List (List G)}{clk c2:Nat}{n:ByteArray→Nat}(d:fQ Q aH n){a t nn i:Int}{b:ByteArray}(O:n b≤1000){g h q u:Int}{v y B I:ByteArray}(N:Q [.i g,.i h,.s v,.s y,.i q,.i u,.s B,.s I])(f:Bool) :
  ∃(J:List (List G)) (M:Nat),rC [.l l,.i a,.l aH,.i (clk:Int),.l ser,.i (c2:Int),.l cs,.i t,.s b,.l [[.i g,.i h,.s v,.s y,.i q,.i u,.s B,.s I]],.i nn,.i i,.t f] =
   some (some 0,[.l l,.i a,.l J,.i (M:Int),.l ser,.i (c2:Int),.l cs,.i t,.i nn,.i i])∧fQ Q J (fun s=>if s=b then n s+1 else n s):=by
 have U:=(d.get b).1;cases f with
 | false =>
  refine⟨aH,clk,aa.toEq ?_,d.mono fun k=>by split<;>omega⟩;unfold rC
  (dsimp +instances only[Aa,Ab,Ac,Ad,Ae,Af,Ag])
  simp only[a7];exact aa.neg rfl (aa.some rfl)
 | true =>
  refine⟨ku [.str] (gb [.str] aH [.s b]) [.s b] (cq [.str] aH [.s b]++[[.i g,.i h,.s v,.s y,.i q,.i u,.s B,.s I]]) clk,bD [.str] (gb [.str] aH [.s b]) [.s b] clk,aa.toEq ?_,d.add b N clk⟩;unfold rC
  (dsimp +instances only[Aa,Ab,Ac,Ad,Ae,Af,Ag])
  simp only[a7];exact aa.pos rfl (aa.pos (d.d_ b) (aa.pos (by simp; omega) (aa.pos (by simp) (aa.some rfl))))
theorem QH{Q:List G→Prop}{l aH ser cs:List (List G)}{clk c2:Nat}{n:ByteArray→Nat}(y:fQ Q aH n){a t nn i:Int}(ha:0≤a)(ha1:a≤100000){b:ByteArray}(B:n b≤1000){I J M N:Int}{O k U V:ByteArray}(W:Q [.i I,.i J,.s O,.s k,.i M,.i N,.s U,.s V]) :
  ∃(d:List (List G)) (h:Nat) (q:Int),a≤q∧q≤a+1∧rD [.l l,.i a,.l aH,.i (clk:Int),.l ser,.i (c2:Int),.l cs,.i t,.s b,.l [[.i I,.i J,.s O,.s k,.i M,.i N,.s U,.s V]],.i nn,.i i] =
   some (some 0,[.l l,.i q,.l d,.i (h:Int),.l ser,.i (c2:Int),.l cs,.i t,.i nn,.i i])∧fQ Q d (fun s=>if s=b then n s+1 else n s):=by
 cases hb : !(k.toList==b.toList)with
 | false =>
  obtain⟨d,h,h1,v⟩:=QG (l:=l) (ser:=ser) (cs:=cs) (clk:=clk) (c2:=c2) y (a:=a) (t:=t) (nn:=nn) (i:=i) (b:=b) B W false;refine⟨d,h,a,sK _,by omega,aa.toEq ?_,v⟩;unfold rD
  (dsimp +instances only[Aa,Ab,Ac,Ad,Ae,Af,Ag])
  simp only[a7];refine aa.neg hb ?_;refine aa.tail (P:=fun u g=>u=0∧g=[.l l,.i a,.l d,.i (h:Int),.l ser,.i (c2:Int),.l cs,.i t,.i nn,.i i]) ⟨_,h1,0,rfl,rfl,rfl⟩ (by first|rfl|simp) ?_;rintro _ _ ⟨rfl,rfl⟩
  (dsimp +instances only[Aa,Ab,Ac,Ad,Ae,Af,Ag])
  simp only[a7];exact aa.some rfl
 | true =>
  obtain⟨_,hf,f,rfl⟩:=aes l a 8 ha (by omega) (by omega) (by omega);obtain⟨d,h,h1,v⟩:=QG (l:=l) (ser:=ser) (cs:=cs) (clk:=clk) (c2:=c2) y (a:=a+1) (t:=t) (nn:=nn) (i:=i) (b:=b) B W (!f);refine⟨d,h,a+1,by omega,sK _,aa.toEq ?_,v⟩;unfold rD
  (dsimp +instances only[Aa,Ab,Ac,Ad,Ae,Af,Ag])
  simp only[a7];refine aa.pos hb ?_;refine aa.cE hf ?_
  (dsimp +instances only[Aa,Ab,Ac,Ad,Ae,Af,Ag])
  refine aa.tail (P:=fun u g=>u=0∧g=[.l l,.i (a+1),.l d,.i (h:Int),.l ser,.i (c2:Int),.l cs,.i t,.i nn,.i i]) ⟨_,h1,0,rfl,rfl,rfl⟩ (by first|rfl|simp) ?_;rintro _ _ ⟨rfl,rfl⟩
  (dsimp +instances only[Aa,Ab,Ac,Ad,Ae,Af,Ag])
  simp only[a7];exact aa.some rfl
theorem sg{Q:List G→Prop}{l aH ser cs:List (List G)}{clk c2:Nat}{n:Nat}(y:fQ Q aH fun _=>n){a t nn i:Int}(ha:0≤a)(M:a≤100000){q b:ByteArray}(hab:q≠b)(hn:n≤999){N O U V:Int}{W B x6 x7:ByteArray}(hx:Q [.i N,.i O,.s W,.s B,.i U,.i V,.s x6,.s x7]){y0 y1 y4 y5:Int}{y2 y3 y6 y7:ByteArray}(hy:Q [.i y0,.i y1,.s y2,.s y3,.i y4,.i y5,.s y6,.s y7]) :
  ∃(h:List (List G)) (v:Nat) (d:Int),a≤d∧d≤a+1∧ln [.l l,.i a,.l aH,.i (clk:Int),.l ser,.i (c2:Int),.i N,.i O,.s W,.s B,.i U,.i V,.s x6,.s x7,.l cs,.i t,.s q,.s b,.l [[.i y0,.i y1,.s y2,.s y3,.i y4,.i y5,.s y6,.s y7]],.i nn,.i i] =
   some (some 0,[.l l,.i d,.l h,.i (v:Int),.l ser,.i (c2:Int),.l cs,.i t,.i nn,.i i])∧fQ Q h (fun _=>n+1):=by
 have hl:=(y.get q).1;cases hc : !(B.toList==q.toList)with
 | false =>
  obtain⟨h,v,d,g1,g2,h1,I⟩:=QH (l:=l) (ser:=ser) (cs:=cs) (clk:=clk) (c2:=c2) y (a:=a) (t:=t) (nn:=nn) (i:=i) ha M (b:=b) (by omega) hy;refine⟨h,v,d,g1,g2,aa.toEq ?_,I.mono fun k=>by split<;>omega⟩;unfold ln
  (dsimp +instances only[Aa,Ab,Ac,Ad,Ae,Af,Ag])
  simp only[a7];refine aa.neg hc ?_;refine aa.tail (P:=fun u g=>u=0∧g=[.l l,.i d,.l h,.i (v:Int),.l ser,.i (c2:Int),.l cs,.i t,.i nn,.i i]) ⟨_,h1,0,rfl,rfl,rfl⟩ (by first|rfl|simp) ?_;rintro _ _ ⟨rfl,rfl⟩
  (dsimp +instances only[Aa,Ab,Ac,Ad,Ae,Af,Ag])
  simp only[a7];exact aa.some rfl
 | true =>
  obtain⟨h,v,d,g1,g2,h1,I⟩:=QH (l:=l) (ser:=ser) (cs:=cs) (clk:=bD [.str] (gb [.str] aH [.s q]) [.s q] clk) (c2:=c2) (y.add q hx clk) (a:=a) (t:=t) (nn:=nn) (i:=i) ha M (b:=b) (by split<;>omega) hy;refine⟨h,v,d,g1,g2,aa.toEq ?_,I.mono fun k=>?_⟩
  ·unfold ln
   (dsimp +instances only[Aa,Ab,Ac,Ad,Ae,Af,Ag])
   simp only[a7];refine aa.pos hc (aa.pos (y.d_ q) (aa.pos (by simp; omega) (aa.pos (by simp) ?_)));refine aa.tail (P:=fun u g=>u=0∧g=[.l l,.i d,.l h,.i (v:Int),.l ser,.i (c2:Int),.l cs,.i t,.i nn,.i i]) ⟨_,h1,0,rfl,rfl,rfl⟩ (by first|rfl|simp) ?_;rintro _ _ ⟨rfl,rfl⟩
   (dsimp +instances only[Aa,Ab,Ac,Ad,Ae,Af,Ag])
   simp only[a7];exact aa.some rfl
  ·by_cases J : k = b
   ·rw [if_pos J, if_neg (fun e => hab (e.symm.trans J))]
    exact aG _
   ·rw [if_neg J]
    split<;>omega
theorem iT.mono{m:List (List G)}{B d:Int}(h:iT m B)(hb:B≤d):iT m d:=fun k=>⟨(h k).1,G_ (h k).2 hb⟩
theorem iT.nil:iT [] 0:=fun k=>⟨sK 0,sK 0⟩
theorem sk{X:Option (Option Nat × List G)}{l d ser cs:List (List G)}{k t nn i:Int}{h c2:Nat}
  (hX:X=some (some 0,[.l l,.i k,.l d,.i (h:Int),.l ser,.i (c2:Int),.l cs,.i t,.i nn,.i i])) (hi:aq (i+1)=true) :
  aa (aO true (bU X) fun v g17=>(aO true (bU (iQ [.l (gi g17 0).rows,.i (gi g17 1).int,.l (gi g17 2).rows,.i (((gi g17 3).int.toNat:Nat):Int),.l (gi g17 4).rows,.i (((gi g17 5).int.toNat:Nat):Int),.l (gi g17 6).rows,.i (gi g17 7).int,.i (gi g17 8).int,.i (gi g17 9).int])) fun y g18=>some ((none:Option Nat),([.l (gi g18 0).rows,.i (gi g18 1).int,.l (gi g18 2).rows,.i (((gi g18 3).int.toNat:Nat):Int),.l (gi g18 4).rows,.i (((gi g18 5).int.toNat:Nat):Int),.l (gi g18 6).rows,.i (gi g18 7).int,.i (gi g18 8).int,.i (gi g18 9).int]:List G))))
   fun o=>o=(none,[.l l,.i k,.l d,.i (h:Int),.l ser,.i (c2:Int),.l cs,.i t,.i nn,.i (i+1)]):=by
 refine aa.tail (P:=fun u g=>u=0∧g=[.l l,.i k,.l d,.i (h:Int),.l ser,.i (c2:Int),.l cs,.i t,.i nn,.i i]) ⟨_,hX,0,rfl,rfl,rfl⟩ (by first|rfl|simp) ?_;rintro _ _ ⟨rfl,rfl⟩
 (dsimp +instances only[Aa,Ab,Ac,Ad,Ae,Af,Ag])
 simp only[a7];have q:iQ [.l l,.i k,.l d,.i (h:Int),.l ser,.i (c2:Int),.l cs,.i t,.i nn,.i i]=some (some 0,[.l l,.i k,.l d,.i (h:Int),.l ser,.i (c2:Int),.l cs,.i t,.i nn,.i (i+1)]):=by
  refine aa.toEq ?_;unfold iQ
  (dsimp +instances only[Aa,Ab,Ac,Ad,Ae,Af,Ag])
  simp only[a7];exact aa.pos hi (aa.some rfl)
 refine aa.tail (P:=fun u g=>u=0∧g=[.l l,.i k,.l d,.i (h:Int),.l ser,.i (c2:Int),.l cs,.i t,.i nn,.i (i+1)]) ⟨_,q,0,rfl,rfl,rfl⟩ (by first|rfl|simp) ?_;rintro _ _ ⟨rfl,rfl⟩
 (dsimp +instances only[Aa,Ab,Ac,Ad,Ae,Af,Ag])
 simp only[a7];exact aa.some rfl
theorem ae5{l d ser cs:List (List G)}{k t nn i:Int}{h c2:Nat}(hi:aq (i+1)=true) :
  aa (aO true (bU (iQ [.l l,.i k,.l d,.i (h:Int),.l ser,.i (c2:Int),.l cs,.i t,.i nn,.i i])) fun v g18=>some ((none:Option Nat),([.l (gi g18 0).rows,.i (gi g18 1).int,.l (gi g18 2).rows,.i (((gi g18 3).int.toNat:Nat):Int),.l (gi g18 4).rows,.i (((gi g18 5).int.toNat:Nat):Int),.l (gi g18 6).rows,.i (gi g18 7).int,.i (gi g18 8).int,.i (gi g18 9).int]:List G)))
   fun o=>o=(none,[.l l,.i k,.l d,.i (h:Int),.l ser,.i (c2:Int),.l cs,.i t,.i nn,.i (i+1)]):=by
 have q:iQ [.l l,.i k,.l d,.i (h:Int),.l ser,.i (c2:Int),.l cs,.i t,.i nn,.i i]=some (some 0,[.l l,.i k,.l d,.i (h:Int),.l ser,.i (c2:Int),.l cs,.i t,.i nn,.i (i+1)]):=by
  refine aa.toEq ?_;unfold iQ
  (dsimp +instances only[Aa,Ab,Ac,Ad,Ae,Af,Ag])
  simp only[a7];exact aa.pos hi (aa.some rfl)
 refine aa.tail (P:=fun u g=>u=0∧g=[.l l,.i k,.l d,.i (h:Int),.l ser,.i (c2:Int),.l cs,.i t,.i nn,.i (i+1)]) ⟨_,q,0,rfl,rfl,rfl⟩ (by first|rfl|simp) ?_;rintro _ _ ⟨rfl,rfl⟩
 (dsimp +instances only[Aa,Ab,Ac,Ad,Ae,Af,Ag])
 simp only[a7];exact aa.some rfl
theorem ae6{l aH ser cs:List (List G)}{clk c2 n:Nat}{B:Int}(N:fQ jt aH fun _=>n)(hS:iT ser B)(hc0:(dH 1 cs.length&&dH cs.length 1000000)=true) (hcs:(cs.all fun x=>jT calls (gi x 0).str)=true)
  (hB:0≤B) (hB1:B≤900) {a t nn i:Int} (ha:0≤a) (ha1:a≤90000) (ht:0≤t) (ht1:t≤900000) (hn:n≤900) (hi0:0≤i) (hi:i<nn) (hnn:nn≤100000) :
  aa (rE [.l l,.i a,.l aH,.i (clk:Int),.l ser,.i (c2:Int),.l cs,.i t,.i nn,.i i]) fun o=>∃(b:Int) (g:List (List G)) (J:Nat) (ser':List (List G)) (c2':Nat) (t':Int),o=(none,[.l l,.i b,.l g,.i (J:Int),.l ser',.i (c2':Int),.l cs,.i t',.i nn,.i (i+1)]) ∧
   a≤b∧b≤a+10∧fQ jt g (fun _=>n+1)∧iT ser' (B+2)∧t≤t'∧t'≤t+1000:=by
 have M:aq (i+1)=true:=by simp only[aq,sl]<;>omega
 unfold rE
 (dsimp +instances only[Aa,Ab,Ac,Ad,Ae,Af,Ag])
 (repeat first|refine aa.p ?_|refine aa.n ?_)
 refine aa.call (FJ 0 1000 l a _ ha (by omega) (by kernel_rfl) (by kernel_rfl)) ?_;rintro _ ⟨v,rfl,hd0,hd1⟩
 (dsimp +instances only[Aa,Ab,Ac,Ad,Ae,Af,Ag])
 (repeat first|refine aa.p ?_|refine aa.n ?_)
 refine aa.call (r7 calls l (a+1) cs (by omega) (by omega) hc0 hcs) ?_;rintro _ ⟨I,rfl,hca⟩
 (dsimp +instances only[Aa,Ab,Ac,Ad,Ae,Af,Ag])
 refine aa.call (r7 calls l (a+1+1) _ (by omega) (by omega) (by kernel_rfl) (by kernel_rfl)) ?_;rintro _ ⟨b,rfl,hb⟩
 (dsimp +instances only[Aa,Ab,Ac,Ad,Ae,Af,Ag])
 simp only[a7];by_cases k:I=b
 ·refine aa.pos (by rw [k, zq]; exact decide_eq_true rfl) ?_
  refine(ae5 M).mono ?_;rintro _ rfl;exact⟨_,_,_,_,_,_,rfl,by omega,by omega,N.mono fun _=>by omega,hS.mono (by omega),by omega,by omega⟩
 refine aa.neg (by rw[zq]; exact decide_eq_false k) ?_;obtain⟨s1,e1⟩:∃ z,z=aL [.str] ser [.s I] [.i ((gi (aA [.str] ser [.s I] [.i 0]) 0).int+1)] c2:=⟨_,rfl⟩
 have hS1:iT s1 (B+1):=e1▸hS.add I c2;obtain⟨k1,f1⟩:∃ z,z=bD [.str] ser [.s I] c2:=⟨_,rfl⟩
 obtain⟨s2,e2⟩:∃ z,z=aL [.str] s1 [.s b] [.i ((gi (aA [.str] s1 [.s b] [.i 0]) 0).int+1)] k1:=⟨_,rfl⟩
 have u:iT s2 (B+2):=by
  have:=hS1.add b k1;rw[←e2]at this;exact this.mono (by omega)
 obtain⟨V,f2⟩:∃ z,z=bD [.str] s1 [.s b] k1:=⟨_,rfl⟩
 simp only[←f1,←e1];simp only[←f2,←e2];have v1:=hS I;have v2:=hS1 b;obtain⟨p,ep⟩:∃ p,p=(gi (aA [.str] s2 [.s I] [.i 0]) 0).int:=⟨_,rfl⟩
 obtain⟨q,eq⟩:∃ p,p=(gi (aA [.str] s2 [.s b] [.i 0]) 0).int:=⟨_,rfl⟩
 simp only[←ep,←eq];have v3:0≤p∧p≤B+2:=ep▸u I;have v4:0≤q∧q≤B+2:=eq▸u b
 (repeat first|refine aa.p ?_|refine aa.n ?_)
 refine aa.call (r7 kG l (a+1+1+1) _ (by omega) (by omega) (by kernel_rfl) (by kernel_rfl)) ?_;rintro _ ⟨bd,rfl,O⟩
 (dsimp +instances only[Aa,Ab,Ac,Ad,Ae,Af,Ag])
 refine aa.call (FJ 1 2 l (a+1+1+1+1) _ (by omega) (by omega) (by kernel_rfl) (by kernel_rfl)) ?_;rintro _ ⟨m,rfl,hm0,hm1⟩
 (dsimp +instances only[Aa,Ab,Ac,Ad,Ae,Af,Ag])
 refine aa.call (FJ 0 200 l (a+1+1+1+1+1) _ (by omega) (by omega) (by kernel_rfl) (by kernel_rfl)) ?_;rintro _ ⟨d2,rfl,hd2,hd3⟩
 (dsimp +instances only[Aa,Ab,Ac,Ad,Ae,Af,Ag])
 (repeat first|refine aa.p ?_|refine aa.n ?_)
 refine aa.call (vn l (a+1+1+1+1+1+1) 8 (by omega) (by omega) (by omega) (by omega)) ?_;rintro _ ⟨cs',rfl,hc3,hc4⟩
 (dsimp +instances only[Aa,Ab,Ac,Ad,Ae,Af,Ag])
 have hb':b∈calls:=hb;have hx0:(⟨#[]⟩:ByteArray)∈names:=zo (by kernel_rfl);have U:(⟨#[120]⟩:ByteArray)∈names:=zo (by kernel_rfl);have mk:∀{t' m' s h:Int} {b' c x y:ByteArray},0≤t'∧t'≤1000000→0≤m'∧m'≤10→b'∈kG→c∈calls→0≤s∧s≤1000→0≤h∧h≤1000→x∈names→y∈names→jt [.i t',.i m',.s b',.s c,.i s,.i h,.s x,.s y]:=fun h1 d h3 h4 h5 h6 h7 h8=>ae4 h1 d h3 h4 h5 h6 h7 h8;have W:∀{c:ByteArray} {h:Int} {y:ByteArray},c∈calls→0≤h∧h≤1000→y∈names→jt [.i (t+v),.i m,.s bd,.s c,.i p,.i h,.s ⟨#[]⟩,.s y]:=fun h1 d h3=>mk (by omega) (by omega) O h1 (by omega) d hx0 h3;have hy:∀{b' c:ByteArray},b'∈kG→c∈calls→jt [.i (t+v+d2),.i m,.s b',.s c,.i q,.i p,.s ⟨#[120]⟩,.s ⟨#[]⟩]:=fun h0 h1=>mk (by omega) (by omega) h0 h1 (by omega) (by omega) U hx0;by_cases c0:cs'=0
 ·refine aa.pos (by simp [c0]) ?_
  refine aa.call (r7 calls l (a+1+1+1+1+1+1+1) _ (by omega) (by omega) (by kernel_rfl) (by kernel_rfl)) ?_;rintro _ ⟨w,rfl,hw⟩
  (dsimp +instances only[Aa,Ab,Ac,Ad,Ae,Af,Ag])
  obtain⟨g,J,a',g1,g2,h1,d⟩:=sg (l:=l) (ser:=s2) (cs:=cs) (clk:=clk) (c2:=V) N (a:=a+1+1+1+1+1+1+1+1) (t:=t+v) (nn:=nn) (i:=i) (by omega) (by omega) k (by omega) (W hw (h:=q) (by omega) U) (hy O hca);refine(sk h1 M).mono ?_;rintro _ rfl;exact⟨_,_,_,_,_,_,rfl,by omega,by omega,d,u,by omega,by omega⟩
 refine aa.neg (by simp[c0]) ?_;by_cases c1:cs'=1
 ·refine aa.pos (by simp [c1]) ?_
  refine aa.call (r7 calls l (a+1+1+1+1+1+1+1) _ (by omega) (by omega) (by kernel_rfl) (by kernel_rfl)) ?_;rintro _ ⟨w,rfl,hw⟩
  (dsimp +instances only[Aa,Ab,Ac,Ad,Ae,Af,Ag])
  obtain⟨g,J,a',g1,g2,h1,d⟩:=sg (l:=l) (ser:=s2) (cs:=cs) (clk:=clk) (c2:=V) N (a:=a+1+1+1+1+1+1+1+1) (t:=t+v) (nn:=nn) (i:=i) (by omega) (by omega) k (by omega) (W hb (h:=q) (by omega) U) (hy O hw);refine(sk h1 M).mono ?_;rintro _ rfl;exact⟨_,_,_,_,_,_,rfl,by omega,by omega,d,u,by omega,by omega⟩
 refine aa.neg (by simp[c1]) ?_;by_cases c2':cs'=2
 ·refine aa.pos (by simp [c2']) ?_
  (repeat first|refine aa.p ?_|refine aa.n ?_)
  obtain⟨g,J,a',g1,g2,h1,d⟩:=sg (l:=l) (ser:=s2) (cs:=cs) (clk:=clk) (c2:=V) N (a:=a+1+1+1+1+1+1+1) (t:=t+v) (nn:=nn) (i:=i) (by omega) (by omega) k (by omega) (W hb (h:=q+1) (by omega) U) (hy O hca);refine(sk h1 M).mono ?_;rintro _ rfl;exact⟨_,_,_,_,_,_,rfl,by omega,by omega,d,u,by omega,by omega⟩
 refine aa.neg (by simp[c2']) ?_;by_cases c3:cs'=3
 ·refine aa.pos (by simp [c3]) ?_
  obtain⟨g,J,a',g1,g2,h1,d⟩:=sg (l:=l) (ser:=s2) (cs:=cs) (clk:=clk) (c2:=V) N (a:=a+1+1+1+1+1+1+1) (t:=t+v) (nn:=nn) (i:=i) (by omega) (by omega) k (by omega) (W hb (h:=q) (by omega) hx0) (hy O hca);refine(sk h1 M).mono ?_;rintro _ rfl;exact⟨_,_,_,_,_,_,rfl,by omega,by omega,d,u,by omega,by omega⟩
 refine aa.neg (by simp[c3]) ?_;by_cases c4:cs'=4
 ·refine aa.pos (by simp [c4]) ?_
  refine aa.call (r7 kG l (a+1+1+1+1+1+1+1) _ (by omega) (by omega) (by kernel_rfl) (by kernel_rfl)) ?_;rintro _ ⟨w,rfl,hw⟩
  (dsimp +instances only[Aa,Ab,Ac,Ad,Ae,Af,Ag])
  obtain⟨g,J,a',g1,g2,h1,d⟩:=sg (l:=l) (ser:=s2) (cs:=cs) (clk:=clk) (c2:=V) N (a:=a+1+1+1+1+1+1+1+1) (t:=t+v) (nn:=nn) (i:=i) (by omega) (by omega) k (by omega) (W hb (h:=q) (by omega) U) (hy hw hca);refine(sk h1 M).mono ?_;rintro _ rfl;exact⟨_,_,_,_,_,_,rfl,by omega,by omega,d,u,by omega,by omega⟩
 refine aa.neg (by simp[c4]) ?_;obtain⟨g,J,a',g1,g2,h1,d⟩:=sg (l:=l) (ser:=s2) (cs:=cs) (clk:=clk) (c2:=V) N (a:=a+1+1+1+1+1+1+1) (t:=t+v) (nn:=nn) (i:=i) (by omega) (by omega) k (by omega) (W hb (h:=q) (by omega) U) (hy O hca);refine(sk h1 M).mono ?_;rintro _ rfl;exact⟨_,_,_,_,_,_,rfl,by omega,by omega,d,u,by omega,by omega⟩
theorem QI{l cs:List (List G)}(v:(dH 1 cs.length&&dH cs.length 1000000)=true) (y:(cs.all fun x=>jT calls (gi x 0).str)=true) {n:Nat} (W:n≤14):∀(k i:Nat) (aH ser:List (List G)) (clk c2:Nat) (a t:Int),i+k=n→0≤a→a≤1000+10*i→0≤t→t≤1000*i→fQ jt aH (fun _=>i)→iT ser (2*i) →
  aV rE [.l l,.i a,.l aH,.i (clk:Int),.l ser,.i (c2:Int),.l cs,.i t,.i (n:Int),.i (i:Int)] (k+1) fun c g=>c=0∧∃(b:Int) (d:List (List G)) (q:Nat),g=[.l l,.i b,.l d,.i (q:Int),.l cs]∧a≤b∧b≤a+10*k∧fQ jt d (fun _=>n)
 | 0,i,aH,ser,clk,c2,a,t,hi,ha,O,B,U,u,I=>by
  refine aV.stop (x:=0) (aa.toEq ?_) ⟨rfl,a,aH,clk,rfl,by omega,by omega,u.mono fun _=>by omega⟩;unfold rE
  (dsimp +instances only[Aa,Ab,Ac,Ad,Ae,Af,Ag])
  simp only[a7]
  (repeat first|refine aa.p ?_|refine aa.n ?_)
  exact aa.some rfl
 | k+1,i,aH,ser,clk,c2,a,t,hi,ha,O,B,U,u,I=>by
  obtain⟨_,h,b,d,q,M,V,t',rfl,g1,g2,g3,g4,g5,g6⟩:=ae6 (l:=l) (clk:=clk) (c2:=c2) u I v y (by omega) (by omega) (a:=a) (t:=t) (nn:=n) (i:=i) ha (by omega) B (by omega) (by omega) (by omega) (by omega) (by omega);have ih:=QI (l:=l) v y W k (i+1) d M q V b t' (by omega) (by omega) (by omega) (by omega) (by omega) g3 (g4.mono (by omega));refine aV.next h (ih.mono ?_)
  rintro c g ⟨rfl,b',J,N,rfl,q1,q2,q3⟩;exact⟨rfl,b',J,N,rfl,by omega,by omega,q3⟩
def nV(r s:List G):Bool:=fG r s==0
theorem ae7:yw [.int .i64,.int .i64,.str,.str,.int .i64,.int .i64,.str,.str] uR dC nV:=⟨fun r s d g=>by
 refine aa.toEq ?_;unfold uR
 (dsimp +instances only[Aa,Ab,Ac,Ad,Ae,Af,Ag])
 simp only[d.eta,g.eta];refine aa.cE (FM d g) ?_;exact aa.some rfl,fun _ h=>h.eta⟩
def zS:List G:=[.i 0,.i 0,.s (⟨#[]⟩:ByteArray),.s (⟨#[]⟩:ByteArray),.i 0,.i 0,.s (⟨#[]⟩:ByteArray),.s (⟨#[]⟩:ByteArray)]
def Gc(c:ByteArray)(r:List G):Prop:=∃ L:List (List G),r=[.s c,.l L]∧(∀ z∈L,jt z)∧L.length≤14
def jY(c:ByteArray):List G:=[.s c]
theorem QJ{l:List (List G)}{a:Int}:∀(q p:List ByteArray) (aH acc:List (List G)) (clk:Nat),(∀ c∈q,d_ [.str] aH [.s c]=true∧(cq [.str] aH [.s c]).length≤14∧∀ z∈cq [.str] aH [.s c],jt z)→q.Pairwise (·≠·)→acc.length=p.length→p.length+q.length≤100 →
  aV rF [.l l,.i a,.l aH,.i (clk:Int),.l acc,.l ((p++q).map jY),.i ((p.length+q.length:Nat):Int),.i (p.length:Int)] (q.length+1) fun c g=>c=0∧∃ L:List (List G),g=[.l l,.i a,.l (acc++L)]∧L.length=q.length∧∀ i,i<q.length→Gc (q.getD i ⟨#[]⟩) (L.getD i [])
 | [],p,aH,acc,clk,k,u,I,N=>by
  refine aV.stop (x:=0) (aa.toEq ?_) ⟨rfl,[],rfl,rfl,fun i hi=>by cases hi⟩;unfold rF
  (dsimp +instances only[Aa,Ab,Ac,Ad,Ae,Af,Ag])
  (repeat first|refine aa.p ?_|refine aa.n ?_)
  exact aa.some (by simp)
 | c::q,p,aH,acc,clk,k,u,I,N=>by
  simp only[cB]at N;obtain⟨h1,h2,v⟩:=k c (by simp);have g1:((p++c::q).map jY).getD (p.length:Int).toNat []=jY c:=by
   rw[j6,dq];exact jS _ _ _ _ _ (by simp)
  have hc:((p++c::q).map jY).length=p.length+(q.length+1):=by simp
  obtain⟨M,O⟩:∃ M,M=cq [.str] aH [.s c]:=⟨_,rfl⟩
  rw[←O]at h2 v;have U:=WL (lt:=bY fG) v;have hsl:=CK (bY fG) M;have hle:(gD nV (dp (bY fG) M)).length≤(dp (bY fG) M).length:=WS _ _;have V:=QJ (l:=l) (a:=a) q (p++[c]) (gb [.str] aH [.s c]) (acc++[[.s c,.l (gD nV (dp (bY fG) M))]]) clk (by
   intro x W;obtain⟨y,B,q3⟩:=k x (df _ W);have hne:x≠c:=fun e=>(sJ.1 u).1 x W e.symm;rw[Ga,Gb _ (by rw[vt]; exact decide_eq_false hne)];exact⟨y,B,q3⟩) (sJ.1 u).2 (by simp[I]) (by simp; omega)
  have key:aa (rF [.l l,.i a,.l aH,.i (clk:Int),.l acc,.l ((p++c::q).map jY),.i ((p.length+(c::q).length:Nat):Int),.i (p.length:Int)]) fun o=>o=(none,[.l l,.i a,.l (gb [.str] aH [.s c]),.i (clk:Int),.l (acc++[[.s c,.l (gD nV (dp (bY fG) M))]]),.l ((p++c::q).map jY),.i ((p.length+(c::q).length:Nat):Int),.i ((p.length:Int)+1)]):=by
   unfold rF
   (dsimp +instances only[Aa,Ab,Ac,Ad,Ae,Af,Ag])
   simp only[g1,hc,jY,cB]
   (dsimp +instances only[Aa,Ab,Ac,Ad,Ae,Af,Ag])
   simp only[a7,←O]
   (repeat first|refine aa.p ?_|refine aa.n ?_)
   refine aa.nH (aa.eq (WQ aeu M (fun z d=>(v z d).1) (by omega))) (by simp) ?_;rintro _ rfl
   (dsimp +instances only[Aa,Ab,Ac,Ad,Ae,Af,Ag])
   refine aa.nH (P:=fun g=>∃ J,g=[.l (gD nV (dp (bY fG) M)++J),.i ((gD nV (dp (bY fG) M)).length:Int)]∧(gD nV (dp (bY fG) M)++J).length=(dp (bY fG) M).length)
    (WT (Z:=zS) ae7 (dp (bY fG) M) (fun z d=>(U z d).1) (by omega)) (by simp[hsl]) ?_
   rintro _ ⟨J,rfl,hJ⟩
   (dsimp +instances only[Aa,Ab,Ac,Ad,Ae,Af,Ag])
   simp only[a7,List.take_left'];refine aa.pos (by simp) (aa.pos (by simp; omega) (aa.p (aa.pos (by simp) (aa.some ?_))));rfl
  obtain⟨_,h,rfl⟩:=key;have e:((p++[c])++q).map jY=(p++c::q).map jY:=by simp
  have e2:(((p++[c]).length+q.length:Nat):Int)=((p.length+(c::q).length:Nat):Int):=by simp; omega
  have e3:(((p++[c]).length:Nat):Int)=(p.length:Int)+1:=by simp
  rw[e,e2,e3]at V;refine aV.next h (V.mono ?_)
  rintro x g ⟨rfl,L,rfl,y,B⟩;refine⟨rfl,[.s c,.l (gD nV (dp (bY fG) M))]::L,by simp,by simp[y],fun i hi=>?_⟩;cases i with
  |zero=>exact⟨_,rfl,fun z d=>U z (WR d),by omega⟩
  |succ i=>exact B i (by simpa using hi)
def C4:List ByteArray:=[⟨#[107,49,97,98]⟩,⟨#[111,104,50,97,98,99]⟩,⟨#[111,104,50,97,98,100]⟩,⟨#[119,49,97,119]⟩]
theorem ae8(l:List (List G)):aa (yQ [.l l,.i 0]) fun g=>∃(b:Int) (L:List (List G)) (m:Nat),g=[.l l,.i b,.l L]∧0≤b∧b≤1000∧1≤m∧m≤4∧L.length=m∧∀ i,i<m→Gc (C4.getD i ⟨#[]⟩) (L.getD i []):=by
 unfold yQ
 (dsimp +instances only[Aa,Ab,Ac,Ad,Ae,Af,Ag])
 refine aa.call (zn l 0 1 4 (by omega) (by omega) (by omega) (by omega) (by omega)) ?_;rintro _ ⟨m,rfl,O,U⟩;obtain⟨m,rfl⟩:=ag2 (by omega:0≤m)
 (dsimp +instances only[Aa,Ab,Ac,Ad,Ae,Af,Ag])
 (repeat first|refine aa.p ?_|refine aa.n ?_)
 refine aa.call (zn l (0+1) 0 14 (by omega) (by omega) (by omega) (by omega) (by omega)) ?_;rintro _ ⟨n,rfl,v,V⟩;obtain⟨n,rfl⟩:=ag2 v
 (dsimp +instances only[Aa,Ab,Ac,Ad,Ae,Af,Ag])
 obtain⟨cs,k⟩:∃ cs,cs=C4.take m:=⟨_,rfl⟩
 have y:cs.length=m:=by
  rw[k,List.length_take];show min m 4=m
  omega
 have B:([[.s (⟨#[107,49,97,98]⟩:ByteArray)],[.s (⟨#[111,104,50,97,98,99]⟩:ByteArray)],[.s (⟨#[111,104,50,97,98,100]⟩:ByteArray)],[.s (⟨#[119,49,97,119]⟩:ByteArray)]]:List (List G)).take ((m:Int).toNat)=cs.map jY:=by
  rw[k,List.map_take];rfl
 simp only[B];have I:=QI (l:=l) (cs:=cs.map jY) (by rw[dE,y]; simp; omega) (by
  rw[List.all_map,cO];intro c q;rw[k]at q;have:c∈C4:=List.mem_of_mem_take q;have d:C4.all (fun c=>jT calls c)=true:=by kernel_rfl
  exact cO.1 d c this) (by omega:n≤14) n 0 [] [] 0 0 (0+1+1) 0 (by omega) (by omega) (by omega) (by omega) (by omega) (fQ.nil _) (by exact iT.nil)
 refine aa.loop (I.to (by omega)) (by(first|rfl|assumption|(simp only[aq,sl]<;>omega))) ?_;rintro c g ⟨rfl,b,aH,clk,rfl,W,h3,d⟩
 (dsimp +instances only[Aa,Ab,Ac,Ad,Ae,Af,Ag])
 simp only[a7];have J:cs.Pairwise (·≠·):=by
  rw[k];refine ahj ?_;have d:(decide (C4.Pairwise fun a b=>a.data.toList≠b.data.toList))=true:=by kernel_rfl
  exact(of_decide_eq_true d).imp fun h e=>h (by rw[e])
 have u:=QJ (l:=l) (a:=b) cs [] aH [] clk (fun c _=>⟨d.d_ c,mw (d.get c).1 (by omega),(d.get c).2⟩) J rfl (by simp; omega);simp only[kM,lK,cP]at u;have M:((cs.map jY).length:Int)=(cs.length:Int):=by rw[dE]
 simp only[M];refine aa.loop (u.to (by omega)) (by(first|rfl|assumption|(simp only[aq,sl]<;>omega))) ?_;rintro c g ⟨rfl,L,rfl,q1,N⟩
 (dsimp +instances only[Aa,Ab,Ac,Ad,Ae,Af,Ag])
 refine aa.pos (by simp) (aa.some ⟨b,L,m,rfl,by omega,by omega,by omega,by omega,by omega,fun i hi=>?_⟩);have:=N i (by omega)
 rwa [k,ch,List.getElem?_take,if_pos hi,←ch]at this
def vu(K:List Kd)(C:List G→Option (List G))(d:List G):Option (Option Nat × List G) :=
 (bif (al (gi d 3).int (gi d 2).int) then (bif ((az (gi d 3).int)&&(al (gi d 3).int (((gi d 0).rows.length:Nat):Int))) then (aw (C [.l [(aI K ((gi d 0).rows.getD (((gi d 3).int).toNat) []))],.l [(aI [.str,.list K] (gi d 1).row)]]) fun g1=>(bif (gi g1 0).bool then some (some 0,[.i (gi d 3).int]) else (bif (aq ((gi d 3).int+1)) then some (none,[.l (gi d 0).rows,.l [(aI [.str,.list K] (gi d 1).row)],.i (gi d 2).int,.i ((gi d 3).int+1)]) else none))) else none) else some (some 1,[]))
def QK(K:List Kd)(C:List G→Option (List G))(d:List G):Option (List G) :=
 (aw (aO true (bQ (vu K C) [.l (gi d 0).rows,.l [(aI [.str,.list K] (aI [.str,.list K] (gi d 1).row))],.i (((gi d 0).rows.length:Nat):Int),.i 0]) fun g g2=>(bif ad g 0 then some [.i (gi g2 0).int] else some [.i (-1)])) fun g1=>some [.t (a8 0 (gi g1 0).int)])
def jZ(c:ByteArray)(L:List (List G)):Bool:=L.any fun z=>(gi z 3).str.toList==c.toList
section
variable {C:List G→Option (List G)} {c:ByteArray} {A:List (List G)} (hC:∀ z,dC z→C [.l [z],.l [[.s c,.l A]]]=some [.t ((gi z 3).str.toList==c.toList)])
include hC
theorem QL:∀(q p:List (List G)),(∀ z∈p++q,dC z)→p.length+q.length<100000 →
  aV (vu [.int .i64,.int .i64,.str,.str,.int .i64,.int .i64,.str,.str] C) [.l (p++q),.l [[.s c,.l A]],.i ((p.length+q.length:Nat):Int),.i (p.length:Int)] (q.length+1) fun x g=>(x=0∧jZ c q=true∧∃ v:Int,0≤v∧g=[.i v])∨x=1∧jZ c q=false
 | [],p,k,u=>by
  refine aV.stop (x:=1) (d':=[]) (aa.toEq ?_) (.inr ⟨rfl,rfl⟩);unfold vu
  (dsimp +instances only[Aa,Ab,Ac,Ad,Ae,Af,Ag])
  (repeat first|refine aa.p ?_|refine aa.n ?_)
  exact aa.some rfl
 | x::q,p,k,u=>by
  simp only[cB]at u;have d:dC x:=k x (by simp);have g1:(p++x::q).getD (p.length:Int).toNat []=x:=jS _ _ _ _ _ (by simp);have hlen:(p++x::q).length=p.length+q.length+1:=by simp; omega
  cases h:(gi x 3).str.toList==c.toList with
  | true =>
   refine aV.stop (x:=0) (d':=[.i (p.length:Int)]) (aa.toEq ?_) (.inl ⟨rfl,by simp only[jZ,G9,h,Bool.true_or],_,by omega,rfl⟩);unfold vu
   (dsimp +instances only[Aa,Ab,Ac,Ad,Ae,Af,Ag])
   simp only[g1,hlen,cB,d.eta]
   (repeat first|refine aa.p ?_|refine aa.n ?_)
   refine aa.cE (hC x d) ?_
   (dsimp +instances only[Aa,Ab,Ac,Ad,Ae,Af,Ag])
   exact aa.pos h (aa.some rfl)
  | false =>
   have y:=QL q (p++[x]) (by simpa using k) (by simp; omega);have B:(p++[x])++q=p++x::q:=by simp
   have I:(((p++[x]).length+q.length:Nat):Int)=((p.length+(x::q).length:Nat):Int):=by simp; omega
   have J:(((p++[x]).length:Nat):Int)=(p.length:Int)+1:=by simp
   rw[B,I,J]at y;have M:jZ c (x::q)=jZ c q:=by simp only[jZ,G9,h,Bool.false_or]
   rw[M];refine aV.next (aa.toEq ?_) y
   unfold vu
   (dsimp +instances only[Aa,Ab,Ac,Ad,Ae,Af,Ag])
   simp only[g1,hlen,cB,d.eta]
   (repeat first|refine aa.p ?_|refine aa.n ?_)
   refine aa.cE (hC x d) ?_
   (dsimp +instances only[Aa,Ab,Ac,Ad,Ae,Af,Ag])
   refine aa.neg h (aa.p (aa.some rfl))
theorem QM(L:List (List G))(h:∀ z∈L,dC z)(k:L.length<100000):QK [.int .i64,.int .i64,.str,.str,.int .i64,.int .i64,.str,.str] C [.l L,.l [[.s c,.l A]]]=some [.t (jZ c L)]:=by
 refine aa.toEq ?_;unfold QK
 (dsimp +instances only[Aa,Ab,Ac,Ad,Ae,Af,Ag])
 have h1:=QL hC L [] (by simpa using h) (by simpa using k);have h0:((0:Nat):Int)=0:=rfl;simp only[kM,lK,cP,h0]at h1;refine aa.call (P:=fun g=>∃ v:Int,g=[.i v]∧a8 0 v=jZ c L) ?_ ?_
 ·refine aa.loop (h1.to (by omega)) (by (first|rfl|assumption|(simp only [aq,sl]<;>omega))) ?_
  rintro x g (⟨rfl,d,v,q,rfl⟩|⟨rfl,d⟩)
  ·exact aa.some ⟨v,rfl,by rw[d,eT]; exact decide_eq_true q⟩
  ·exact aa.some ⟨-1,rfl,by rw[d]; rfl⟩
 ·rintro _ ⟨v, rfl, d⟩
  exact aa.some (congrArg (fun b=>[G.t b]) d)
end
def kJ(c:ByteArray)(L:List (List G)):Int:=bif !jU c then 3 else bif jV L != 0 then jV L else bif jZ c L then 6 else 0
theorem QN{c:ByteArray}{L:List (List G)}(h:kJ c L=0):jV L=0:=by
 unfold kJ at h;cases h1:jU c with
 |false=>rw[h1]at h; cases h
 | true =>
  rw[h1]at h;cases d:jV L != 0 with
  |false=>simpa using d
  | true =>
   rw[d]at h;simp only[GS,cond_false,cond_true]at h;exact h
theorem QO{c:ByteArray}(h:c∈calls){L:List (List G)}(d:∀ z∈L,dC z)(g:L.length<100000):uT [.l [[.s c,.l L]]]=some [.i (kJ c L)]:=by
 refine aa.toEq ?_;unfold uT kJ
 (dsimp +instances only[Aa,Ab,Ac,Ad,Ae,Af,Ag])
 refine aa.cE (FO h) ?_
 (dsimp +instances only[Aa,Ab,Ac,Ad,Ae,Af,Ag])
 cases jU c with
 |false=>exact aa.some rfl
 | true =>
  refine aa.neg rfl ?_;refine aa.cE (aeA L d g) ?_
  (dsimp +instances only[Aa,Ab,Ac,Ad,Ae,Af,Ag])
  cases jV L != 0 with
  |true=>exact aa.some rfl
  | false =>
   refine aa.neg rfl ?_;refine aa.call (aa.eq (QM (C:=yS) (c:=c) (A:=L) (fun z k=>by
    refine aa.toEq ?_;unfold yS
    (dsimp +instances only[Aa,Ab,Ac,Ad,Ae,Af,Ag])
    exact aa.some rfl) L d g)) ?_
   rintro _ rfl
   (dsimp +instances only[Aa,Ab,Ac,Ad,Ae,Af,Ag])
   cases jZ c L<;>exact aa.some rfl
theorem jt.m{z:List G}(h:jt z):eD z:=by
 obtain⟨h,h0,h1⟩:=h;exact⟨h.eta,by unfold hZ; omega,by unfold hZ; omega⟩
theorem QP{X:List (List G)}(hX:∀ i,i<X.length→∃ c L,X.getD i []=[.s c,.l L]∧c∈calls∧(∀ z∈L,dC z)∧L.length<100000)(J:X.length≤100):∀(k i:Nat),i+k=X.length →
  aV rH [.l X,.l X,.i (X.length:Int),.i (i:Int)] (k+1) fun x g=>(x=0∧∃ e:Int,g=[.i e]∧e≠0)∨x=1∧∀ j,i≤j→j<X.length→∀ c L,X.getD j []=[.s c,.l L]→kJ c L=0
 | 0,i,hi=>by
  refine aV.stop (x:=1) (d':=[]) (aa.toEq ?_) (.inr ⟨rfl,fun j h1 d=>by omega⟩);unfold rH
  (dsimp +instances only[Aa,Ab,Ac,Ad,Ae,Af,Ag])
  (repeat first|refine aa.p ?_|refine aa.n ?_)
  exact aa.some rfl
 | k+1,i,hi=>by
  obtain⟨c,L,y,q,B,v⟩:=hX i (by omega);have M:=QP hX J k (i+1) (by omega);have step:aa (rH [.l X,.l X,.i (X.length:Int),.i (i:Int)]) fun o=>(∃ e:Int,o=(some 0,[.i e])∧e≠0)∨(o=(none,[.l X,.l X,.i (X.length:Int),.i ((i:Int)+1)])∧kJ c L=0):=by
   unfold rH
   (dsimp +instances only[Aa,Ab,Ac,Ad,Ae,Af,Ag])
   simp only[a7,y]
   (dsimp +instances only[Aa,Ab,Ac,Ad,Ae,Af,Ag])
   refine aa.p (aa.p ?_);refine aa.cE (FO q) ?_
   (dsimp +instances only[Aa,Ab,Ac,Ad,Ae,Af,Ag])
   refine aa.test (fun _=>aa.some (.inl ⟨3,rfl,by decide⟩)) fun _=>?_;refine aa.test (fun I=>?_) fun _=>?_
   ·rw [dV, decide_eq_true_eq] at I
    refine aa.p (aa.p ?_);refine aa.test (fun _=>aa.some (.inl ⟨7,rfl,by decide⟩)) fun _=>?_;refine aa.cE (QO (L:=L) q B v) ?_
    (dsimp +instances only[Aa,Ab,Ac,Ad,Ae,Af,Ag])
    refine aa.test (fun h=>aa.some (.inl ⟨_,rfl,by simpa using h⟩)) fun h=>?_;exact aa.p (aa.some (.inr ⟨rfl,by simpa using h⟩))
   ·refine aa.call (aa.eq (QO (L := L) q B v)) ?_
    rintro _ rfl
    (dsimp +instances only[Aa,Ab,Ac,Ad,Ae,Af,Ag])
    refine aa.test (fun h=>aa.some (.inl ⟨_,rfl,by simpa using h⟩)) fun h=>?_;exact aa.p (aa.some (.inr ⟨rfl,by simpa using h⟩))
  obtain⟨o,h,⟨e,rfl,he⟩|⟨rfl,N⟩⟩:=step
  ·exact aV.stop h (.inl ⟨rfl,e,rfl,he⟩)
  ·refine aV.next h (M.mono ?_)
   rintro x g (d|⟨rfl,d⟩)
   ·exact .inl d
   ·refine .inr ⟨rfl, fun j h3 O U V u => ?_⟩
    by_cases W:j=i
    ·subst W
     rw[y]at u;cases u;exact N
    ·exact d j (by omega) O U V u
theorem ae9{X:List (List G)}(hX:∀ i,i<X.length→∃ c L,X.getD i []=[.s c,.l L]∧c∈calls∧(∀ z∈L,dC z)∧L.length<100000)(d:X.length≤100) :
  aa (yT [.l X]) fun g=>∃ e:Int,g=[.i e]∧(e=0→∀ j,j<X.length→∀ c L,X.getD j []=[.s c,.l L]→kJ c L=0):=by
 unfold yT
 (dsimp +instances only[Aa,Ab,Ac,Ad,Ae,Af,Ag])
 refine aa.neg (by rw[dV]; exact decide_eq_false (by omega)) ?_;have:=QP hX d X.length 0 (by omega);refine aa.loop (this.to (by omega)) rfl ?_;rintro x g (⟨rfl,e,rfl,he⟩|⟨rfl,h⟩)
 ·exact aa.some ⟨e,rfl,fun h=>absurd h he⟩
 ·exact aa.some ⟨0,rfl,fun _ j k=>h j (ef _) k⟩
def fw(k:Nat):List Nat→Option Nat
 | []=>none
 |a::l=>bif a==k then some 0 else (fw k l).map (·+1)
theorem Gd{k:Nat}:∀{l:List Nat},fw k l=none↔k∉l
 | []=>by simp[fw]
 | a::l=>by
  unfold fw;cases h:a==k with
  |true=>simp at h; simp[h]
  | false =>
   simp at h;simp only[cond_false,Option.map_eq_none_iff,Gd,bV,not_or];exact⟨fun g=>⟨fun e=>h e.symm,g⟩,fun g=>g.2⟩
theorem zG{k:Nat}:∀{l:List Nat} {n:Nat},fw k l=some n→n<l.length∧l.getD n 0=k
 | [],n,h=>by cases h
 | a::l,n,h=>by
  unfold fw at h;cases e:a==k with
  | true =>
   rw[e]at h;cases h;simp at e;exact⟨by simp,by simpa using e⟩
  | false =>
   rw[e]at h;simp only[cond_false,Option.map_eq_some_iff]at h;obtain⟨m,h1,rfl⟩:=h;obtain⟨g,d⟩:=zG h1;exact⟨by simp; omega,by simpa using d⟩
theorem Ge{k:Nat}:∀{l:List Nat},k∉l→fw k (l++[k])=some l.length
 | [],_=>by simp[fw]
 | a::l,h=>by
  simp only[bV,not_or]at h;have e:(a==k)=false:=by simp; exact fun e=>h.1 e.symm
  show (bif a==k then some 0 else (fw k (l++[k])).map (·+1))=_
  rw[e,Ge h.2];rfl
theorem Gf(a b:Int):a_ [.int .i64] [.i a] [.i b]=decide (a=b):=by
 show ((a==b)&&true)=decide (a=b)
 rw[fH];exact Bool.beq_eq_decide_eq a b
def bl:Nat→List Nat→List (List G)
 |_,[]=>[]
 |i,k::ks=>[.l [[.i (k:Int)]],.i (i:Int),.i (i:Int)]::bl (i+1) ks
theorem QQ:∀(i:Nat) (A B:List Nat),bl i (A++B)=bl i A++bl (i+A.length) B
 |i,[],B=>by simp[bl]
 | i,a::A,B=>by
  show _::bl (i+1) (A++B)=_::(bl (i+1) A++bl (i+(A.length+1)) B)
  rw[QQ (i+1) A B,show i+1+A.length=i+(A.length+1) by omega]
theorem Gg(k:Nat):∀(ks:List Nat) (i j:Nat),bT [.int .i64] [.i (k:Int)] (bl i ks) j=(fw k ks).map fun n=>(j+n,([.l [[.i (k:Int)]],.i ((i+n:Nat):Int),.i ((i+n:Nat):Int)]:List G))
 | [],_,_=>rfl
 | a::ks,i,j=>by
  have d:=Gg k ks (i+1) (j+1);have e:a_ [.int .i64] [.i (k:Int)] ((gi [.l [[.i (a:Int)]],.i (i:Int),.i (i:Int)] 0).row)=(a==k):=by
   show a_ [.int .i64] [.i (k:Int)] [.i (a:Int)]=_
   rw[Gf];by_cases h:a=k
   ·subst h; simp
   ·have g : ¬ (k : Int) = (a : Int) := fun e => h (by omega)
    simp[h,g]
  show (bif _ then some (j,_) else bT _ _ (bl (i+1) ks) (j+1))=_
  rw[e,d];show _=Option.map _ (bif a==k then some 0 else (fw k ks).map (·+1))
  cases h:a==k with
  | true =>
   simp at h;subst h;rfl
  | false =>
   simp only[cond_false,Option.map_map];congr 1
   funext n
   simp only[GZ];rw[show j+1+n=j+(n+1) by omega,show i+1+n=i+(n+1) by omega]
theorem ae_(k:Nat)(ks:List Nat):dL [.int .i64] (bl 0 ks) [.i (k:Int)]=(fw k ks).isSome:=by
 unfold dL;rw[Gg,Option.isSome_map]
theorem zH(k:Nat)(ks:List Nat):fk [.int .i64] (bl 0 ks) [.i (k:Int)]=fw k ks:=by
 unfold fk;rw[Gg];cases h:fw k ks with
 |none=>rfl
 | some n =>
  show (bif a8 0 ((0+n:Nat):Int) then some ((0+n:Nat):Int).toNat else none)=some n
  rw[eT,decide_eq_true (by omega:(0:Int)≤((0+n:Nat):Int))];simp
theorem Gh(r:List G):∀(ks:List Nat) (i j c:Nat),i+ks.length≤c→eU (c:Int) (bl i ks++[r]) j=eU (c:Int) [r] (j+ks.length)
 | [],i,j,c,_=>rfl
 | a::ks,i,j,c,h=>by
  simp only[cB]at h;have d:=Gh r ks (i+1) (j+1) c (by omega);show (bif ((i:Int).toNat:Int)==(c:Int) then _ else eU (c:Int) (bl (i+1) ks++[r]) (j+1))=_
  have e:(((i:Int).toNat:Int)==(c:Int))=false:=by
   rw[a7];simp;omega
  rw[e,d,show j+1+ks.length=j+(ks.length+1) by omega];rfl
theorem QR:∀(i:Nat) (ks:List Nat),(bl i ks).length=ks.length
 |_,[]=>rfl
 |i,_::ks=>by simp[bl,QR (i+1) ks]
def sn(k c:Nat):List G:=[.l [[.i (k:Int)]],.i (-1),.i (c:Int)]
theorem QS(k c j:Nat):eU (c:Int) [sn k c] j=some (j,sn k c):=by
 show (bif ((c:Int).toNat:Int)==(c:Int) then _ else _)=_
 rw[a7];simp
theorem ae'(k:Nat)(ks:List Nat):qD (bl 0 ks++[sn k ks.length]) (ks.length:Int)=true:=by
 unfold qD;rw[Gh _ _ _ _ _ (by omega),QS];rfl
theorem afa(k:Nat)(ks:List Nat):qE (bl 0 ks++[sn k ks.length]) (ks.length:Int) ks.length=bl 0 (ks++[k]):=by
 unfold qE;rw[Gh _ _ _ _ _ (by omega),QS,QQ];show (bl 0 ks++[sn k ks.length]).set (0+ks.length) _=_
 rw[vr (bl 0 ks) _ _ [] _ (by rw[QR,cP])];rw[cP];rfl
def fR(d:List G→List G × List G)(q:List (List G))(a:List (List G) × Nat):List (List G) × Nat :=
 q.foldl (fun a r=>(aL [.int .i64] a.1 (d r).1 (d r).2 a.2,bD [.int .i64] a.1 (d r).1 a.2)) a
def lx(a:List (List G) × Nat):List G:=[.l a.1,.i (a.2:Int)]
def so(r:List G):List G × List G:=([.i (gi r 0).int],[.i (gi r 1).int])
def QT(r:List G):List G × List G:=([.i (gi r 1).int],[.t true])
def dy(p:List (List G)):List G:=lx (fR so p ([],0))
def dz(p:List (List G)):List G:=lx (fR QT p ([],0))
theorem QU(d:List G→List G × List G)(p:List (List G))(r:List G)(a:List (List G) × Nat) :
  fR d (p++[r]) a=(aL [.int .i64] (fR d p a).1 (d r).1 (d r).2 (fR d p a).2,bD [.int .i64] (fR d p a).1 (d r).1 (fR d p a).2):=by
 unfold fR;rw[agZ];rfl
theorem QV(M:List (List G))(a:List (List G) × Nat)(key val:List G) :
  qC (M++[lx a]) (some M.length) [.int .i64] key val=M++[lx (aL [.int .i64] a.1 key val a.2,bD [.int .i64] a.1 key a.2)]:=by
 unfold qC;have e:gd (M++[lx a]) (some M.length)=lx a:=by
  show (M++[lx a]).getD M.length []=_
  rw[ch];simp
 rw[e];show (M++[lx a]).set M.length _=_
 rw[vr M _ _ [] _ rfl];show M++[[.l (aL [.int .i64] a.1 key val (a.2:Int).toNat),.i ((bD [.int .i64] a.1 key (a.2:Int).toNat:Nat):Int)]]=_
 rw[a7];rfl
theorem QW(M:List (List G))(x:List G):kz (M++[x]) (some M.length)=true:=by
 show fj M.length (M++[x]).length=true
 simp
theorem QX(d:List G→List G × List G)(key:List G):∀(q:List (List G)) (a:List (List G) × Nat),dL [.int .i64] (fR d q a).1 key=(q.any (fun r=>a_ [.int .i64] key (d r).1)||dL [.int .i64] a.1 key)
 | [],a=>rfl
 | r::q,a=>by
  show dL [.int .i64] (fR d q (_,_)).1 key=_
  rw[QX d key q];simp only[G9];rw[K4];cases a_ [.int .i64] key (d r).1<;>cases dL [.int .i64] a.1 key<;>simp
theorem QY(d:List G→List G × List G)(key z:List G):∀(q:List (List G)) (a:List (List G) × Nat),(∃ r∈q,a_ [.int .i64] key (d r).1=true∧aA [.int .i64] (fR d q a).1 key z=(d r).2) ∨
  (∀ r∈q,a_ [.int .i64] key (d r).1=false)∧aA [.int .i64] (fR d q a).1 key z=aA [.int .i64] a.1 key z
 | [],a=>.inr ⟨fun _ h=>(by cases h),rfl⟩
 | r::q,a=>by
  show (∃ _,_∧_∧aA [.int .i64] (fR d q (aL [.int .i64] a.1 (d r).1 (d r).2 a.2,_)).1 key z=_)∨_∧aA [.int .i64] (fR d q (aL [.int .i64] a.1 (d r).1 (d r).2 a.2,_)).1 key z=_
  rcases QY d key z q (aL [.int .i64] a.1 (d r).1 (d r).2 a.2,bD [.int .i64] a.1 (d r).1 a.2)with⟨s,h1,g,u⟩|⟨h1,g⟩
  ·exact .inl ⟨s,df _ h1,g,u⟩
  ·rw [g, CH]
   cases e:a_ [.int .i64] key (d r).1 with
   |true=>exact .inl ⟨r,by simp,e,rfl⟩
   | false =>
    refine .inr ⟨fun s k=>?_,rfl⟩;rcases bV.1 k with rfl|k
    ·exact e
    ·exact h1 s k
structure fx (m i:Nat) (r:List (List G)):Prop where
 len:r.length=m
 val:∀ j,j<m→∃ v:Int,r.getD j []=[.i v]∧0≤v∧v≤(i:Int)+(j:Int)
theorem fx.set{m i k:Nat}{r:List (List G)}(h:fx m i r){v:Int}(h0:0≤v)(h1:v≤(i:Int)+(k:Int)):fx m i (r.set k [.i v]):=by
 refine⟨by rw[mA,h.len],fun j d=>?_⟩;by_cases e:k=j
 ·subst e
  refine⟨v,?_,h0,h1⟩;rw[ch,bB (by rw[h.len]; exact d)];rfl
 ·obtain ⟨w, g1, g2⟩ := h.val j d
  refine⟨w,?_,g2⟩;rw[ch,List.getElem?_set_ne e,←ch,g1]
theorem fx.zero(m i:Nat):fx m i (bM m [.i 0]):=by
 refine⟨vK ..,fun j d=>⟨0,?_,sK 0,by omega⟩⟩;rw[ch,agY,if_pos d];rfl
def Gi(r0 r1 r2:List (List G))(a b:ByteArray)(i m:Nat)(h k q u:Int)(x:Nat)(g:List G):Prop :=
 x=0∧∃ d:List (List G),g=[.l r0,.l r1,.l r2,.l d,.s a,.s b,.i (i:Int),.i h,.i k,.i q,.i u]∧fx m i d
def afb(r:List G)(x:Nat)(g:List G):Prop:=x=0∧g=r
theorem afc{r0 r1 r2 row:List (List G)}{a b:ByteArray}{i k m:Nat}{g q u y:Int}{f:Bool}(hk:k<m)(d:fx m i row)(I:f=true→2≤i∧2≤k∧fx m (i-2) r1)(hi:i≤1000)(hm:m≤1000) :
  aa (nO [.l r0,.l r1,.l r2,.l row,.s a,.s b,.i (i:Int),.i (k:Int),.i g,.i q,.i u,.i y,.t f]) fun o=>∃ x,o.1=some x∧Gi r0 r1 r2 a b i m g q u y x o.2:=by
 unfold nO
 (dsimp +instances only[Aa,Ab,Ac,Ad,Ae,Af,Ag])
 refine aa.test (fun h=>?_) fun h=>?_
 ·obtain ⟨h1, O, B⟩ := I h
  obtain⟨v,J,v0,v1⟩:=d.val k hk;obtain⟨w,hw,U,V⟩:=B.val (k-2) (by omega);have M:((k:Int)).toNat=k:=a7 k;have N:((k:Int)-2).toNat=k-2:=by omega
  have W:=d.len;have l2:=B.len;simp only[M,N,cP,J,hw,se]
  (dsimp +instances only[Aa,Ab,Ac,Ad,Ae,Af,Ag])
  refine aa.p (aa.p (aa.p (aa.p (aa.p (aa.p (aa.p (aa.p ?_)))))));refine aa.some ⟨0,rfl,rfl,_,rfl,d.set ?_ ?_⟩<;>split<;>omega
 ·exact aa.p (aa.some ⟨0,rfl,rfl,_,rfl,d⟩)
theorem afd{r0 r1 r2 row:List (List G)}{a b:ByteArray}{i k m:Nat}{c d q u v:Int}(hk1:1≤k)(hk:k<m)(hb:m=b.size+1)(hi1:1≤i)(ha:i≤a.size)(y:fx m i row)(B:fx m (i-1) r2)(h1:2≤i→fx m (i-2) r1)(c0:0≤c)(c1:c≤1)(hi:i≤1000)(hm:m≤1000) :
  aa (rR [.l r0,.l r1,.l r2,.l row,.s a,.s b,.i (i:Int),.i (k:Int),.i c,.i d,.i q,.i u,.i v]) fun o=>∃ x,o.1=some x∧Gi r0 r1 r2 a b i m d q u v x o.2:=by
 unfold rR
 (dsimp +instances only[Aa,Ab,Ac,Ad,Ae,Af,Ag])
 obtain⟨v1,N,v10,v11⟩:=B.val k hk;obtain⟨v2,O,v20,v21⟩:=y.val (k-1) (by omega);obtain⟨v3,U,v30,v31⟩:=B.val (k-1) (by omega);have n1:((k:Int)).toNat=k:=a7 k;have n2:((k:Int)-1).toNat=k-1:=by omega
 have l1:=y.len;have l2:=B.len;simp only[n1,n2,cP,N,O,U,se]
 (dsimp +instances only[Aa,Ab,Ac,Ad,Ae,Af,Ag])
 obtain⟨V,hV,V0,V1⟩:∃ V:Int,(if v3+c<(if v2+1<v1+1 then v2+1 else v1+1) then v3+c else (if v2+1<v1+1 then v2+1 else v1+1))=V∧0≤V∧V≤(i:Int)+(k:Int):=by
  refine⟨_,rfl,?_,?_⟩<;>split<;>(try split)<;>omega
 simp only[hV];have J:=y.set V0 V1;refine aa.p (aa.p (aa.p (aa.p (aa.p (aa.p (aa.p (aa.p (aa.p (aa.p (aa.p ?_))))))))));have fin:∀(f:Bool),(f=true→2≤i∧2≤k)→aa (aO (ad row.length (row.set k [.i V]).length&&true) (bU (nO [.l r0,.l r1,.l r2,.l (row.set k [.i V]),.s a,.s b,.i (i:Int),.i (k:Int),.i d,.i q,.i u,.i v,.t f])) fun cg g=>(bif (ad (gi g 3).rows.length (gi g 3).rows.length)&&true then some ((some 0:Option Nat),[G.l (gi g 0).rows,.l (gi g 1).rows,.l (gi g 2).rows,.l (gi g 3).rows,.s (gi g 4).str,.s (gi g 5).str,.i (gi g 6).int,.i (gi g 7).int,.i (gi g 8).int,.i (gi g 9).int,.i (gi g 10).int]) else none))
   fun o=>∃ x,o.1=some x∧Gi r0 r1 r2 a b i m d q u v x o.2:=fun f I=>by
  refine aa.tail (afc hk J (fun h=>⟨(I h).1,(I h).2,h1 (I h).1⟩) hi hm) (by(first|rfl|assumption|(simp only[aq,sl]<;>omega))) ?_;rintro _ _ ⟨rfl,M,rfl,W⟩
  (dsimp +instances only[Aa,Ab,Ac,Ad,Ae,Af,Ag])
  exact aa.p (aa.some ⟨0,rfl,rfl,M,rfl,W⟩)
 refine aa.test (fun g1=>?_) fun g1=>fin false (fun h=>by cases h);rw[dV,decide_eq_true_eq]at g1;refine aa.test (fun g2=>?_) fun g2=>fin false (fun h=>by cases h);rw[dV,decide_eq_true_eq]at g2;refine aa.p (aa.p (aa.p (aa.p ?_)));refine aa.test (fun g3=>?_) fun g3=>fin false (fun h=>by cases h);refine aa.p (aa.p (aa.p (aa.p ?_)));exact fin _ fun _=>⟨by omega,by omega⟩
theorem Gj{r0 r1 r2 row:List (List G)}{a b:ByteArray}{d g h q:Int}{k:Nat}(hk:k≤1000) :
  aa (nN [.l r0,.l r1,.l r2,.l row,.s a,.s b,.i d,.i g,.i h,.i q,.i (k:Int)]) fun o=>∃ x,o.1=some x∧afb [.l r0,.l r1,.l r2,.l row,.s a,.s b,.i d,.i g,.i h,.i q,.i ((k:Int)+1)] x o.2:=by
 unfold nN
 (dsimp +instances only[Aa,Ab,Ac,Ad,Ae,Af,Ag])
 exact aa.p (aa.p (aa.some ⟨0,rfl,rfl,rfl⟩))
theorem QZ{r0 r1 r2:List (List G)}{a b:ByteArray}{i m:Nat}{n:Int}(hb:m=b.size+1)(ha:i≤a.size)(v:1≤i→fx m (i-1) r2)(h1:2≤i→fx m (i-2) r1)(hi:i≤1000)(hm:m≤1000):∀(t k:Nat) (row:List (List G)),k+t=m→fx m i row →
  aV rS [.l r0,.l r1,.l r2,.l row,.s a,.s b,.i (i:Int),.i n,.i (i:Int),.i (m:Int),.i (k:Int)] (t+1) fun x g=>x=0∧∃ d,g=[.l r0,.l r1,.l r2,.l d,.s a,.s b,.i n,.i (i:Int)]∧fx m i d
 | 0,k,row,hk,q=>by
  refine aV.stop (x:=0) (aa.toEq ?_) ⟨rfl,row,rfl,q⟩;unfold rS
  (dsimp +instances only[Aa,Ab,Ac,Ad,Ae,Af,Ag])
  exact aa.n (aa.p (aa.some rfl))
 | t+1,k,row,hk,q=>by
  have step:aa (rS [.l r0,.l r1,.l r2,.l row,.s a,.s b,.i (i:Int),.i n,.i (i:Int),.i (m:Int),.i (k:Int)]) fun o=>∃ d,o=(none,[.l r0,.l r1,.l r2,.l d,.s a,.s b,.i (i:Int),.i n,.i (i:Int),.i (m:Int),.i ((k:Int)+1)])∧fx m i d:=by
   unfold rS
   (dsimp +instances only[Aa,Ab,Ac,Ad,Ae,Af,Ag])
   have M:=q.len;have y:((k:Int)).toNat=k:=a7 k;simp only[y,cP,se];refine aa.p (aa.test (fun g0=>?_) fun g0=>aa.test (fun g1=>?_) fun g1=>?_)
   ·refine aa.p (aa.p ?_)
    refine aa.tail (Gj (k:=k) (by omega)) (by(first|rfl|assumption|(simp only[aq,sl]<;>omega))) ?_;rintro _ _ ⟨rfl,rfl⟩
    (dsimp +instances only[Aa,Ab,Ac,Ad,Ae,Af,Ag])
    exact aa.p (aa.some ⟨_,rfl,q.set (by omega) (by omega)⟩)
   ·refine aa.p (aa.p ?_)
    refine aa.tail (Gj (k:=k) (by omega)) (by(first|rfl|assumption|(simp only[aq,sl]<;>omega))) ?_;rintro _ _ ⟨rfl,rfl⟩
    (dsimp +instances only[Aa,Ab,Ac,Ad,Ae,Af,Ag])
    exact aa.p (aa.some ⟨_,rfl,q.set (by omega) (by omega)⟩)
   ·have i1:1≤i:=by
     have:¬ ((i:Int)=0):=by simpa using g0
     omega
    have B:1≤k:=by
     have:¬ ((k:Int)=0):=by simpa using g1
     omega
    have fin:∀ c:Int,0≤c→c≤1→aa (aO (ad row.length row.length&&true) (bU (rR [.l r0,.l r1,.l r2,.l row,.s a,.s b,.i (i:Int),.i (k:Int),.i c,.i n,.i (i:Int),.i (m:Int),.i (k:Int)])) fun I g=>aO (ad (gi g 3).rows.length (gi g 3).rows.length&&true) (bU (nN [.l (gi g 0).rows,.l (gi g 1).rows,.l (gi g 2).rows,.l (gi g 3).rows,.s (gi g 4).str,.s (gi g 5).str,.i (gi g 6).int,.i (gi g 7).int,.i (gi g 8).int,.i (gi g 9).int,.i (gi g 10).int])) fun I g=>(bif (ad (gi g 3).rows.length (gi g 3).rows.length)&&true then some ((none:Option Nat),[G.l (gi g 0).rows,.l (gi g 1).rows,.l (gi g 2).rows,.l (gi g 3).rows,.s (gi g 4).str,.s (gi g 5).str,.i (gi g 6).int,.i (gi g 7).int,.i (gi g 8).int,.i (gi g 9).int,.i (gi g 10).int]) else none))
      fun o=>∃ d,o=(none,[.l r0,.l r1,.l r2,.l d,.s a,.s b,.i (i:Int),.i n,.i (i:Int),.i (m:Int),.i ((k:Int)+1)])∧fx m i d:=fun c J c1=>by
     refine aa.tail (afd B (by omega) hb i1 ha q (v i1) h1 J c1 hi hm) (by(first|rfl|assumption|(simp only[aq,sl]<;>omega))) ?_;rintro _ _ ⟨rfl,d,rfl,u⟩
     (dsimp +instances only[Aa,Ab,Ac,Ad,Ae,Af,Ag])
     refine aa.tail (Gj (k:=k) (by omega)) (by(first|rfl|assumption|(simp only[aq,sl]<;>omega))) ?_;rintro _ _ ⟨rfl,rfl⟩
     (dsimp +instances only[Aa,Ab,Ac,Ad,Ae,Af,Ag])
     exact aa.p (aa.some ⟨d,rfl,u⟩)
    refine aa.p (aa.p (aa.p (aa.p ?_)));exact aa.test (fun _=>fin 0 (by omega) (by omega)) fun _=>fin 1 (by omega) (by omega)
  obtain⟨o,h,d,rfl,u⟩:=step;exact aV.next h (QZ hb ha v h1 hi hm t (k+1) d (by omega) u)
theorem Q0{a b:ByteArray}{m:Nat}(hb:m=b.size+1)(ha:a.size≤100)(hm:m≤1000):∀(t i:Nat) (r0 r1 r2:List (List G)),i+t=a.size+1→(1≤i→fx m (i-1) r2)→(2≤i→fx m (i-2) r1) →
  aV rT [.l r0,.l r1,.l r2,.s a,.s b,.i ((a.size:Nat)+1:Int),.i (i:Int)] (t+1) fun x g=>x=0∧∃ r0 r1 r2,g=[.l r0,.l r1,.l r2,.s b]∧r2.length=m
 | 0,i,r0,r1,r2,hi,d,h1=>by
  refine aV.stop (x:=0) (aa.toEq ?_) ⟨rfl,r0,r1,r2,rfl,(d (by omega)).len⟩;unfold rT
  (dsimp +instances only[Aa,Ab,Ac,Ad,Ae,Af,Ag])
  exact aa.n (aa.some rfl)
 | t+1,i,r0,r1,r2,hi,d,h1=>by
  have step:aa (rT [.l r0,.l r1,.l r2,.s a,.s b,.i ((a.size:Nat)+1:Int),.i (i:Int)]) fun o=>∃ row,o=(none,[.l r1,.l r2,.l row,.s a,.s b,.i ((a.size:Nat)+1:Int),.i ((i:Int)+1)])∧fx m i row:=by
   unfold rT
   (dsimp +instances only[Aa,Ab,Ac,Ad,Ae,Af,Ag])
   have q:(((b.size:Nat):Int)+1).toNat=m:=by omega
   simp only[q];refine aa.p (aa.p (aa.p ?_));refine aa.loop ((QZ hb (by omega) d h1 (by omega) hm m 0 _ (by omega) (fx.zero m i)).to (by omega)) (by(first|rfl|assumption|(simp only[aq,sl]<;>omega))) ?_;rintro _ _ ⟨rfl,row,rfl,k⟩
   (dsimp +instances only[Aa,Ab,Ac,Ad,Ae,Af,Ag])
   exact aa.p (aa.p (aa.some ⟨row,rfl,k⟩))
  obtain⟨o,h,row,rfl,k⟩:=step;exact aV.next h (Q0 hb ha hm t (i+1) r1 r2 row (by omega) (fun _=>k) (fun h=>d (by omega)))
theorem Q1{a b:ByteArray}(ha:a.size≤100)(hb:b.size≤100):aa (vf [.s a,.s b]) fun g=>∃ v:Int,g=[.i v]:=by
 unfold vf
 (dsimp +instances only[Aa,Ab,Ac,Ad,Ae,Af,Ag])
 refine aa.p ?_;refine aa.loop ((Q0 (m:=b.size+1) rfl ha (by omega) (a.size+1) 0 [] [] [] (by omega) (fun h=>by omega) (fun h=>by omega)).to (by omega)) (by(first|rfl|assumption|(simp only[aq,sl]<;>omega))) ?_;rintro _ _ ⟨rfl,r0,r1,r2,rfl,d⟩
 (dsimp +instances only[Aa,Ab,Ac,Ad,Ae,Af,Ag])
 exact aa.p (aa.some ⟨_,rfl⟩)
structure mu (L:List (List G)) (C:Nat→ByteArray) (A:Nat→List (List G)):Prop where
 get:∀ i,i<L.length→L.getD i []=[.s (C i),.l (A i)]
 n:L.length≤4
 nW:∀ i,i<L.length→∀ z∈A i,eD z∧(gi z 3).str.size≤100
 na:∀ i,i<L.length→(A i).length≤14
 cs:∀ i,i<L.length→(C i).size≤100
 pE:∀ i j,i<j→j<L.length→dQ (C i) (C j)<0
theorem afe:((dG 8).all fun n=>dP .u64 (IntKind.u64.wrap ((n:Nat):Int)) 1==((n / 2:Nat):Int))=true:=by kernel_rfl
theorem aff(i j:Nat)(h:i+j<8):dP .u64 (IntKind.u64.wrap ((i:Int)+(j:Int))) 1=(((i+j) / 2:Nat):Int):=by
 have:=cO.1 afe (i+j) (eP.2 h);rw[beq_iff_eq]at this;rw[←this];congr 2
section
variable {L:List (List G)} {C:Nat→ByteArray} {A:Nat→List (List G)} (S:mu L C A)
include S
theorem mu.two{i k:Nat}(hi:i<L.length)(hk:k<L.length):gr (A i) (A k) :=
 ⟨fun z d=>(S.nW i hi z d).1,fun z d=>(S.nW k hk z d).1,by have:=S.na i hi; omega,by have:=S.na k hk; omega⟩
theorem mu.mem{i j:Nat}(hi:i<L.length)(d:j<(A i).length):eD ((A i).getD j [])∧(gi ((A i).getD j []) 3).str.size≤100 :=
 S.nW i hi _ (by rw[ch,bI d]; exact kN d)
theorem mu.key{i:Nat}(hi:i<L.length):(gi (L.getD i []) 0).str=C i:=by rw[S.get i hi]; rfl
theorem Gk(s:ByteArray):∀(m i j:Nat),j≤i+m→i≤j→j≤L.length→(∀ t,t<i→dQ (C t) s<0)→(∀ t,j≤t→t<L.length→¬ dQ (C t) s<0) →
  aV rJ [.l L,.s s,.i (L.length:Int),.i (i:Int),.i (j:Int)] (m+1) fun x g=>x=0∧∃ p:Nat,g=[.l L,.s s,.i (L.length:Int),.i (p:Int)]∧p≤L.length∧(∀ t,t<p→dQ (C t) s<0)∧(∀ t,p≤t→t<L.length→¬ dQ (C t) s<0)
 | m,i,j,hm,M,u,h1,v=>by
  have N:=S.n;by_cases he:i=j
  ·subst he
   refine aV.stop (x:=0) (aa.toEq ?_) ⟨rfl,i,rfl,u,h1,v⟩;unfold rJ
   (dsimp +instances only[Aa,Ab,Ac,Ad,Ae,Af,Ag])
   exact aa.n (aa.some rfl)
  ·obtain ⟨m', rfl⟩ : ∃ m', m = m' + 1 := ⟨m - 1, by omega⟩
   have I:=aff i j (by omega);have q:(i+j) / 2<L.length:=by omega
   have y:=S.get _ q;have step:∀ o,(bif al (dQ (C ((i+j) / 2)) s) 0 then some ((none:Option Nat),[G.l L,.s s,.i (L.length:Int),.i (((i+j) / 2+1:Nat):Int),.i (j:Int)]) else some (none,[.l L,.s s,.i (L.length:Int),.i (i:Int),.i (((i+j) / 2:Nat):Int)]))=some o →
     rJ [.l L,.s s,.i (L.length:Int),.i (i:Int),.i (j:Int)]=some o:=fun o ho=>by
    refine aa.toEq ?_;unfold rJ
    (dsimp +instances only[Aa,Ab,Ac,Ad,Ae,Af,Ag])
    simp only[I,a7,y];refine aa.p (aa.p (aa.p (aa.p ?_)));refine aa.call (P:=fun g=>g=[.i (dQ (C ((i+j) / 2)) s)]) (aa.eq rfl) ?_;rintro _ rfl
    (dsimp +instances only[Aa,Ab,Ac,Ad,Ae,Af,Ag])
    refine aa.test (fun h=>?_) fun h=>?_
    ·rw [h, cond_true] at ho
     refine aa.p (aa.some ?_);cases ho;rfl
    ·rw [h, cond_false] at ho
     refine aa.some ?_;cases ho;rfl
   by_cases d:dQ (C ((i+j) / 2)) s<0
   ·refine aV.next (step _ (by rw [dV, decide_eq_true d]; rfl)) (Gk s m' _ j (by omega) (by omega) u (fun t J => ?_) v)
    rcases iV t ((i+j) / 2)with h|h
    ·exact Qd.tr _ _ _ (S.pE t _ h q) d
    ·rw [show t = (i + j) / 2 by omega]
     exact d
   ·refine aV.next (step _ (by rw [dV, decide_eq_false d]; rfl)) (Gk s m' i _ (by omega) (by omega) (by omega) h1 (fun t J B k => ?_))
    rcases iV ((i+j) / 2) t with h|h
    ·exact d (Qd.tr _ _ _ (S.pE _ t h B) k)
    ·rw [show t = (i + j) / 2 by omega] at k
     exact d k
theorem Gl(s:ByteArray):aa (rK [.l L,.s s]) fun g=>∃(p:Nat) (b:Bool),g=[.i (p:Int),.t b]∧(b=true→p<L.length∧C p=s)∧(b=false→∀ k,k<L.length→C k≠s):=by
 have I:=S.n;unfold rK
 (dsimp +instances only[Aa,Ab,Ac,Ad,Ae,Af,Ag])
 refine aa.call (P:=fun g=>∃(p:Nat) (b:Bool),g=[.i (p:Int),.t b]∧(b=true→p<L.length∧C p=s)∧(b=false→∀ k,k<L.length→C k≠s)) ?_ ?_
 ·unfold Ez
  (dsimp +instances only[Aa,Ab,Ac,Ad,Ae,Af,Ag])
  refine aa.loop ((Gk S s L.length 0 L.length (by omega) (by omega) (aG _) (fun t v=>by omega) (fun t h1 d=>by omega)).to (by omega)) rfl ?_;rintro _ _ ⟨rfl,p,rfl,J,y,B⟩
  (dsimp +instances only[Aa,Ab,Ac,Ad,Ae,Af,Ag])
  have q:∀ t,t<L.length→C t=s→t=p:=fun t v e=>by
   have h0:dQ (C t) s=0:=pB.2 e;have h1:p≤t:=ag3 fun h=>by have:=y t h; omega
   refine Nat.le_antisymm (ag3 fun h=>?_) h1;have d:=S.pE p t h v;rw[e]at d;exact B p (aG _) (by omega) d
  refine aa.test (fun h=>?_) fun h=>?_
  ·simp only [dV, decide_eq_true_eq] at h
   have u:p<L.length:=by omega
   simp only[a7,S.get p u];refine aa.p ?_;refine aa.call (P:=fun g=>g=[.i (dQ (C p) s)]) (aa.eq rfl) ?_;rintro _ rfl;refine aa.some ⟨p,_,rfl,fun hb=>⟨u,?_⟩,fun hb k hk e=>?_⟩
   ·have hb : (dQ (C p) s == 0) = true := hb
    rw[beq_iff_eq]at hb;exact pB.1 hb
   ·have := q k hk e
    subst this;have hb:(dQ (C k) s==0)=false:=hb;rw[pB.2 e]at hb;cases hb
  ·simp only [dV, decide_eq_false_iff_not] at h
   exact aa.some ⟨p,false,rfl,fun hb=>(by cases hb),fun _ k hk e=>by have:=q k hk e; omega⟩
 ·rintro _ ⟨p, b, rfl, h⟩
  exact aa.some ⟨p,b,rfl,h⟩
end
def bz(A:Nat→List (List G))(C:Nat→ByteArray)(own:Nat)(off:Int)(k:Nat):List (List G):=jX (A own) (A k) (C own) (C k) off
def iU(k:Nat)(ks:List Nat):List Nat:=match fw k ks with
 |some _=>ks
 |none=>ks++[k]
theorem Q2(k:Nat)(ks:List Nat):∃ n,fw k (iU k ks)=some n:=by
 unfold iU;cases h:fw k ks with
 |some n=>exact⟨n,h⟩
 |none=>exact⟨_,Ge (Gd.1 h)⟩
theorem Q3{L R1 R2 M T:List (List G)}{own off k:Int}{c1 c2:Nat}(h1:fk [.int .i64] R1 [.i k]=some M.length)(d:fk [.int .i64] R2 [.i k]=some T.length):∀(q p:List (List G)),p.length+q.length≤100000 →
  aV vc [.l L,.i own,.i off,.l R1,.l (M++[lx (fR so p ([],0))]),.i (c1:Int),.l R2,.l (T++[lx (fR QT p ([],0))]),.i (c2:Int),.i k,.l (p++q),.i ((p.length+q.length:Nat):Int),.i (p.length:Int)] (q.length+1) fun x g =>
   x=0∧g=[.l L,.i own,.i off,.l R1,.l (M++[dy (p++q)]),.i (c1:Int),.l R2,.l (T++[dz (p++q)]),.i (c2:Int)]
 | [],p,h=>by
  refine aV.stop (x:=0) (aa.toEq ?_) ⟨rfl,rfl⟩;unfold vc
  (dsimp +instances only[Aa,Ab,Ac,Ad,Ae,Af,Ag])
  refine aa.n (aa.some ?_);rw[cY];rfl
 | r::q,p,h=>by
  simp only[cB]at h;have u:=Q3 (L:=L) (own:=own) (off:=off) (c1:=c1) (c2:=c2) h1 d q (p++[r]) (by simp; omega);have g1:(p++r::q).getD (p.length:Int).toNat []=r:=jS _ _ _ _ _ (by simp);rw[a7]at g1;have hlen:(p++r::q).length=p.length+q.length+1:=by simp; omega
  have v:(p++[r])++q=p++r::q:=by simp
  have y:(((p++[r]).length+q.length:Nat):Int)=((p.length+(r::q).length:Nat):Int):=by simp; omega
  have B:(((p++[r]).length:Nat):Int)=(p.length:Int)+1:=by simp
  rw[v,y,B]at u;refine aV.next (aa.toEq ?_) u
  unfold vc
  (dsimp +instances only[Aa,Ab,Ac,Ad,Ae,Af,Ag])
  simp only[g1,hlen,cB,a7,h1,d];refine aa.p (aa.p (aa.pos rfl (aa.pos (QW _ _) (aa.pos rfl (aa.pos (QW _ _) (aa.p (aa.some ?_)))))));rw[QV,QV,QU,QU];rfl
section
variable {L:List (List G)} {C:Nat→ByteArray} {A:Nat→List (List G)} (S:mu L C A) {own:Nat} (ho:own<L.length) (off:Int)
include S ho
theorem Q4{k:Nat}(hk:k<L.length)(ks:List Nat):vd [G.l L,.i (own:Int),.i off,.l (bl 0 ks),.l (ks.map fun k=>dy (bz A C own off k)),.i ((ks.length:Nat):Int),.l (bl 0 ks),.l (ks.map fun k=>dz (bz A C own off k)),.i ((ks.length:Nat):Int),.i (k:Int)]=some [G.l L,.i (own:Int),.i off,.l (bl 0 (iU k ks)),.l ((iU k ks).map fun k=>dy (bz A C own off k)),.i (((iU k ks).length:Nat):Int),.l (bl 0 (iU k ks)),.l ((iU k ks).map fun k=>dz (bz A C own off k)),.i (((iU k ks).length:Nat):Int)]:=by
 refine aa.toEq ?_;unfold vd
 (dsimp +instances only[Aa,Ab,Ac,Ad,Ae,Af,Ag])
 simp only[zH,ae_,a7];unfold iU;cases h:fw k ks with
 |some n=>exact aa.pos rfl (aa.some rfl)
 | none =>
  have d:=ae' k ks;have g:=afa k ks;unfold sn at d g;refine aa.pos rfl (aa.neg rfl (aa.pos rfl (aa.pos d (aa.pos rfl (aa.pos d (aa.p (aa.p ?_)))))));simp only[S.get own ho,S.get k hk];refine aa.cE (ae1 (S.two ho hk) (C own) (C k) off) ?_
  (dsimp +instances only[Aa,Ab,Ac,Ad,Ae,Af,Ag])
  simp only[dE];rw[g];have hb:=ae3 (S.two ho hk) (C own) (C k) off;have v:=S.na own ho;have q:fk [.int .i64] (bl 0 (ks++[k])) [.i (k:Int)]=some ks.length:=by rw[zH]; exact Ge (Gd.1 h)
  have u:=Q3 (L:=L) (own:=(own:Int)) (off:=off) (k:=(k:Int)) (R1:=bl 0 (ks++[k])) (R2:=bl 0 (ks++[k])) (M:=ks.map fun k=>dy (bz A C own off k)) (T:=ks.map fun k=>dz (bz A C own off k)) (c1:=ks.length+1) (c2:=ks.length+1)
   (by rw[dE]; exact q) (by rw[dE]; exact q) (bz A C own off k) [] (by unfold bz; simp; omega)
  simp only[kM,lK,cP]at u;refine aa.loop (u.to (by unfold bz; omega)) rfl ?_;rintro _ _ ⟨rfl,rfl⟩
  (dsimp +instances only[Aa,Ab,Ac,Ad,Ae,Af,Ag])
  refine aa.some ?_;simp only[a7,j6,dq,sF,fi,ag4]
def zI(x y:List G):Bool:=(gi x 4).int==(gi y 5).int&&(gi x 6).str.toList==(gi y 7).str.toList
omit S ho in
theorem Q5(x y:List G):ve [.l [x],.l [y]]=some [.t (zI x y)]:=by
 refine aa.toEq ?_;unfold ve zI
 (dsimp +instances only[Aa,Ab,Ac,Ad,Ae,Af,Ag])
 refine aa.test (fun h=>aa.some ?_) fun h=>aa.some ?_<;>rw[h]<;>rfl
theorem Q6{k:Nat}(hk:k<L.length){t m s h:Int}{b c x y:ByteArray}(u:eD [.i t,.i m,.s b,.s c,.i s,.i h,.s x,.s y]){ks:List Nat}{n:Nat}(q:fw k ks=some n):∀(d i:Nat),i+d=(A k).length →
  aV rU [G.l L,.i (own:Int),.i off,.l (bl 0 ks),.l (ks.map fun k=>dy (bz A C own off k)),.i ((ks.length:Nat):Int),.l (bl 0 ks),.l (ks.map fun k=>dz (bz A C own off k)),.i ((ks.length:Nat):Int),.i t,.i m,.s b,.s c,.i s,.i h,.s x,.s y,.i (k:Int),.l (A k),.i ((A k).length:Int),.i (i:Int)] (d+1) fun e g =>
   (e=0∧∃ v:Nat,v<(A k).length∧g=[G.l L,.i (own:Int),.i off,.l (bl 0 ks),.l (ks.map fun k=>dy (bz A C own off k)),.i ((ks.length:Nat):Int),.l (bl 0 ks),.l (ks.map fun k=>dz (bz A C own off k)),.i ((ks.length:Nat):Int),.i (v:Int)])∨e=1∧g=[G.l L,.i (own:Int),.i off,.l (bl 0 ks),.l (ks.map fun k=>dy (bz A C own off k)),.i ((ks.length:Nat):Int),.l (bl 0 ks),.l (ks.map fun k=>dz (bz A C own off k)),.i ((ks.length:Nat):Int)]
 | 0,i,hi=>by
  refine aV.stop (x:=1) (aa.toEq ?_) (.inr ⟨rfl,rfl⟩);unfold rU
  (dsimp +instances only[Aa,Ab,Ac,Ad,Ae,Af,Ag])
  refine aa.n (aa.some ?_);simp only[a7]
 | d+1,i,hi=>by
  have N:=S.na k hk;have M:=Q6 hk u q d (i+1) (by omega);obtain⟨B,O⟩:=S.mem (i:=k) (j:=i) hk (by omega);have step:aa (rU [G.l L,.i (own:Int),.i off,.l (bl 0 ks),.l (ks.map fun k=>dy (bz A C own off k)),.i ((ks.length:Nat):Int),.l (bl 0 ks),.l (ks.map fun k=>dz (bz A C own off k)),.i ((ks.length:Nat):Int),.i t,.i m,.s b,.s c,.i s,.i h,.s x,.s y,.i (k:Int),.l (A k),.i ((A k).length:Int),.i (i:Int)]) fun o =>
    o=(some 0,[G.l L,.i (own:Int),.i off,.l (bl 0 ks),.l (ks.map fun k=>dy (bz A C own off k)),.i ((ks.length:Nat):Int),.l (bl 0 ks),.l (ks.map fun k=>dz (bz A C own off k)),.i ((ks.length:Nat):Int),.i (i:Int)])∨o=(none,[G.l L,.i (own:Int),.i off,.l (bl 0 ks),.l (ks.map fun k=>dy (bz A C own off k)),.i ((ks.length:Nat):Int),.l (bl 0 ks),.l (ks.map fun k=>dz (bz A C own off k)),.i ((ks.length:Nat):Int),.i t,.i m,.s b,.s c,.i s,.i h,.s x,.s y,.i (k:Int),.l (A k),.i ((A k).length:Int),.i ((i:Int)+1)]):=by
   unfold rU
   (dsimp +instances only[Aa,Ab,Ac,Ad,Ae,Af,Ag])
   have I:=(zG q).1;have J:kz (ks.map fun k=>dz (bz A C own off k)) (some n)=true:=by
    show fj n (ks.map fun k=>dz (bz A C own off k)).length=true
    rw[dE];simpa using I
   simp only[a7,zH,q,B.1];refine aa.p (aa.p (aa.p ?_));have out:aa (bif aq ((i:Int)+1) then some ((none:Option Nat),[G.l L,.i (own:Int),.i off,.l (bl 0 ks),.l (ks.map fun k=>dy (bz A C own off k)),.i ((ks.length:Nat):Int),.l (bl 0 ks),.l (ks.map fun k=>dz (bz A C own off k)),.i ((ks.length:Nat):Int),.i t,.i m,.s b,.s c,.i s,.i h,.s x,.s y,.i (k:Int),.l (A k),.i ((A k).length:Int),.i ((i:Int)+1)]) else none) fun o =>
    o=(some 0,[G.l L,.i (own:Int),.i off,.l (bl 0 ks),.l (ks.map fun k=>dy (bz A C own off k)),.i ((ks.length:Nat):Int),.l (bl 0 ks),.l (ks.map fun k=>dz (bz A C own off k)),.i ((ks.length:Nat):Int),.i (i:Int)])∨o=(none,[G.l L,.i (own:Int),.i off,.l (bl 0 ks),.l (ks.map fun k=>dy (bz A C own off k)),.i ((ks.length:Nat):Int),.l (bl 0 ks),.l (ks.map fun k=>dz (bz A C own off k)),.i ((ks.length:Nat):Int),.i t,.i m,.s b,.s c,.i s,.i h,.s x,.s y,.i (k:Int),.l (A k),.i ((A k).length:Int),.i ((i:Int)+1)]):=aa.p (aa.some (.inr rfl))
   refine aa.test (fun _=>?_) fun _=>out;refine aa.cE (zw off u B) ?_;refine aa.test (fun _=>?_) fun _=>out;refine aa.pos rfl (aa.pos J (aa.test (fun _=>?_) fun _=>out));refine aa.cE (Q5 _ _) ?_;exact aa.test (fun _=>aa.some (.inl rfl)) fun _=>out
  obtain⟨o,h,rfl|rfl⟩:=step
  ·exact aV.stop h (.inl ⟨rfl,i,by omega,rfl⟩)
  ·exact aV.next h M
theorem afg{k:Nat}(hk:k<L.length){t m s h:Int}{b c x y:ByteArray}(u:eD [.i t,.i m,.s b,.s c,.i s,.i h,.s x,.s y])(q:c.size≤100)(ks:List Nat) :
  aa (zb [G.l L,.i (own:Int),.i off,.l (bl 0 ks),.l (ks.map fun k=>dy (bz A C own off k)),.i ((ks.length:Nat):Int),.l (bl 0 ks),.l (ks.map fun k=>dz (bz A C own off k)),.i ((ks.length:Nat):Int),.l [[.i t,.i m,.s b,.s c,.i s,.i h,.s x,.s y]],.i (k:Int)]) fun g=>∃(d:List Nat) (v:Int),g=[G.l L,.i (own:Int),.i off,.l (bl 0 d),.l (d.map fun k=>dy (bz A C own off k)),.i ((d.length:Nat):Int),.l (bl 0 d),.l (d.map fun k=>dz (bz A C own off k)),.i ((d.length:Nat):Int),.i v]∧(0≤v→v<((A k).length:Int)):=by
 have I:=S.na k hk;unfold zb
 (dsimp +instances only[Aa,Ab,Ac,Ad,Ae,Af,Ag])
 simp only[a7,S.get k hk];refine aa.p ?_;refine aa.call (Q1 (S.cs k hk) q) ?_;rintro _ ⟨v,rfl⟩
 (dsimp +instances only[Aa,Ab,Ac,Ad,Ae,Af,Ag])
 refine aa.test (fun _=>aa.some ⟨ks,-1,rfl,fun h=>by omega⟩) fun _=>?_;refine aa.cE (Q4 S ho off hk ks) ?_
 (dsimp +instances only[Aa,Ab,Ac,Ad,Ae,Af,Ag])
 simp only[a7,S.get k hk];refine aa.p ?_;obtain⟨n,B⟩:=Q2 k ks;refine aa.loop ((Q6 S ho off hk u B (A k).length 0 (by omega)).to (by omega)) rfl ?_;rintro _ _ (⟨rfl,v,J,rfl⟩|⟨rfl,rfl⟩)
 ·(dsimp +instances only [Aa,Ab,Ac,Ad,Ae,Af,Ag])
  simp only[a7];exact aa.pos rfl (aa.some ⟨iU k ks,(v:Int),rfl,fun _=>by omega⟩)
 ·(dsimp +instances only [Aa,Ab,Ac,Ad,Ae,Af,Ag])
  simp only[a7];exact aa.neg rfl (aa.some ⟨iU k ks,-1,rfl,fun h=>by omega⟩)
def zJ(L:List (List G))(A:Nat→List (List G))(s v:Int):Prop:=0≤s→∃ k:Nat,s=(k:Int)∧k<L.length∧0≤v∧v<((A k).length:Int)
theorem Q7{t m s h:Int}{b c x y:ByteArray}(M:eD [.i t,.i m,.s b,.s c,.i s,.i h,.s x,.s y])(J:c.size≤100):∀(d i:Nat) (ks:List Nat) (u v:Int),i+d=L.length→zJ L A u v →
  aV rV [G.l L,.i (own:Int),.i off,.l (bl 0 ks),.l (ks.map fun k=>dy (bz A C own off k)),.i ((ks.length:Nat):Int),.l (bl 0 ks),.l (ks.map fun k=>dz (bz A C own off k)),.i ((ks.length:Nat):Int),.i t,.i m,.s b,.s c,.i s,.i h,.s x,.s y,.i u,.i v,.l L,.i (L.length:Int),.i (i:Int)] (d+1) fun e g =>
   (e=0∨e=1)∧∃(q:List Nat) (u v:Int),g=[G.l L,.i (own:Int),.i off,.l (bl 0 q),.l (q.map fun k=>dy (bz A C own off k)),.i ((q.length:Nat):Int),.l (bl 0 q),.l (q.map fun k=>dz (bz A C own off k)),.i ((q.length:Nat):Int),.i u,.i v]∧zJ L A u v
 | 0,i,ks,u,v,hi,B=>by
  refine aV.stop (x:=1) (aa.toEq ?_) ⟨.inr rfl,ks,u,v,rfl,B⟩;unfold rV
  (dsimp +instances only[Aa,Ab,Ac,Ad,Ae,Af,Ag])
  refine aa.n (aa.some ?_);simp only[a7]
 | d+1,i,ks,u,v,hi,B=>by
  have V:=S.n;have I:i<L.length:=by omega
  have step:aa (rV [G.l L,.i (own:Int),.i off,.l (bl 0 ks),.l (ks.map fun k=>dy (bz A C own off k)),.i ((ks.length:Nat):Int),.l (bl 0 ks),.l (ks.map fun k=>dz (bz A C own off k)),.i ((ks.length:Nat):Int),.i t,.i m,.s b,.s c,.i s,.i h,.s x,.s y,.i u,.i v,.l L,.i (L.length:Int),.i (i:Int)]) fun o =>
    (∃ q:List Nat,o=(some 0,[G.l L,.i (own:Int),.i off,.l (bl 0 q),.l (q.map fun k=>dy (bz A C own off k)),.i ((q.length:Nat):Int),.l (bl 0 q),.l (q.map fun k=>dz (bz A C own off k)),.i ((q.length:Nat):Int),.i (-1),.i (-1)]))∨∃(q:List Nat) (u v:Int),o=(none,[G.l L,.i (own:Int),.i off,.l (bl 0 q),.l (q.map fun k=>dy (bz A C own off k)),.i ((q.length:Nat):Int),.l (bl 0 q),.l (q.map fun k=>dz (bz A C own off k)),.i ((q.length:Nat):Int),.i t,.i m,.s b,.s c,.i s,.i h,.s x,.s y,.i u,.i v,.l L,.i (L.length:Int),.i ((i:Int)+1)])∧zJ L A u v:=by
   unfold rV
   (dsimp +instances only[Aa,Ab,Ac,Ad,Ae,Af,Ag])
   simp only[a7,S.get i I];refine aa.p (aa.p ?_);refine aa.test (fun _=>aa.p (aa.some (.inr ⟨ks,u,v,rfl,B⟩))) fun _=>?_;refine aa.test (fun _=>aa.p (aa.some (.inr ⟨ks,u,v,rfl,B⟩))) fun _=>?_;refine aa.call (afg S ho off I M J ks) ?_;rintro _ ⟨q,w,rfl,hw⟩
   (dsimp +instances only[Aa,Ab,Ac,Ad,Ae,Af,Ag])
   simp only[a7];refine aa.test (fun h0=>?_) fun _=>aa.p (aa.some (.inr ⟨q,u,v,rfl,B⟩));rw[eT,decide_eq_true_eq]at h0;refine aa.test (fun _=>aa.some (.inl ⟨q,rfl⟩)) fun _=>?_;exact aa.p (aa.some (.inr ⟨q,(i:Int),w,rfl,fun _=>⟨i,rfl,I,h0,hw h0⟩⟩))
  obtain⟨o,h,⟨q,rfl⟩|⟨q,O,U,rfl,N⟩⟩:=step
  ·exact aV.stop h ⟨.inl rfl,q,-1,-1,rfl,fun h=>by omega⟩
  ·exact aV.next h (Q7 M J d (i+1) q O U (by omega) N)
theorem afh{t m s h:Int}{b c x y:ByteArray}(I:eD [.i t,.i m,.s b,.s c,.i s,.i h,.s x,.s y])(B:c.size≤100)(ks:List Nat) :
  aa (rW [G.l L,.i (own:Int),.i off,.l (bl 0 ks),.l (ks.map fun k=>dy (bz A C own off k)),.i ((ks.length:Nat):Int),.l (bl 0 ks),.l (ks.map fun k=>dz (bz A C own off k)),.i ((ks.length:Nat):Int),.l [[.i t,.i m,.s b,.s c,.i s,.i h,.s x,.s y]]]) fun g=>∃(d:List Nat) (u v:Int),g=[G.l L,.i (own:Int),.i off,.l (bl 0 d),.l (d.map fun k=>dy (bz A C own off k)),.i ((d.length:Nat):Int),.l (bl 0 d),.l (d.map fun k=>dz (bz A C own off k)),.i ((d.length:Nat):Int),.i u,.i v]∧zJ L A u v:=by
 have J:=S.n;unfold rW
 (dsimp +instances only[Aa,Ab,Ac,Ad,Ae,Af,Ag])
 simp only[a7];refine aa.loop ((Q7 S ho off I B L.length 0 ks (-1) 0 (by omega) (fun h=>by omega)).to (by omega)) rfl ?_;rintro _ _ ⟨rfl|rfl,d,u,v,rfl,q⟩
 ·(dsimp +instances only [Aa,Ab,Ac,Ad,Ae,Af,Ag])
  simp only[a7];exact aa.pos rfl (aa.some ⟨d,u,v,rfl,q⟩)
 ·(dsimp +instances only [Aa,Ab,Ac,Ad,Ae,Af,Ag])
  simp only[a7];exact aa.neg rfl (aa.some ⟨d,u,v,rfl,q⟩)
end
theorem afi(f:Nat→List G){ks:List Nat}{n k:Nat}(h:fw k ks=some n):gd (ks.map f) (some n)=f k:=by
 obtain⟨h1,d⟩:=zG h;show (ks.map f).getD n []=_
 rw[ch,bZ];rw[ch]at d;rw[bI h1]at d⊢;simp only[lH]at d;simp only[eF,lH,d]
theorem afj(f:Nat→List G){ks:List Nat}{n k:Nat}(h:fw k ks=some n):kz (ks.map f) (some n)=true:=by
 obtain⟨h1,d⟩:=zG h;show fj n (ks.map f).length=true
 rw[dE];simpa using h1
section
variable {L:List (List G)} {C:Nat→ByteArray} {A:Nat→List (List G)} (S:mu L C A)
include S
theorem mu.inj{i j:Nat}(hi:i<L.length)(g:j<L.length)(h:C i=C j):i=j:=by
 rcases ag1 i j with d|d|d
 ·have := S.pE i j d g
  rw[pB.2 h]at this;omega
 ·exact d
 ·have := S.pE j i d hi
  rw[pB.2 h.symm]at this;omega
end
def Q8(L:List (List G))(C:Nat→ByteArray)(A:Nat→List (List G))(own:Nat)(off:Int)(i:Nat):Prop :=
 ∃ k j:Nat,k<L.length∧C k=(gi ((A own).getD i []) 3).str∧[G.i (i:Int),.i (j:Int)]∈bz A C own off k
def Gm(L:List (List G))(C:Nat→ByteArray)(A:Nat→List (List G))(own:Nat)(off:Int)(i:Nat)(row:List G):Prop :=
 ∃ (d:Int) (w:ByteArray) (v:Int),row=[.i (i:Int),.i d,.s w,.i v] ∧
  ((∃ k j : Nat, k < L.length ∧ j < (A k).length ∧ C k = (gi ((A own).getD i []) 3).str ∧ w = C k ∧ v = (j : Int) ∧ [G.i (i : Int), .i (j : Int)] ∈ bz A C own off k ∧
    ((d=1∧zI ((A k).getD j []) ((A own).getD i [])=true)∨(d=3∧zI ((A k).getD j []) ((A own).getD i [])=false))) ∨
   (¬ Q8 L C A own off i∧((d=2∧∃ k:Nat,k<L.length∧w=C k∧0≤v∧v<((A k).length:Int))∨((d=4∨d=5)∧w=⟨#[]⟩∧v = -1))))
def Gn(L:List (List G))(C:Nat→ByteArray)(A:Nat→List (List G))(own:Nat)(off:Int)(i:Nat)(row:List G):Prop :=
 row=[.i (i:Int),.i 6,.s ⟨#[]⟩,.i (-1)]∨Gm L C A own off i row
def mv(L:List (List G))(C:Nat→ByteArray)(A:Nat→List (List G))(own:Nat)(off:Int)(d:List (List G)):Prop :=
 ∀ j,j<d.length→Gn L C A own off j (d.getD j [])
section
variable {L:List (List G)} {C:Nat→ByteArray} {A:Nat→List (List G)} (S:mu L C A) {own:Nat} (ho:own<L.length) (off:Int)
include S ho
theorem afk{k:Nat}(hk:k<L.length)(i:Nat):(dL [.int .i64] (fR so (bz A C own off k) ([],0)).1 [.i (i:Int)]=true→∃ j:Nat,j<(A k).length∧[G.i (i:Int),.i (j:Int)]∈bz A C own off k∧aA [.int .i64] (fR so (bz A C own off k) ([],0)).1 [.i (i:Int)] [.i 0]=[.i (j:Int)]) ∧
  (dL [.int .i64] (fR so (bz A C own off k) ([],0)).1 [.i (i:Int)]=false→∀ j:Nat,[G.i (i:Int),.i (j:Int)]∉bz A C own off k):=by
 have q:∀ r∈bz A C own off k,∃ a b:Nat,r=[.i (a:Int),.i (b:Int)]∧b<(A k).length:=fun r u=>by
  obtain⟨a,b,h1,_,d,_⟩:=zF (S.two ho hk) u;exact⟨a,b,h1,d⟩
 rw[QX,KY,G1];constructor
 ·intro h
  rcases QY so [.i (i:Int)] [.i 0] (bz A C own off k) ([],0)with⟨r,h1,d,g⟩|⟨h1,_⟩
  ·obtain ⟨a, b, rfl, hb⟩ := q r h1
   have d:a_ [.int .i64] [.i (i:Int)] [.i (a:Int)]=true:=d;rw[Gf,decide_eq_true_eq]at d;have:i=a:=by omega
   subst this;exact⟨b,hb,h1,g⟩
  ·obtain ⟨r, d, g⟩ := jy.1 h
   rw[h1 r d]at g;cases g
 ·intro h j v
  have:=List.any_eq_false.1 h _ v;apply this;show a_ [.int .i64] [.i (i:Int)] [.i (i:Int)]=true
  rw[Gf];simp
theorem afl{i:Nat}(hi:i<(A own).length)(ks:List Nat):aa (zd [G.l L,.i (own:Int),.i off,.l (bl 0 ks),.l (ks.map fun k=>dy (bz A C own off k)),.i ((ks.length:Nat):Int),.l (bl 0 ks),.l (ks.map fun k=>dz (bz A C own off k)),.i ((ks.length:Nat):Int),.i (i:Int)]) fun g=>∃(d:List Nat) (row:List G),g=[G.l L,.i (own:Int),.i off,.l (bl 0 d),.l (d.map fun k=>dy (bz A C own off k)),.i ((d.length:Nat):Int),.l (bl 0 d),.l (d.map fun k=>dz (bz A C own off k)),.i ((d.length:Nat):Int),.l [row]]∧Gm L C A own off i row:=by
 obtain⟨J,U⟩:=S.mem ho hi;have hna:=S.na own ho;have B:=S.n;have V:eD (aI [.int .i64,.int .i64,.str,.str,.int .i64,.int .i64,.str,.str] ((A own).getD i [])):=by rw[J.1]; exact J
 unfold zd
 (dsimp +instances only[Aa,Ab,Ac,Ad,Ae,Af,Ag])
 simp only[a7,S.get own ho]
 (dsimp +instances only[Aa,Ab,Ac,Ad,Ae,Af,Ag])
 refine aa.p (aa.p ?_);refine aa.call (Gl S _) ?_;rintro _ ⟨p,b,rfl,hT,hF⟩
 (dsimp +instances only[Aa,Ab,Ac,Ad,Ae,Af,Ag])
 have last:∀(ks:List Nat) (b:Bool),¬ Q8 L C A own off i→aa (aw (rW [G.l L,.i (own:Int),.i off,.l (bl 0 ks),.l (ks.map fun k=>dy (bz A C own off k)),.i ((ks.length:Nat):Int),.l (bl 0 ks),.l (ks.map fun k=>dz (bz A C own off k)),.i ((ks.length:Nat):Int),.l [aI [.int .i64,.int .i64,.str,.str,.int .i64,.int .i64,.str,.str] ((A own).getD i [])]]) fun g=>(bif a8 0 (gi g 9).int then (bif (az (gi g 9).int)&&(al (gi g 9).int (((gi g 0).rows.length:Nat):Int)) then some [.l (gi g 0).rows,.i (gi g 1).int,.i (gi g 2).int,.l (gi g 3).rows,.l (gi g 4).rows,.i (((gi g 5).int.toNat:Nat):Int),.l (gi g 6).rows,.l (gi g 7).rows,.i (((gi g 8).int.toNat:Nat):Int),.l [[.i (i:Int),.i 2,.s (gi ((gi g 0).rows.getD ((gi g 9).int.toNat) []) 0).str,.i (gi g 10).int]]] else none) else (bif b then some [.l (gi g 0).rows,.i (gi g 1).int,.i (gi g 2).int,.l (gi g 3).rows,.l (gi g 4).rows,.i (((gi g 5).int.toNat:Nat):Int),.l (gi g 6).rows,.l (gi g 7).rows,.i (((gi g 8).int.toNat:Nat):Int),.l [[.i (i:Int),.i 4,.s ⟨#[]⟩,.i (-1)]]] else some [.l (gi g 0).rows,.i (gi g 1).int,.i (gi g 2).int,.l (gi g 3).rows,.l (gi g 4).rows,.i (((gi g 5).int.toNat:Nat):Int),.l (gi g 6).rows,.l (gi g 7).rows,.i (((gi g 8).int.toNat:Nat):Int),.l [[.i (i:Int),.i 5,.s ⟨#[]⟩,.i (-1)]]])))
   fun g=>∃(d:List Nat) (row:List G),g=[G.l L,.i (own:Int),.i off,.l (bl 0 d),.l (d.map fun k=>dy (bz A C own off k)),.i ((d.length:Nat):Int),.l (bl 0 d),.l (d.map fun k=>dz (bz A C own off k)),.i ((d.length:Nat):Int),.l [row]]∧Gm L C A own off i row:=fun ks b q=>by
  refine aa.call (afh S ho off V U ks) ?_;rintro _ ⟨d,u,v,rfl,hm⟩
  (dsimp +instances only[Aa,Ab,Ac,Ad,Ae,Af,Ag])
  simp only[a7];refine aa.test (fun h0=>?_) fun _=>?_
  ·rw [eT, decide_eq_true_eq] at h0
   obtain⟨k,rfl,hk,W,hv1⟩:=hm h0;simp only[a7,S.get k hk];refine aa.p (aa.some ⟨d,_,rfl,2,C k,v,rfl,.inr ⟨q,.inl ⟨rfl,k,hk,rfl,W,hv1⟩⟩⟩)
  ·refine aa.test (fun _=>aa.some ⟨d,_,rfl,4,⟨#[]⟩,-1,rfl,.inr ⟨q,.inr ⟨.inl rfl,rfl,rfl⟩⟩⟩) fun _=>aa.some ⟨d,_,rfl,5,⟨#[]⟩,-1,rfl,.inr ⟨q,.inr ⟨.inr rfl,rfl,rfl⟩⟩⟩
 refine aa.test (fun hb=>?_) fun hb=>?_
 ·obtain ⟨h, y⟩ := hT hb
  refine aa.cE (Q4 S ho off h ks) ?_
  (dsimp +instances only[Aa,Ab,Ac,Ad,Ae,Af,Ag])
  obtain⟨n,B⟩:=Q2 p ks;simp only[a7,zH,B,afi (fun k=>dy (bz A C own off k)) B];refine aa.pos rfl (aa.pos (afj _ B) ?_);obtain⟨j1,j2⟩:=afk S ho off h i;refine aa.test (fun hm=>?_) fun hm=>?_
  ·obtain ⟨j, q, N, hjg⟩ := j1 hm
   have hnk:=S.na p h;have hg:aA [.int .i64] (gi (dy (bz A C own off p)) 0).rows [.i (i:Int)] [.i 0]=[.i (j:Int)]:=hjg;simp only[hg]
   (dsimp +instances only[Aa,Ab,Ac,Ad,Ae,Af,Ag])
   simp only[a7,S.get own ho,S.get p h]
   (dsimp +instances only[Aa,Ab,Ac,Ad,Ae,Af,Ag])
   obtain⟨hy,hys⟩:=S.mem h q;simp only[J.1,hy.1];refine aa.p (aa.p ?_);refine aa.cE (Q5 _ _) ?_
   (dsimp +instances only[Aa,Ab,Ac,Ad,Ae,Af,Ag])
   refine aa.test (fun M=>?_) fun M=>?_
   ·exact aa.some ⟨iU p ks,_,rfl,1,_,(j:Int),rfl,.inl ⟨p,j,h,q,y,y.symm,rfl,N,.inl ⟨rfl,M⟩⟩⟩
   ·exact aa.some ⟨iU p ks,_,rfl,3,_,(j:Int),rfl,.inl ⟨p,j,h,q,y,y.symm,rfl,N,.inr ⟨rfl,M⟩⟩⟩
  ·refine last (iU p ks) b ?_
   rintro⟨k,j,hk,I,O⟩;have:=S.inj hk h (I.trans y.symm);subst this;exact j2 hm j O
 ·refine last ks b ?_
  rintro⟨k,j,hk,I,O⟩;exact hF hb k hk I
theorem Q9{len:Nat}(hlen:len=(A own).length):∀(d i:Nat) (ks:List Nat) (seen:List (List G)) (clk:Nat) (out:List (List G)),i+d=len→out.length=i→mv L C A own off out →
  aV rX [G.l L,.i (own:Int),.i off,.l (bl 0 ks),.l (ks.map fun k=>dy (bz A C own off k)),.i ((ks.length:Nat):Int),.l (bl 0 ks),.l (ks.map fun k=>dz (bz A C own off k)),.i ((ks.length:Nat):Int),.l seen,.i (clk:Int),.l out,.l (A own),.i (len:Int),.i (i:Int)] (d+1) fun e g =>
   e=0∧∃(q:List Nat) (out:List (List G)),g=[G.l L,.i (own:Int),.i off,.l (bl 0 q),.l (q.map fun k=>dy (bz A C own off k)),.i ((q.length:Nat):Int),.l (bl 0 q),.l (q.map fun k=>dz (bz A C own off k)),.i ((q.length:Nat):Int),.l out]∧out.length=len∧mv L C A own off out
 | 0,i,ks,seen,clk,out,hi,M,I=>by
  refine aV.stop (x:=0) (aa.toEq ?_) ⟨rfl,ks,out,rfl,by omega,I⟩;unfold rX
  (dsimp +instances only[Aa,Ab,Ac,Ad,Ae,Af,Ag])
  refine aa.n (aa.p (aa.some ?_));simp only[a7]
 | d+1,i,ks,seen,clk,out,hi,M,I=>by
  have O:=S.na own ho;have add:∀ row,Gn L C A own off i row→mv L C A own off (out++[row]):=fun row u j N=>by
   rw[fi,ag4]at N;by_cases e:j=i
   ·subst e
    rw[ch,List.getElem?_append_right (by omega),show j-out.length=0 by omega];exact u
   ·have := I j (by omega)
    rw[ch]at this⊢;rw[List.getElem?_append_left (by omega)];exact this
  have step:aa (rX [G.l L,.i (own:Int),.i off,.l (bl 0 ks),.l (ks.map fun k=>dy (bz A C own off k)),.i ((ks.length:Nat):Int),.l (bl 0 ks),.l (ks.map fun k=>dz (bz A C own off k)),.i ((ks.length:Nat):Int),.l seen,.i (clk:Int),.l out,.l (A own),.i (len:Int),.i (i:Int)]) fun o =>
    ∃(q:List Nat) (y:List (List G)) (B:Nat) (row:List G),o=(none,[G.l L,.i (own:Int),.i off,.l (bl 0 q),.l (q.map fun k=>dy (bz A C own off k)),.i ((q.length:Nat):Int),.l (bl 0 q),.l (q.map fun k=>dz (bz A C own off k)),.i ((q.length:Nat):Int),.l y,.i (B:Int),.l (out++[row]),.l (A own),.i (len:Int),.i ((i:Int)+1)])∧Gn L C A own off i row:=by
   unfold rX
   (dsimp +instances only[Aa,Ab,Ac,Ad,Ae,Af,Ag])
   simp only[a7];refine aa.p (aa.p ?_);refine aa.test (fun _=>?_) fun _=>?_
   ·exact aa.p (aa.p (aa.p (aa.some ⟨ks,_,_,_,rfl,.inl rfl⟩)))
   ·refine aa.call (afl S ho off (by omega) ks) ?_
    rintro _ ⟨q,row,rfl,u⟩;have J:aI fP row=row:=by
     obtain⟨U,w,v,rfl,_⟩:=u;rfl
    (dsimp +instances only[Aa,Ab,Ac,Ad,Ae,Af,Ag])
    simp only[a7,J];refine aa.test (fun _=>?_) fun _=>?_
    ·exact aa.p (aa.p (aa.p (aa.some ⟨q,_,_,row,rfl,.inr u⟩)))
    ·exact aa.p (aa.p (aa.p (aa.some ⟨q,_,_,row,rfl,.inr u⟩)))
  obtain⟨o,h,q,y,B,row,rfl,u⟩:=step;exact aV.next h (Q9 hlen d (i+1) q y B (out++[row]) (by omega) (by simp; omega) (add row u))
theorem afm:aa (ze [.l L,.i (own:Int),.i off,.l [],.i 0,.l [],.i 0]) fun g=>∃ out,g=[.l [],.l [],.l [],.l out]∧out.length=(A own).length∧mv L C A own off out:=by
 have q:=S.na own ho;have v:=S.n;unfold ze
 (dsimp +instances only[Aa,Ab,Ac,Ad,Ae,Af,Ag])
 simp only[a7,S.get own ho]
 (dsimp +instances only[Aa,Ab,Ac,Ad,Ae,Af,Ag])
 refine aa.pos rfl (aa.p ?_);have d:=Q9 S ho off (len:=(A own).length) rfl (A own).length 0 [] [] 0 [] (by omega) rfl (fun j h=>by cases h);refine aa.loop (d.to (by omega)) rfl ?_;rintro _ _ ⟨rfl,u,out,rfl,h1,k⟩
 (dsimp +instances only[Aa,Ab,Ac,Ad,Ae,Af,Ag])
 exact aa.p (aa.some ⟨out,rfl,h1,k⟩)
omit ho in
theorem afn(h0:0≤off)(h1:off≤300)(h:rI [.l L]=some [.i 0])(s:ByteArray):aa (mh [.l L,.s s,.i off]) fun g =>
  (∃ own out,own<L.length∧C own=s∧g=[.l out,.i (own:Int),.i 0]∧out.length=(A own).length∧mv L C A own off out)∨(∀ k,k<L.length→C k≠s)∧g=[.l [],.i 0,.i 8]:=by
 unfold mh
 (dsimp +instances only[Aa,Ab,Ac,Ad,Ae,Af,Ag])
 refine aa.cE h ?_;refine aa.neg rfl ?_;refine aa.call (P:=fun g=>g=[.i 0]) ?_ ?_
 ·unfold Eu
  (dsimp +instances only[Aa,Ab,Ac,Ad,Ae,Af,Ag])
  refine aa.cE (r8 off 0 3600000) ?_;refine aa.neg ?_ (aa.some rfl);show (!(a8 0 off&&a8 off 3600000))=false
  rw[eT,eT,decide_eq_true h0,decide_eq_true (by omega:off≤3600000)];rfl
 rintro _ rfl;refine aa.neg rfl ?_;refine aa.call (Gl S s) ?_;rintro _ ⟨p,b,rfl,u,v⟩
 (dsimp +instances only[Aa,Ab,Ac,Ad,Ae,Af,Ag])
 refine aa.test (fun hb=>aa.some (.inr ⟨v (by simpa using hb),rfl⟩)) fun hb=>?_;obtain⟨d,q⟩:=u (by simpa using hb);refine aa.call (P:=fun g=>g=[.l L,.i (p:Int),.i off,.l [],.i 0,.l [],.i 0]) (aa.eq rfl) ?_;rintro _ rfl
 (dsimp +instances only[Aa,Ab,Ac,Ad,Ae,Af,Ag])
 refine aa.call (afm S d off) ?_;rintro _ ⟨out,rfl,y,B⟩;exact aa.some (.inl ⟨p,out,d,q,rfl,y,B⟩)
theorem afo(h0:0≤off)(h1:off≤300)(h:rI [.l L]=some [.i 0]):aa (mh [.l L,.s (C own),.i off]) fun g =>
  ∃ out,g=[.l out,.i (own:Int),.i 0]∧out.length=(A own).length∧mv L C A own off out:=by
 refine(afn S off h0 h1 h (C own)).mono ?_;rintro _ (⟨p,out,q,k,rfl,d,u⟩|⟨d,_⟩)
 ·have := S.inj q ho k
  subst this;exact⟨out,rfl,d,u⟩
 ·exact absurd rfl (d own ho)
end
theorem afp{r:List G}:gn r=0↔eC (gi r 0).int 0 345686399999=true∧eC (gi r 1).int 1 3=true∧lp (gi r 2).str=true∧jU (gi r 3).str=true∧eC (gi r 4).int 0 99999=true∧eC (gi r 5).int 0 99999=true ∧
  lq (gi r 6).str=true∧lq (gi r 7).str=true:=by
 unfold gn;generalize eC (gi r 0).int 0 345686399999=b1;generalize eC (gi r 1).int 1 3=d;generalize lp (gi r 2).str=g;generalize jU (gi r 3).str=h;generalize eC (gi r 4).int 0 99999=k;generalize eC (gi r 5).int 0 99999=q;generalize lq (gi r 6).str=u;generalize lq (gi r 7).str=v;cases b1<;>cases d<;>cases g<;>cases h<;>cases k<;>cases q<;>cases u<;>cases v<;>simp
theorem Q_:∀{l:List (List G)} {o:Option (List G)},gp o l=0→∀ x∈l,gn x=0
 | [],_,_,_,h=>by cases h
 | y::q,o,h,x,d=>by
  have key:gn y=0∧gp (some y) q=0:=by
   cases o with
   | none =>
    simp only[gp]at h;split at h
    ·contradiction
    ·rename_i h1
     exact⟨by simpa using h1,h⟩
   | some z =>
    simp only[gp]at h;split at h
    ·contradiction
    ·rename_i h1
     split at h
     ·cases h
     ·exact⟨by simpa using h1,h⟩
  rcases bV.1 d with rfl|d
  ·exact key.1
  ·exact Q_ key.2 x d
theorem afq{l:List (List G)}(h:jV l=0):∀ x∈l,gn x=0:=by
 unfold jV at h;split at h
 ·cases h
 ·exact Q_ h
theorem afr{c:ByteArray}{L:List (List G)}(h:kJ c L=0):jU c=true∧jZ c L=false:=by
 unfold kJ at h;cases h1:jU c with
 |false=>rw[h1]at h; cases h
 | true =>
  rw[h1]at h;cases d:jV L != 0 with
  | true =>
   rw[d]at h;simp only[GS,cond_false,cond_true]at h;rw[h]at d;cases d
  | false =>
   rw[d]at h;cases g:jZ c L with
   |true=>rw[g]at h; cases h
   |false=>exact⟨rfl,rfl⟩
structure pF (L:List (List G)) (C:Nat→ByteArray) (A:Nat→List (List G)):Prop where
 get:∀ i,i<L.length→L.getD i []=[.s (C i),.l (A i)]
 n:L.length≤4
 nW:∀ i,i<L.length→∀ z∈A i,dC z
 na:∀ i,i<L.length→(A i).length≤14
 call:∀ i,i<L.length→C i∈calls
 pE:∀ i j,i<j→j<L.length→dQ (C i) (C j)<0
 less:∀ i,0<i→i<L.length→(lz (C i).toList (C (i-1)).toList||((C i).toList==(C (i-1)).toList))=false
 fault:∀ i,i<L.length→kJ (C i) (A i)=0
theorem Gp{c:ByteArray}(h:c∈calls):c.size≤100:=by
 have d:calls.all (fun c=>dH c.size 100)=true:=by kernel_rfl
 simpa using cO.1 d c h
section
variable {L:List (List G)} {C:Nat→ByteArray} {A:Nat→List (List G)} (R:pF L C A)
include R
theorem pF.Ra{i:Nat}(hi:i<L.length):∀ z∈A i,dC z∧gn z=0:=fun z d=>⟨R.nW i hi z d,afq (QN (R.fault i hi)) z d⟩
theorem pF.vw:mu L C A:=by
 refine⟨R.get,R.n,fun i hi z g=>?_,R.na,fun i hi=>Gp (R.call i hi),R.pE⟩;obtain⟨h1,k⟩:=R.Ra hi z g;have d:=(afp.1 k).1;unfold eC at d;simp only[eT,aB,decide_eq_true_eq]at d;refine⟨⟨h1.eta,?_,?_⟩,?_⟩
 ·unfold hZ; omega
 ·unfold hZ; omega
 ·obtain ⟨t, m, b, c, s, h, x, y, rfl, _, _, _, _, _, q, _⟩ := h1
  exact Gp q
theorem afs{i:Nat}(hi:i<L.length):yU [.l [[.i (i:Int)]],.l [[.s (C i),.l (A i)]],.l [[.l L]]]=some [.i 0]:=by
 have k:=R.n;refine aa.toEq ?_;unfold yU
 (dsimp +instances only[Aa,Ab,Ac,Ad,Ae,Af,Ag])
 refine aa.test (fun h=>?_) fun _=>aa.some rfl;rw[dV,decide_eq_true_eq]at h;have e:((i:Int)-1).toNat=i-1:=by omega
 have d:=R.less i (by omega) hi;have g:=R.get (i-1) (by omega);simp only[e,g]
 (dsimp +instances only[Aa,Ab,Ac,Ad,Ae,Af,Ag])
 refine aa.p (aa.p (aa.neg ?_ (aa.some rfl)));exact d
theorem aft{i:Nat}(hi:i<L.length):yW [.l [[.s (C i),.l (A i)]],.l [[.i (i:Int)]],.l [[.s (C i),.l (A i)]],.l [[.l L]]]=some [.i 0]:=by
 have d:=R.fault i hi;obtain⟨h1,g⟩:=afr d;have h:=QN d;have k:=R.na i hi;refine aa.toEq ?_;unfold yW
 (dsimp +instances only[Aa,Ab,Ac,Ad,Ae,Af,Ag])
 refine aa.cE (P8 (R.call i hi)) ?_
 (dsimp +instances only[Aa,Ab,Ac,Ad,Ae,Af,Ag])
 refine aa.neg (by rw[h1]; rfl) ?_;refine aa.cE (afs R hi) ?_;refine aa.neg rfl ?_;refine aa.cE (aez (A i) (R.nW i hi) (by omega)) ?_
 (dsimp +instances only[Aa,Ab,Ac,Ad,Ae,Af,Ag])
 rw[h];refine aa.neg rfl ?_;refine aa.call (aa.eq (QM (C:=yV) (c:=C i) (A:=A i) (fun z q=>by
  refine aa.toEq ?_;unfold yV
  (dsimp +instances only[Aa,Ab,Ac,Ad,Ae,Af,Ag])
  exact aa.some rfl) (A i) (R.nW i hi) (by omega))) ?_
 rintro _ rfl
 (dsimp +instances only[Aa,Ab,Ac,Ad,Ae,Af,Ag])
 exact aa.neg g (aa.some rfl)
theorem Rb:∀(k i:Nat),i+k=L.length→aV uU [.l L,.l L,.i (L.length:Int),.i (i:Int)] (k+1) fun x _=>x=1
 | 0,i,hi=>by
  refine aV.stop (x:=1) (d':=[]) (aa.toEq ?_) rfl;unfold uU
  (dsimp +instances only[Aa,Ab,Ac,Ad,Ae,Af,Ag])
  exact aa.n (aa.some rfl)
 | k+1,i,hi=>by
  have d:=R.n;refine aV.next (d1:=[.l L,.l L,.i (L.length:Int),.i ((i:Int)+1)]) (aa.toEq ?_) (Rb k (i+1) (by omega))
  unfold uU
  (dsimp +instances only[Aa,Ab,Ac,Ad,Ae,Af,Ag])
  simp only[a7,R.get i (by omega:i<L.length)];refine aa.p (aa.p ?_);refine aa.cE (aft R (i:=i) (by omega)) ?_;exact aa.neg rfl (aa.p (aa.some rfl))
theorem afu:rI [.l L]=some [.i 0]:=by
 have d:=R.n;refine aa.toEq ?_;unfold rI
 (dsimp +instances only[Aa,Ab,Ac,Ad,Ae,Af,Ag])
 refine aa.n ?_;refine aa.loop ((Rb R L.length 0 (by omega)).to (by omega)) rfl ?_;rintro x g rfl;exact aa.neg rfl (aa.some rfl)
end
/-! ### g order of d -/
def Good(z:List G):Prop:=dC z∧gn z=0
theorem afv{L:List (List G)}{C:Nat→ByteArray}{A:Nat→List (List G)}{own:Nat}{off:Int}{g:List (List G)}(u:mv L C A own off g){j:Nat}(y:j<g.length) :
  ∃(d:Int) (w:ByteArray) (v:Int),g.getD j []=[.i (j:Int),.i d,.s w,.i v]∧(d=2→∃ k:Nat,k<L.length∧w=C k)∧(d=3→∃ k i:Nat,k<L.length∧i<(A k).length∧w=C k∧v=(i:Int)):=by
 rcases u j y with h|⟨d,w,v,h,⟨k,i,h1,q,J,B,I,M,N⟩|⟨_,⟨rfl,k,h1,q,_⟩|⟨h1,rfl,rfl⟩⟩⟩
 ·exact⟨6,_,_,h,fun e=>(by omega),fun e=>(by omega)⟩
 ·exact⟨d,w,v,h,fun e=>(by omega),fun _=>⟨k,i,h1,q,B,I⟩⟩
 ·exact⟨2,w,v,h,fun _=>⟨k,h1,q⟩,fun e=>(by omega)⟩
 ·exact⟨d,_,_,h,fun e=>(by omega),fun e=>(by omega)⟩
section
variable {L:List (List G)} {C:Nat→ByteArray} {A:Nat→List (List G)} (R:pF L C A) {own:Nat} (ho:own<L.length) (off:Int)
include R ho
theorem pF.row{j:Nat}(d:j<(A own).length):Good ((A own).getD j []) :=
 R.Ra ho _ (by rw[ch,bI d]; exact kN d)
omit ho in
omit R ho in
end
/-! ### h d g -/
def gG(i:Nat):ByteArray:=C4.getD i ⟨#[]⟩
def sq(X:List (List G))(i:Nat):List (List G):=(gi (X.getD i []) 1).rows
theorem afw:∀ i j,i<j→j<4→dQ (gG i) (gG j)<0:=by
 have h:((dG 4).all fun j=>(dG j).all fun i=>al (dQ (gG i) (gG j)) 0)=true:=by kernel_rfl
 intro i j d g;have h1:=cO.1 (cO.1 h j (eP.2 g)) i (eP.2 d)
 rwa [dV,decide_eq_true_eq]at h1
theorem Rc:∀ i,i<4→gG i∈calls:=by
 have h:((dG 4).all fun i=>jT calls (gG i))=true:=by kernel_rfl
 exact fun i hi=>zo (cO.1 h i (eP.2 hi))
theorem afx:∀ i,0<i→i<4→(lz (gG i).toList (gG (i-1)).toList||((gG i).toList==(gG (i-1)).toList))=false:=by
 intro i h0 d;have e:∀ a b:ByteArray,(lz a.data.toList b.data.toList||nI a b)=false→(lz a.toList b.toList||(a.toList==b.toList))=false:=fun a b h=>by
  rw[pR,pR];exact h
 have h:((dG 4).all fun i=>ad i 0 || !(lz (gG i).data.toList (gG (i-1)).data.toList||nI (gG i) (gG (i-1))))=true:=by kernel_rfl
 have h1:=cO.1 h i (eP.2 d);refine e _ _ ?_;simp only[Bool.or_eq_true,mE,KW]at h1;rcases h1 with h1|h1
 ·omega
 ·exact h1
theorem afy{X:List (List G)}{m:Nat}(v:X.length=m)(hm:m≤4)(hX:∀ i,i<m→Gc (C4.getD i ⟨#[]⟩) (X.getD i []))(h:∀ j,j<X.length→∀ c L,X.getD j []=[.s c,.l L]→kJ c L=0):pF X gG (sq X):=by
 have d:∀ i,i<X.length→X.getD i []=[.s (gG i),.l (sq X i)]∧(∀ z∈sq X i,jt z)∧(sq X i).length≤14:=fun i hi=>by
  obtain⟨L,h1,k,q⟩:=hX i (by omega);have e:sq X i=L:=by unfold sq; rw[h1]; rfl
  rw[e];exact⟨h1,k,q⟩
 exact⟨fun i hi=>(d i hi).1,by omega,fun i hi z u=>((d i hi).2.1 z u).1,fun i hi=>(d i hi).2.2,fun i hi=>Rc i (by omega),fun i j g y=>afw i j g (by omega),fun i h0 hi=>afx i h0 (by omega),fun i hi=>h i hi _ _ (d i hi).1⟩
def ju(d:Int):Bool:=d==2||(d==3||d==4)
theorem Re(g:Int):vg [.i g]=some [.t (ju g)]:=by
 refine aa.toEq ?_;unfold vg ju
 (dsimp +instances only[Aa,Ab,Ac,Ad,Ae,Af,Ag])
 refine aa.test (fun h=>aa.some ?_) fun h=>aa.test (fun d=>aa.some ?_) fun d=>aa.some ?_
 ·rw[h]; rfl
 ·rw[h,d]; rfl
 ·rw[h,d]; rfl
def eE(d:List (List G)):Nat→Nat
 |0=>0
 |i+1=>eE d i+bif ju (gi (d.getD i []) 1).int then 1 else 0
theorem vz(d:List (List G)):∀ i,eE d i≤i
 |0=>aG _
 | i+1=>by
  have:=vz d i;unfold eE;cases ju (gi (d.getD i []) 1).int<;>simp<;>omega
section
variable {L:List (List G)} {C:Nat→ByteArray} {A:Nat→List (List G)} (R:pF L C A) {own:Nat} (ho:own<L.length) (off:Int)
include R
omit R in
theorem afz{a b:List G}{off:Int}{s:ByteArray}(ha:eD a)(hb:eD b)(has:(gi a 3).str.size≤100)(d:s.size≤100):aa (zf [.l [a],.l [[.s s]],.l [b],.l [[.i off]]]) fun g=>∃ t,g=[.t t]:=by
 unfold zf
 (dsimp +instances only[Aa,Ab,Ac,Ad,Ae,Af,Ag])
 refine aa.call (Q1 has d) ?_;rintro _ ⟨v,rfl⟩
 (dsimp +instances only[Aa,Ab,Ac,Ad,Ae,Af,Ag])
 simp only[ha.1,hb.1];refine aa.cE (zw off hb ha) ?_
 (dsimp +instances only[Aa,Ab,Ac,Ad,Ae,Af,Ag])
 exact aa.test (fun _=>aa.test (fun _=>aa.some ⟨_,rfl⟩) fun _=>aa.some ⟨_,rfl⟩) fun _=>aa.some ⟨_,rfl⟩
omit R in
theorem Rf{b:List G}{off:Int}{s:ByteArray}(hb:eD b)(u:s.size≤100){q:List (List G)}(y:∀ z∈q,eD z∧(gi z 3).str.size≤100)(B:q.length≤1000):∀(d i:Nat),i+d=q.length →
  aV rY [.l q,.l [[.s s]],.l [b],.l [[.i off]],.i (q.length:Int),.i (i:Int)] (d+1) fun x g=>(x=0∧∃ v,g=[.i v])∨x=1
 | 0,i,hi=>by
  refine aV.stop (x:=1) (d':=[]) (aa.toEq ?_) (.inr rfl);unfold rY
  (dsimp +instances only[Aa,Ab,Ac,Ad,Ae,Af,Ag])
  exact aa.n (aa.some rfl)
 | d+1,i,hi=>by
  have k:=y (q.getD i []) (by rw[ch,bI (by omega)]; exact kN _);have step:aa (rY [.l q,.l [[.s s]],.l [b],.l [[.i off]],.i (q.length:Int),.i (i:Int)]) fun o=>o=(some 0,[.i (i:Int)])∨o=(none,[.l q,.l [[.s s]],.l [b],.l [[.i off]],.i (q.length:Int),.i ((i:Int)+1)]):=by
   unfold rY
   (dsimp +instances only[Aa,Ab,Ac,Ad,Ae,Af,Ag])
   simp only[a7,k.1.1,hb.1];refine aa.p (aa.p ?_);refine aa.call (afz k.1 hb k.2 u) ?_;rintro _ ⟨t,rfl⟩
   (dsimp +instances only[Aa,Ab,Ac,Ad,Ae,Af,Ag])
   exact aa.test (fun _=>aa.some (.inl rfl)) fun _=>aa.p (aa.some (.inr rfl))
  obtain⟨o,h,rfl|rfl⟩:=step
  ·exact aV.stop h (.inl ⟨rfl,_,rfl⟩)
  ·exact aV.next h (Rf hb u y B d (i+1) (by omega))
theorem afA{k:Nat}(hk:k<L.length){b:List G}{off:Int}{s:ByteArray}(hb:eD b)(d:s.size≤100):aa (zg [.l [[.s (C k),.l (A k)]],.l [b],.s s,.i off]) fun g=>∃ t,g=[.t t]:=by
 have u:=R.na k hk;unfold zg
 (dsimp +instances only[Aa,Ab,Ac,Ad,Ae,Af,Ag])
 simp only[hb.1];refine aa.call (P:=fun g=>∃ t,g=[.t t]) ?_ ?_
 ·unfold Fo
  (dsimp +instances only[Aa,Ab,Ac,Ad,Ae,Af,Ag])
  simp only[hb.1];refine aa.call (P:=fun g=>∃ v,g=[.i v]) ?_ ?_
  ·unfold Fl
   (dsimp +instances only[Aa,Ab,Ac,Ad,Ae,Af,Ag])
   simp only[hb.1];refine aa.loop ((Rf (off:=off) hb d (q:=A k) (fun z h=>R.vw.nW k hk z h) (by omega) (A k).length 0 (by omega)).to (by omega)) rfl ?_;rintro x g (⟨rfl,v,rfl⟩|rfl)
   ·exact aa.pos rfl (aa.some ⟨_,rfl⟩)
   ·exact aa.neg rfl (aa.some ⟨_,rfl⟩)
  ·rintro _ ⟨v, rfl⟩
   exact aa.some ⟨_,rfl⟩
 ·rintro _ ⟨t, rfl⟩
  exact aa.some ⟨_,rfl⟩
include ho
def zK(L:List (List G))(C:Nat→ByteArray)(out:List (List G)):Prop:=∀ r∈out,∃(u:ByteArray) (k:Nat),r=[.s u,.s (C k)]∧k<L.length
theorem Gq{q:List (List G)}(V:q.length=(A own).length)(N:mv L C A own off q):∀(d i:Nat) (out:List (List G)),i+d=q.length→out.length=eE q i→zK L C out →
  aV rZ [.l out,.l L,.s (C own),.i off,.i (own:Int),.l q,.i (q.length:Int),.i (i:Int)] (d+1) fun x g=>x=0∧∃ v,g=[.l v]∧v.length=eE q q.length∧zK L C v
 | 0,i,out,hi,I,J=>by
  refine aV.stop (x:=0) (aa.toEq ?_) ⟨rfl,out,rfl,by rw[I,show i=q.length by omega],J⟩;unfold rZ
  (dsimp +instances only[Aa,Ab,Ac,Ad,Ae,Af,Ag])
  exact aa.n (aa.p (aa.some rfl))
 | d+1,i,out,hi,I,J=>by
  have hna:=R.na own ho;have hle:=vz q i;obtain⟨B,w,v,y,_,_⟩:=afv N (j:=i) (by omega);have hz:=R.row ho (j:=i) (by omega);have U:=R.vw.mem (i:=own) (j:=i) ho (by omega);have W:eE q (i+1)=eE q i+bif ju B then 1 else 0:=by
   show eE q i+(bif ju (gi (q.getD i []) 1).int then 1 else 0)=_
   rw[y];rfl
  have itoa:∀{Q:List G→Prop},(∀ u,Q [.s u])→aa (nJ [.i (i:Int)]) Q:=fun h=>by
   unfold nJ
   (dsimp +instances only[Aa,Ab,Ac,Ad,Ae,Af,Ag])
   exact aa.p (aa.some (h _))
  have step:aa (rZ [.l out,.l L,.s (C own),.i off,.i (own:Int),.l q,.i (q.length:Int),.i (i:Int)]) fun o =>
    (ju B = false ∧ o = (none, [.l out, .l L, .s (C own), .i off, .i (own : Int), .l q, .i (q.length : Int), .i ((i : Int) + 1)])) ∨
     ju B=true∧∃(u:ByteArray) (k:Nat),k<L.length∧o=(none,[.l (out++[[.s u,.s (C k)]]),.l L,.s (C own),.i off,.i (own:Int),.l q,.i (q.length:Int),.i ((i:Int)+1)]):=by
   unfold rZ
   (dsimp +instances only[Aa,Ab,Ac,Ad,Ae,Af,Ag])
   simp only[a7,y,R.get own ho]
   (dsimp +instances only[Aa,Ab,Ac,Ad,Ae,Af,Ag])
   simp only[a7];refine aa.p (aa.p ?_);refine aa.cE (Re B) ?_
   (dsimp +instances only[Aa,Ab,Ac,Ad,Ae,Af,Ag])
   refine aa.test (fun h=>aa.p (aa.p (aa.some (.inl ⟨by simpa using h,rfl⟩)))) fun h=>?_;have M:ju B=true:=by simpa using h
   refine aa.p (aa.p ?_);refine aa.test (fun _=>?_) fun _=>?_
   ·refine aa.call (Gl R.vw _) ?_
    rintro _ ⟨p,b,rfl,hT,hF⟩
    (dsimp +instances only[Aa,Ab,Ac,Ad,Ae,Af,Ag])
    refine aa.test (fun hb=>?_) fun hb=>?_
    ·obtain ⟨O, hpe⟩ := hT hb
     simp only[a7,R.get p O,U.1.1];refine aa.p ?_;refine aa.call (afA R O (off:=off) U.1 (Gp (R.call own ho))) ?_;rintro _ ⟨t,rfl⟩
     (dsimp +instances only[Aa,Ab,Ac,Ad,Ae,Af,Ag])
     refine aa.tail (P:=fun x g=>x=0∧∃(k:Nat),k<L.length∧g=[.l out,.i (i:Int),.i B,.s w,.i v,.l L,.s (C own),.i off,.i (own:Int),.s (C k),.l q,.i (q.length:Int),.i (i:Int)]) ?_ (by(first|rfl|assumption|(simp only[aq,sl]<;>omega))) ?_
     ·unfold vh
      (dsimp +instances only[Aa,Ab,Ac,Ad,Ae,Af,Ag])
      refine aa.test (fun _=>aa.p (aa.some ⟨0,rfl,rfl,p,O,?_⟩)) fun _=>aa.p (aa.some ⟨0,rfl,rfl,own,ho,rfl⟩);rw[hpe]
     ·rintro _ _ ⟨rfl, k, hk, rfl⟩
      (dsimp +instances only[Aa,Ab,Ac,Ad,Ae,Af,Ag])
      refine aa.call (itoa (Q:=fun g=>∃ u,g=[.s u]) fun u=>⟨u,rfl⟩) ?_;rintro _ ⟨u,rfl⟩
      (dsimp +instances only[Aa,Ab,Ac,Ad,Ae,Af,Ag])
      exact aa.p (aa.p (aa.p (aa.some (.inr ⟨M,u,k,hk,rfl⟩))))
    ·refine aa.tail (P := fun x g => x = 0 ∧ g = [.l out, .i (i : Int), .i B, .s w, .i v, .l L, .s (C own), .i off, .i (own : Int), .s (C own), .l q, .i (q.length : Int), .i (i : Int)]) ?_ (by (first|rfl|assumption|(simp only [aq,sl]<;>omega))) ?_
     ·unfold vh
      (dsimp +instances only[Aa,Ab,Ac,Ad,Ae,Af,Ag])
      exact aa.neg rfl (aa.p (aa.some ⟨0,rfl,rfl,rfl⟩))
     ·rintro _ _ ⟨rfl, rfl⟩
      (dsimp +instances only[Aa,Ab,Ac,Ad,Ae,Af,Ag])
      refine aa.call (itoa (Q:=fun g=>∃ u,g=[.s u]) fun u=>⟨u,rfl⟩) ?_;rintro _ ⟨u,rfl⟩
      (dsimp +instances only[Aa,Ab,Ac,Ad,Ae,Af,Ag])
      exact aa.p (aa.p (aa.p (aa.some (.inr ⟨M,u,own,ho,rfl⟩))))
   ·refine aa.call (itoa (Q := fun g => ∃ u, g = [.s u]) fun u => ⟨u, rfl⟩) ?_
    rintro _ ⟨u,rfl⟩
    (dsimp +instances only[Aa,Ab,Ac,Ad,Ae,Af,Ag])
    exact aa.p (aa.p (aa.p (aa.some (.inr ⟨M,u,own,ho,rfl⟩))))
  obtain⟨o,h,⟨hk,rfl⟩|⟨hk,u,k,hkl,rfl⟩⟩:=step
  ·refine aV.next h (Gq V N d (i + 1) out (by omega) ?_ J)
   rw[W,hk,I];rfl
  ·refine aV.next h (Gq V N d (i + 1) _ (by omega) ?_ ?_)
   ·rw [W, hk, fi, I]
    rfl
   ·intro r y
    rcases cS.1 y with y|y
    ·exact J r y
    ·rw [zZ.1 y]
     exact⟨u,k,rfl,hkl⟩
theorem afB{d:List (List G)}(k:d.length=(A own).length)(q:mv L C A own off d)(h:mh [.l L,.s (C own),.i off]=some [.l d,.i (own:Int),.i 0]) :
  aa (zi [.l L,.s (C own),.i off]) fun g=>∃ v,g=[.l v,.i 0]∧v.length=eE d d.length∧zK L C v:=by
 have I:=R.na own ho;unfold zi
 (dsimp +instances only[Aa,Ab,Ac,Ad,Ae,Af,Ag])
 refine aa.cE h ?_
 (dsimp +instances only[Aa,Ab,Ac,Ad,Ae,Af,Ag])
 refine aa.neg rfl ?_;refine aa.loop ((Gq R ho off k q d.length 0 [] (by omega) rfl (fun r u=>by cases u)).to (by omega)) rfl ?_;rintro _ _ ⟨rfl,v,rfl,y,B⟩
 (dsimp +instances only[Aa,Ab,Ac,Ad,Ae,Af,Ag])
 exact aa.p (aa.some ⟨v,rfl,y,B⟩)
theorem Rg{h:List (List G)}(q:h.length=(A own).length){k:Int}(p0:0≤k)(p1:k≤10):∀(d i:Nat),i+d=h.length →
  aV vj [.i k,.i ((eE h i:Int)*(1+k)),.l h,.i (h.length:Int),.i (i:Int)] (d+1) fun x g=>x=0∧g=[.i ((eE h h.length:Int)*(1+k))]
 | 0,i,hi=>by
  refine aV.stop (x:=0) (aa.toEq ?_) ⟨rfl,rfl⟩;unfold vj
  (dsimp +instances only[Aa,Ab,Ac,Ad,Ae,Af,Ag])
  refine aa.n (aa.some ?_);rw[show i=h.length by omega]
 | d+1,i,hi=>by
  have y:=R.na own ho;have u:=Rg q p0 p1 d (i+1) (by omega);have hle:=vz h i;have v:eE h (i+1)=eE h i+bif ju (gi (h.getD i []) 1).int then 1 else 0:=rfl
  have hb:0≤(eE h i:Int)*(1+k)∧(eE h i:Int)*(1+k)≤14*11:=by
   refine⟨G8 (by omega) (by omega),?_⟩;exact GH (by omega) (by omega) (by omega) (by omega)
  refine aV.next (d1:=[.i k,.i ((eE h (i+1):Int)*(1+k)),.l h,.i (h.length:Int),.i ((i+1:Nat):Int)]) (aa.toEq ?_) u
  unfold vj
  (dsimp +instances only[Aa,Ab,Ac,Ad,Ae,Af,Ag])
  simp only[a7];refine aa.p (aa.p ?_);refine aa.cE (Re _) ?_
  (dsimp +instances only[Aa,Ab,Ac,Ad,Ae,Af,Ag])
  rw[v];cases hk:ju (gi (h.getD i []) 1).int with
  | true =>
   refine aa.pos rfl (aa.p (aa.pos ?_ (aa.p (aa.some ?_))))
   ·simp only [aq, sl]
    omega
   ·have e:((eE h i+1:Nat):Int)*(1+k)=(eE h i:Int)*(1+k)+(1+k):=by
     rw[Int.natCast_add,Int.add_mul];simp
    simp only[cond_true,e];rfl
  |false=>exact aa.neg rfl (aa.p (aa.some rfl))
theorem afC{g:List (List G)}(k:g.length=(A own).length)(h:mh [.l L,.s (C own),.i off]=some [.l g,.i (own:Int),.i 0]){d:Int}(p0:0≤d)(p1:d≤10) :
  zk [.l L,.s (C own),.i off,.i d]=some [.i ((eE g g.length:Int)*(1+d)),.i 0]:=by
 have q:=R.na own ho;refine aa.toEq ?_;unfold zk
 (dsimp +instances only[Aa,Ab,Ac,Ad,Ae,Af,Ag])
 refine aa.cE h ?_
 (dsimp +instances only[Aa,Ab,Ac,Ad,Ae,Af,Ag])
 refine aa.neg rfl ?_;refine aa.cE (r8 d 0 10) ?_;refine aa.neg ?_ ?_
 ·show (!(a8 0 d && a8 d 10)) = false
  rw[eT,eT,decide_eq_true p0,decide_eq_true p1];rfl
 have h0:=Rg R ho k p0 p1 g.length 0 (by omega);rw[show ((eE g 0:Nat):Int)*(1+d)=0 from Int.zero_mul _]at h0;refine aa.loop (h0.to (by omega)) rfl ?_;rintro _ _ ⟨rfl,rfl⟩;exact aa.some rfl
omit ho R in
theorem Rh{L k b:List (List G)}{s:ByteArray}(v:k.length≤1000):∀(d i:Nat),i+d=k.length →
  aV vl [.l L,.s s,.l b,.i (eE k i:Int),.l k,.i (k.length:Int),.i (i:Int)] (d+1) fun x g=>x=0∧g=[.l L,.s s,.l b,.i (eE k k.length:Int)]
 | 0,i,hi=>by
  refine aV.stop (x:=0) (aa.toEq ?_) ⟨rfl,rfl⟩;unfold vl
  (dsimp +instances only[Aa,Ab,Ac,Ad,Ae,Af,Ag])
  refine aa.n (aa.some ?_);rw[show i=k.length by omega]
 | d+1,i,hi=>by
  have hle:=vz k i;have y:=Rh (L:=L) (b:=b) (s:=s) v d (i+1) (by omega);have B:eE k (i+1)=eE k i+bif ju (gi (k.getD i []) 1).int then 1 else 0:=rfl
  refine aV.next (d1:=[.l L,.s s,.l b,.i (eE k (i+1):Int),.l k,.i (k.length:Int),.i ((i+1:Nat):Int)]) (aa.toEq ?_) y
  unfold vl
  (dsimp +instances only[Aa,Ab,Ac,Ad,Ae,Af,Ag])
  simp only[a7];rw[B];unfold ju;generalize (gi (k.getD i []) 1).int=I;refine aa.p (aa.p ?_);refine aa.test (fun h=>?_) fun h=>aa.test (fun q=>?_) fun q=>aa.test (fun u=>?_) fun u=>?_
  ·rw[h]; exact aa.p (aa.p (aa.some rfl))
  ·rw[h,q]; exact aa.p (aa.p (aa.some rfl))
  ·rw[h,q,u]; exact aa.p (aa.p (aa.some rfl))
  ·rw[h,q,u]; exact aa.p (aa.some rfl)
omit ho in
theorem Ri{k:Nat}(hk:k<L.length)(u:ByteArray):∀(d i:Nat),i+d=k→aV vk [.l L,.l [[.s u,.s (C k)]],.i (L.length:Int),.i (i:Int)] (d+1) fun x g=>x=0∧g=[.i (k:Int)]
 | 0,i,hi=>by
  have h:=R.n;have:i=k:=by omega
  subst this;refine aV.stop (x:=0) (aa.toEq ?_) ⟨rfl,rfl⟩;unfold vk
  (dsimp +instances only[Aa,Ab,Ac,Ad,Ae,Af,Ag])
  simp only[a7,R.get i hk];refine aa.p (aa.p ?_);refine aa.call (P:=fun g=>g=[.t ((C i).toList==(C i).toList)]) (aa.eq rfl) ?_;rintro _ rfl;exact aa.pos (by show ((C i).toList==(C i).toList)=true; rw[beq_self_eq_true]) (aa.some rfl)
 | d+1,i,hi=>by
  have h:=R.n;refine aV.next (d1:=[.l L,.l [[.s u,.s (C k)]],.i (L.length:Int),.i ((i:Int)+1)]) (aa.toEq ?_) (Ri hk u d (i+1) (by omega))
  unfold vk
  (dsimp +instances only[Aa,Ab,Ac,Ad,Ae,Af,Ag])
  simp only[a7,R.get i (by omega:i<L.length)];refine aa.p (aa.p ?_);refine aa.call (P:=fun g=>g=[.t ((C i).toList==(C k).toList)]) (aa.eq rfl) ?_;rintro _ rfl;refine aa.neg ?_ (aa.p (aa.some rfl));show ((C i).toList==(C k).toList)=false
  rw[zq];exact decide_eq_false fun e=>by have:=R.vw.inj (by omega) hk e; omega
omit ho in
theorem afD{k:Nat}(hk:k<L.length)(u:ByteArray):zl [.l L,.l [[.s u,.s (C k)]]]=some [.t true]:=by
 have d:=R.n;refine aa.toEq ?_;unfold zl
 (dsimp +instances only[Aa,Ab,Ac,Ad,Ae,Af,Ag])
 refine aa.call (P:=fun g=>g=[.i (k:Int)]) ?_ ?_
 ·unfold FC
  (dsimp +instances only[Aa,Ab,Ac,Ad,Ae,Af,Ag])
  refine aa.loop ((Ri R hk u k 0 (by omega)).to (by omega)) rfl ?_;rintro _ _ ⟨rfl,rfl⟩;exact aa.pos rfl (aa.some rfl)
 ·rintro _ rfl
  refine aa.some ?_
  (dsimp +instances only[Aa,Ab,Ac,Ad,Ae,Af,Ag])
  rw[eT,decide_eq_true (by omega:(0:Int)≤(k:Int))]
omit ho in
theorem Rj{b:List (List G)}{s:ByteArray}{w:Int}(hb:zK L C b)(h:b.length≤1000):∀(d i:Nat),i+d=b.length →
  aV vm [.l L,.s s,.l b,.i w,.l b,.i (b.length:Int),.i (i:Int)] (d+1) fun x g=>x=1∧g=[.l b,.i w]
 | 0,i,hi=>by
  refine aV.stop (x:=1) (aa.toEq ?_) ⟨rfl,rfl⟩;unfold vm
  (dsimp +instances only[Aa,Ab,Ac,Ad,Ae,Af,Ag])
  exact aa.n (aa.some rfl)
 | d+1,i,hi=>by
  obtain⟨u,k,q,hk⟩:=hb (b.getD i []) (by rw[ch,bI (by omega)]; exact kN _);refine aV.next (d1:=[.l L,.s s,.l b,.i w,.l b,.i (b.length:Int),.i ((i:Int)+1)]) (aa.toEq ?_) (Rj hb h d (i+1) (by omega))
  unfold vm
  (dsimp +instances only[Aa,Ab,Ac,Ad,Ae,Af,Ag])
  simp only[a7,q]
  (dsimp +instances only[Aa,Ab,Ac,Ad,Ae,Af,Ag])
  refine aa.p (aa.p ?_);refine aa.test (fun _=>?_) fun _=>aa.p (aa.some rfl);refine aa.cE (afD R hk u) ?_;exact aa.neg rfl (aa.p (aa.some rfl))
end
theorem afE(rows:List (List G)):FG [.l rows]=some [.t true]:=by
 refine aa.toEq ?_;unfold FG
 (dsimp +instances only[Aa,Ab,Ac,Ad,Ae,Af,Ag])
 refine aa.call (ae8 rows) ?_;rintro _ ⟨p,X,m,rfl,p0,p1,m0,m1,I,hX⟩
 (dsimp +instances only[Aa,Ab,Ac,Ad,Ae,Af,Ag])
 refine aa.call (zn rows p 0 300 p0 (by omega) (by omega) (by omega) (by omega)) ?_;rintro _ ⟨off,rfl,o0,o1⟩
 (dsimp +instances only[Aa,Ab,Ac,Ad,Ae,Af,Ag])
 refine aa.call (zn rows (p+1) 0 10 (by omega) (by omega) (by omega) (by omega) (by omega)) ?_;rintro _ ⟨v,rfl,M,N⟩
 (dsimp +instances only[Aa,Ab,Ac,Ad,Ae,Af,Ag])
 refine aa.call (ae9 (X:=X) (fun i hi=>by
  obtain⟨L,h1,O,h3⟩:=hX i (by omega);exact⟨_,L,h1,Rc i (by omega),fun z U=>(O z U).1,by omega⟩) (by omega)) ?_
 rintro _ ⟨e,rfl,he⟩
 (dsimp +instances only[Aa,Ab,Ac,Ad,Ae,Af,Ag])
 have q:∀{Q:List G→Prop},Q [.t true]→aa (aw (rA []) fun g4=>some [.t (gi g4 0).bool]) Q:=fun h=>⟨_,rfl,h⟩
 refine aa.test (fun _=>q rfl) fun J=>?_;have R:=afy I m1 hX (he (by simpa using J));have d:0<X.length:=by omega
 refine aa.test (fun _=>q rfl) fun _=>?_;refine aa.pos (by rw[dV]; exact decide_eq_true (by omega)) ?_;simp only[R.get 0 d]
 (dsimp +instances only[Aa,Ab,Ac,Ad,Ae,Af,Ag])
 obtain⟨g,u,k,rfl,B,V⟩:=afo R.vw d off o0 o1 (afu R);have W:=R.na 0 d;have hle:=vz k k.length;refine aa.call (afB R d off B V u) ?_;rintro _ ⟨b,rfl,y,hb⟩
 (dsimp +instances only[Aa,Ab,Ac,Ad,Ae,Af,Ag])
 refine aa.cE (afC R d off B u M N) ?_
 (dsimp +instances only[Aa,Ab,Ac,Ad,Ae,Af,Ag])
 refine aa.call (P:=fun g=>g=[.l k,.i 0]) ?_ ?_
 ·unfold Fw
  (dsimp +instances only[Aa,Ab,Ac,Ad,Ae,Af,Ag])
  refine aa.cE u ?_;exact aa.some rfl
 rintro _ rfl
 (dsimp +instances only[Aa,Ab,Ac,Ad,Ae,Af,Ag])
 refine aa.call (P:=fun g=>g=[.i 0]) ⟨_,by kernel_rfl,rfl⟩ ?_;rintro _ rfl;have hmul:0≤(b.length:Int)*(1+v)∧(b.length:Int)*(1+v)≤14*11 :=
  ⟨G8 (by omega) (by omega),GH (by omega) (by omega) (by omega) (by omega)⟩
 refine aa.neg rfl (aa.p (aa.pos (by simp only[aq,sl]; omega) (aa.neg (by rw[y]; simp) ?_)));refine aa.loop ((Rh (b:=b) (s:=gG 0) (by omega) k.length 0 (by omega)).to (by omega)) rfl ?_;rintro _ _ ⟨rfl,rfl⟩
 (dsimp +instances only[Aa,Ab,Ac,Ad,Ae,Af,Ag])
 refine aa.loop ((Rj R hb (by omega) b.length 0 (by omega)).to (by omega)) rfl ?_;rintro _ _ ⟨rfl,rfl⟩
 (dsimp +instances only[Aa,Ab,Ac,Ad,Ae,Af,Ag])
 refine aa.neg rfl (aa.pos ?_ (q rfl));rw[y];simp
end
end Go.Proofs.iz
