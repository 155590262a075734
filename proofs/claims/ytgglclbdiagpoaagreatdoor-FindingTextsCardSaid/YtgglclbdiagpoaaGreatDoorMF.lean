/-
 What is proved here: what the methods of the stream give on data. No condition.
-/
import Derived.Test.YtgglclbdiagpoaaGreatDoorML4
import Derived.Test.YtgglclbdiagpoaaGreatDoorME
set_option linter.all false
open Bool renaming and_true→fG,and_eq_true→ar,true_and→dq,not_true→BT,false_or→fp,eq_iff_iff→gj,eq_false_iff→mw,false_and→lF,and_false→SR,true_or→ail,or_true→aim
open ByteArray renaming size_extract→qW,size_append→BY
open Decidable renaming byContradiction→xE
open Go.ByteArray renaming toList_eq→xP
open Go.Lib renaming size_eq→fU,join→eR,index→lG,index_one→qS,containsAny→SP,indexByte→fI,join_one→qT,decDigits→jb,trimS→mA,trimRightS→SS,compareBytes→gW,itoa→eu,toList_data→dW,extract_data→qV,extract_to_end→aii,indexAny→aij
open Go.Utf8 renaming encode→nG
open Int renaming toNat_natCast→bp,tmod→jA,tdiv→ug,tmod_lt_of_pos→aic,tmod_eq_emod_of_nonneg→aid,mul_nonneg→aie,eq_ofNat_of_zero_le→xQ,le_refl→SZ,le_trans→S0
open List renaming range→er,length_cons→cw,append_nil→dx,length_map→dv,mem_map→di,getElem?_map→bR,getElem?_eq_getElem→bd,mem_of_getElem?→fa,getElem?_eq_none→nz,getElem?_set_self→bk,getElem?_set→dS,all_eq_true→bO,getD_eq_getElem?_getD→b_,mem_cons→bS,map_cons→cY,mem_of_mem_drop→qM,mem_of_mem_take→nC,cons_append→kO,ext_getElem?→kP,length_take→jy,length_set→kQ,length_append→dV,mem_append→cG,map_map→j5,nil_append→mq,replicate→bU,length_range→qP,all_cons→iG,mem_cons_self→cH,mem_cons_of_mem→cI,length_replicate→BP,set_set→nJ,map_append→iI,mem_append_left→nM,any_eq_true→jz,mem_range→gF,mem_singleton→ib,length_nil→pA,map_nil→kV,drop_eq_getElem_cons→SF,not_mem_nil→BU,getElem?_range→uc,getElem_mem→iJ,mem_append_right→ud,filter_cons→BW,range_succ→SH,take_add_one→nN,eq_nil_or_concat→xM,concat_eq_append→xN,all_append→nO,filter_append→aih,take_length→iK,all_nil→aik,length_singleton→SY,eq_replicate_iff→aio,sum_cons→S2,filter_nil→S3,nodup_append→aip
open List.Sublist renaming filter→aiS
open Nat renaming le_refl→aH,le_trans→jZ,zero_le→dB,zero_add→cR,beq→af,ble→bI,blt→cJ,ble_eq→cK,blt_eq→dM,beq_refl→pC,beq_eq→SX,exists_eq_add_of_le→ain,le_succ_of_le→S4
open Option renaming isSome_iff_exists→tT,map_some→dL
open Option.some renaming inj→gh
open UInt8 renaming ofNat_toNat→I9,le_antisymm→SU,not_lt→xO,lt_irrefl→SV,lt_trans→aif
namespace Go.Proofs.iU
open Go Go.AL Go.Proofs
noncomputable section
theorem Hy(x n:Int)(h0:1≤n)(h1:n≤1099511627776):aa (sP [.i x,.i n]) fun g=>∃ v,g=[.i v]∧0≤v∧v<n:=by
 unfold sP
 (dsimp +instances only[Aa,Ab,Ac,Ad,Ae,Af,Ag])
 have ha:=aic x (by omega:0<n);have hb:=Int.lt_tmod_of_pos x (by omega:0<n)
 (repeat first|refine aa.p ?_|refine aa.n ?_)
 refine aa.test (fun h=>?_) fun h=>?_
 ·simp only [aZ, decide_eq_true_eq] at h
  (repeat first|refine aa.p ?_|refine aa.n ?_)
  exact aa.some ⟨_,rfl,by omega,by omega⟩
 ·simp only [aZ, decide_eq_false_iff_not] at h
  exact aa.some ⟨_,rfl,by omega,by omega⟩
theorem oV(l:List (List G))(a n:Int)(ha:0≤a)(I:a≤1000000)(h0:1≤n)(h1:n≤1099511627776) :
  aa (lr [.l l,.i a,.i n]) fun g=>∃ v,g=[.l l,.i (a+1),.i v]∧0≤v∧v<n:=by
 unfold lr
 (dsimp +instances only[Aa,Ab,Ac,Ad,Ae,Af,Ag])
 have t:a+1-1=a:=by omega
 simp only[t];by_cases J:l.length=0
 ·(repeat first|refine aa.p ?_|refine aa.n ?_)
  refine aa.call (Hy _ n h0 h1) ?_;rintro _ ⟨v,rfl,d,h⟩
  (dsimp +instances only[Aa,Ab,Ac,Ad,Ae,Af,Ag])
  exact aa.some ⟨v,rfl,d,h⟩
 ·have y : (0 : Int) < (l.length : Int) := by omega
  have d0:0≤ug a l.length:=Int.tdiv_nonneg ha (by omega);have d1:ug a l.length≤a:=by
   rw[Int.tdiv_eq_ediv_of_nonneg ha];exact Int.ediv_le_self _ ha
  have m0:0≤jA a l.length:=by
   rw[aid ha];exact Int.emod_nonneg _ (by omega)
  have m1:jA a l.length<l.length:=aic a y;have m2:jA a l.length≤a:=by
   rw[aid ha];have:=Int.mul_ediv_add_emod a l.length;have k:0≤(l.length:Int)*(a / l.length):=aie (by omega) (Int.ediv_nonneg ha (by omega));omega
  generalize M:ug a l.length=q at *;generalize N:jA a l.length=r at *;have p0:0≤q*(7919+r):=aie d0 (by omega);have p1:q*(7919+r)≤1000000*2000000:=Int.mul_le_mul (by omega) (by omega) (by omega) (by omega);generalize O:q*(7919+r)=z at *
  (repeat first|refine aa.p ?_|refine aa.n ?_)
  refine aa.call (Hy _ 1073741824 (by omega) (by omega)) ?_;rintro _ ⟨u,rfl,d,h⟩
  (dsimp +instances only[Aa,Ab,Ac,Ad,Ae,Af,Ag])
  (repeat first|refine aa.p ?_|refine aa.n ?_)
  refine aa.call (Hy _ n h0 h1) ?_;rintro _ ⟨v,rfl,k,B⟩
  (dsimp +instances only[Aa,Ab,Ac,Ad,Ae,Af,Ag])
  exact aa.some ⟨v,rfl,k,B⟩
theorem nn(l:List (List G))(a lo hi:Int)(ha:0≤a)(d:a≤1000000)(h0:lo≤hi)(h1 : -1000000000≤lo)(h:hi≤1000000000) :
  aa (kG [.l l,.i a,.i lo,.i hi]) fun g=>∃ v,g=[.l l,.i (a+1),.i v]∧lo≤v∧v≤hi:=by
 unfold kG
 (dsimp +instances only[Aa,Ab,Ac,Ad,Ae,Af,Ag])
 (repeat first|refine aa.p ?_|refine aa.n ?_)
 refine aa.call (oV l a _ ha d (by omega) (by omega)) ?_;rintro _ ⟨v,rfl,k,q⟩
 (dsimp +instances only[Aa,Ab,Ac,Ad,Ae,Af,Ag])
 (repeat first|refine aa.p ?_|refine aa.n ?_)
 exact aa.some ⟨_,rfl,by omega,by omega⟩
theorem Qc{l:List (List G)}{v:Int}(h0:0≤v)(h1:v<l.length):l.getD v.toNat []∈l:=by
 have:v.toNat<l.length:=by omega
 rw[b_,bd this];exact iJ this
theorem Hz(P:Int→Prop)(l:List (List G))(a:Int)(xs:List (List G))(ha:0≤a)(d:a≤1000000)(h0:1≤xs.length)(h1:xs.length≤1000000)(h:∀ x∈xs,P (gi x 0).int) :
  aa (qm [.l l,.i a,.l xs]) fun g=>∃ v,g=[.l l,.i (a+1),.i v]∧P v:=by
 unfold qm
 (dsimp +instances only[Aa,Ab,Ac,Ad,Ae,Af,Ag])
 refine aa.call (oV l a _ ha d (by omega) (by omega)) ?_;rintro _ ⟨v,rfl,k,q⟩
 (dsimp +instances only[Aa,Ab,Ac,Ad,Ae,Af,Ag])
 (repeat first|refine aa.p ?_|refine aa.n ?_)
 exact aa.some ⟨_,rfl,h _ (Qc k q)⟩
theorem Qd(P:ByteArray→Prop)(l:List (List G))(a:Int)(xs:List (List G))(ha:0≤a)(d:a≤1000000)(h0:1≤xs.length)(h1:xs.length≤1000000)(h:∀ x∈xs,P (gi x 0).str) :
  aa (ql [.l l,.i a,.l xs]) fun g=>∃ v,g=[.l l,.i (a+1),.s v]∧P v:=by
 unfold ql
 (dsimp +instances only[Aa,Ab,Ac,Ad,Ae,Af,Ag])
 refine aa.call (oV l a _ ha d (by omega) (by omega)) ?_;rintro _ ⟨v,rfl,k,q⟩
 (dsimp +instances only[Aa,Ab,Ac,Ad,Ae,Af,Ag])
 (repeat first|refine aa.p ?_|refine aa.n ?_)
 exact aa.some ⟨_,rfl,h _ (Qc k q)⟩
theorem Qe(l:List (List G))(a n:Int)(ha:0≤a)(d:a≤1000000)(h0:1≤n)(h1:n≤1000000) :
  aa (v_ [.l l,.i a,.i n]) fun g=>∃ b,g=[.l l,.i (a+1),.t b]:=by
 unfold v_
 (dsimp +instances only[Aa,Ab,Ac,Ad,Ae,Af,Ag])
 refine aa.call (oV l a _ ha d (by omega) (by omega)) ?_;rintro _ ⟨v,rfl,h,k⟩;exact aa.some ⟨_,rfl⟩
theorem Qf(l:List (List G))(a lo hi:Int)(ha:0≤a)(u:a≤900000)(h0:lo≤hi)(h1 : -1000000000≤lo)(t:hi≤1000000000) :
  aa (wa [.l l,.i a,.i lo,.i hi]) fun g=>∃ v,g=[.l l,.i (a+2),.i v] ∧ -1099511627776≤v∧(v≤1000000001∨v=1099511627776):=by
 unfold wa
 (dsimp +instances only[Aa,Ab,Ac,Ad,Ae,Af,Ag])
 have d:a+1+1=a+2:=by omega
 refine aa.call (Qe l a 12 ha (by omega) (by omega) (by omega)) ?_;rintro _ ⟨b,rfl⟩
 (dsimp +instances only[Aa,Ab,Ac,Ad,Ae,Af,Ag])
 cases b with
 | true =>
  (repeat first|refine aa.p ?_|refine aa.n ?_)
  refine aa.call (Hz (fun v => -1099511627776≤v∧(v≤1000000001∨v=1099511627776)) l (a+1) _ (by omega) (by omega) (by simp) (by simp) ?_) ?_
  ·intro x h
   simp only[bS,BU,or_false]at h;rcases h with rfl|rfl|rfl|rfl|rfl|rfl<;>(dsimp +instances only[Aa,Ab,Ac,Ad,Ae,Af,Ag])<;>omega
  ·rintro _ ⟨v, rfl, k, q⟩
   (dsimp +instances only[Aa,Ab,Ac,Ad,Ae,Af,Ag])
   exact aa.some ⟨v,by rw[d],k,q⟩
 | false =>
  (repeat first|refine aa.p ?_|refine aa.n ?_)
  refine aa.call (nn l (a+1) lo hi (by omega) (by omega) h0 h1 t) ?_;rintro _ ⟨v,rfl,k,q⟩
  (dsimp +instances only[Aa,Ab,Ac,Ad,Ae,Af,Ag])
  exact aa.some ⟨v,by rw[d],by omega,by omega⟩
def Bb(L:List ByteArray)(s:ByteArray):Bool:=L.any fun x=>vT x s
theorem aeE{L:List ByteArray}{s:ByteArray}(h:Bb L s=true):s∈L:=by
 obtain⟨x,d,he⟩:=jz.1 h;exact No he▸d
theorem aeF(lo hi:Int)(l:List (List G))(a:Int)(xs:List (List G))(ha:0≤a)(d:a≤1000000)(h0:(bI 1 xs.length&&bI xs.length 1000000)=true) (h:(xs.all fun x=>aG lo (gi x 0).int&&aG (gi x 0).int hi)=true) :
  aa (qm [.l l,.i a,.l xs]) fun g=>∃ v,g=[.l l,.i (a+1),.i v]∧lo≤v∧v≤hi:=by
 simp only[ar,cK]at h0;refine Hz (fun v=>lo≤v∧v≤hi) l a xs ha d h0.1 h0.2 fun x k=>?_;have:=bO.1 h x k;simpa only[bx,ar,decide_eq_true_eq]using this
theorem Qg(L:List ByteArray)(l:List (List G))(a:Int)(xs:List (List G))(ha:0≤a)(d:a≤1000000)(h0:(bI 1 xs.length&&bI xs.length 1000000)=true) (h:(xs.all fun x=>Bb L (gi x 0).str)=true) :
  aa (ql [.l l,.i a,.l xs]) fun g=>∃ v,g=[.l l,.i (a+1),.s v]∧v∈L:=by
 simp only[ar,cK]at h0;exact Qd (fun v=>v∈L) l a xs ha d h0.1 h0.2 fun x k=>aeE (bO.1 h x k)
def calls:List ByteArray:=[⟨#[]⟩,⟨#[107,49]⟩,⟨#[75,49,65,66]⟩,⟨#[107,49,97,98,47]⟩,⟨#[49,97]⟩,⟨#[107,49,97,98,47,109,109,47,112]⟩,⟨#[107,49,97,98]⟩,⟨#[107,49,97,97]⟩,⟨#[107,49,97,98,47,52]⟩,
 ⟨#[111,104,50,97,98,99]⟩,⟨#[111,104,50,97,98,100]⟩,⟨#[119,49,97,119]⟩,⟨#[110,49,109,109]⟩,⟨#[103,51,120,121,122,47,112]⟩]
def Qh:List ByteArray:=[⟨#[]⟩,⟨#[66]⟩,⟨#[98,50,48]⟩,⟨#[98,52,48]⟩]
def names:List ByteArray:=[⟨#[]⟩,⟨#[65]⟩,⟨#[49]⟩,⟨#[102,105,110]⟩,⟨#[117,115,97]⟩]
def small(n:Int):Prop := -2000000000000≤n∧n≤2000000000000
def tA(r:List G):Prop:=∃(t m:Int) (b c:ByteArray) (s h:Int) (x y:ByteArray),r=[.i t,.i m,.s b,.s c,.i s,.i h,.s x,.s y]∧small t∧small m∧small s∧small h∧b∈Qh∧c∈calls∧x∈names∧y∈names
def tight(n:Int):Prop := -1900000000000≤n∧n≤1900000000000
def Bc(n:Int):Prop := -1900000000000≤n∧(n≤345000000000∨(345686399999<n∧n≤1900000000000))
def Qi(r:List G):Prop:=∃(t m:Int) (b c:ByteArray) (s h:Int) (x y:ByteArray),r=[.i t,.i m,.s b,.s c,.i s,.i h,.s x,.s y]∧Bc t∧tight m∧tight s∧tight h∧b∈Qh∧c∈calls∧x∈names∧y∈names
theorem tight.to{n:Int}(h:tight n):small n:=⟨by have:=h.1; omega,by have:=h.2; omega⟩
theorem Bc.to{n:Int}(h:Bc n):small n:=by
 unfold Bc at h;exact⟨by omega,by omega⟩
theorem Qi.to{r:List G}(h:Qi r):tA r:=by
 obtain⟨t,m,b,c,s,h,x,y,e,h1,d,g,k,q⟩:=h;exact⟨t,m,b,c,s,h,x,y,e,h1.to,d.to,g.to,k.to,q⟩
theorem tA.eta{r:List G}(h:tA r):be [.int .i64,.int .i64,.str,.str,.int .i64,.int .i64,.str,.str] r=r:=by
 obtain⟨t,m,b,c,s,h,x,y,rfl,_⟩:=h;rfl
def kH(a b:Int):Int:=if a<b then -1 else if b<a then 1 else 0
theorem Qj:∀{a b:List UInt8},gW a b=0→a=b
 | [],[],_=>rfl
 | [],_::_,h=>by simp[gW]at h
 |_::_,[],h=>by simp[gW]at h
 | x::a,y::b,h=>by
  unfold gW at h;split at h
  ·cases h
  ·split at h
   ·cases h
   ·rename_i h1 d
    rw[Qj h,SU (xO.1 d) (xO.1 h1)]
theorem Qk:∀ a:List UInt8,gW a a=0
 | []=>rfl
 |x::a=>by simp[gW,Qk a]
theorem Ql(a b:ByteArray):(a.toList==b.toList)=decide (fl a b=0):=by
 rw[xP,xP,gj,decide_eq_true_eq,beq_iff_eq];constructor
 ·intro h
  unfold fl;rw[h];exact Qk _
 ·exact fun h=>Qj h
def Bd(a b c d:Int):Int:=if a≠0 then a else if b≠0 then b else if c≠0 then c else d
def xa(r s:List G):Int:=Bd (kH (gi r 0).int (gi s 0).int) (fl (gi r 3).str (gi s 3).str) (fl (gi r 2).str (gi s 2).str) (kH (gi r 1).int (gi s 1).int)
theorem Qm(a b:Int):wH [.i a,.i b]=some [.i (kH a b)]:=by
 refine aa.toEq ?_;unfold wH AN kH
 (dsimp +instances only[Aa,Ab,Ac,Ad,Ae,Af,Ag])
 simp only[bne_self_eq_false];refine aa.call ⟨_,rfl,rfl⟩ ?_;rintro _ rfl;refine aa.call ⟨_,rfl,rfl⟩ ?_;rintro _ rfl
 (dsimp +instances only[Aa,Ab,Ac,Ad,Ae,Af,Ag])
 (repeat first|refine aa.p ?_|refine aa.n ?_)
 by_cases h1:a<b
 ·(repeat first|refine aa.p ?_|refine aa.n ?_)
  exact aa.some (by simp[h1])
 ·by_cases d : b < a
  ·(repeat first|refine aa.p ?_|refine aa.n ?_)
   exact aa.some (by simp[h1,d])
  ·(repeat first|refine aa.p ?_|refine aa.n ?_)
   exact aa.some (by simp[h1,d])
def oW:List (List G)→Int
 | []=>0
 |x::q=>if (gi x 0).int≠0 then (gi x 0).int else oW q
theorem Qn:∀(q p:List (List G)),p.length+q.length<100000 →
  a6 sZ [.i 0,.l (p++q),.i ((p.length+q.length:Nat):Int),.i (p.length:Int)] (q.length+1) fun c g=>c≤1∧g=[.i (oW q)]
 | [],p,d=>by
  refine a6.stop (x:=1) (aa.toEq ?_) ⟨by omega,rfl⟩;unfold sZ
  (dsimp +instances only[Aa,Ab,Ac,Ad,Ae,Af,Ag])
  (repeat first|refine aa.p ?_|refine aa.n ?_)
  exact aa.some rfl
 | y::q,p,d=>by
  simp only[cw]at d;have g1:(p++y::q).getD (p.length:Int).toNat []=y:=sJ _ _ _ _ _ (by simp);have hlen:(p++y::q).length=p.length+q.length+1:=by simp; omega
  by_cases he:(gi y 0).int=0
  ·have h := Qn q (p ++ [y]) (by simp; omega)
   have e:oW (y::q)=oW q:=by simp[oW,he]
   rw[e];refine a6.next (aa.toEq ?_) h
   unfold sZ
   (dsimp +instances only[Aa,Ab,Ac,Ad,Ae,Af,Ag])
   simp only[g1,hlen,cw]
   (repeat first|refine aa.p ?_|refine aa.n ?_)
   refine aa.some ?_;simp;omega
  ·refine a6.stop (x := 0) (aa.toEq ?_) ⟨by omega, rfl⟩
   unfold sZ
   (dsimp +instances only[Aa,Ab,Ac,Ad,Ae,Af,Ag])
   simp only[g1,hlen,cw]
   (repeat first|refine aa.p ?_|refine aa.n ?_)
   refine aa.some ?_;simp[oW,he]
theorem or_eq(a b c d:Int):AO [.l [[.i a],[.i b],[.i c],[.i d]]]=some [.i (Bd a b c d)]:=by
 refine aa.toEq ?_;unfold AO
 (dsimp +instances only[Aa,Ab,Ac,Ad,Ae,Af,Ag])
 have h:=Qn [[.i a],[.i b],[.i c],[.i d]] [] (by simp);refine aa.loop (h.to (by simp)) (by(first|rfl|assumption|(simp only[ay,sl]<;>omega))) ?_;rintro x g ⟨u,rfl⟩;have e:oW [[.i a],[.i b],[.i c],[.i d]]=Bd a b c d:=by
  simp only[oW,Bd]
  (dsimp +instances only[Aa,Ab,Ac,Ad,Ae,Af,Ag])
  by_cases h1:a=0<;>by_cases k:b=0<;>by_cases q:c=0<;>by_cases t:d=0<;>simp[h1,k,q,t]
 rw[e]
 (dsimp +instances only[Aa,Ab,Ac,Ad,Ae,Af,Ag])
 exact aa.test (fun _=>aa.some rfl) fun _=>aa.some rfl
def cB(v lo hi:Int):Bool:=aG lo v&&aG v hi
theorem HA(v lo hi:Int):oN [.i v,.i lo,.i hi]=some [.t (cB v lo hi)]:=by
 unfold oN cB
 (dsimp +instances only[Aa,Ab,Ac,Ad,Ae,Af,Ag])
 cases aG lo v<;>rfl
theorem qz(v lo hi:Int):jV [.i v,.i lo,.i hi]=some [.t (!cB v lo hi)]:=by
 unfold jV cB
 (dsimp +instances only[Aa,Ab,Ac,Ad,Ae,Af,Ag])
 have h1:ak v lo = !aG lo v:=by rw[aZ,bx,gj]; simp
 have d:ak hi v = !aG v hi:=by rw[aZ,bx,gj]; simp
 rw[h1,d];cases aG lo v<;>cases aG v hi<;>rfl
def Qo(s:ByteArray):Bool:=Bb [⟨#[98,50,48]⟩,⟨#[98,52,48]⟩,⟨#[102,105,110]⟩,⟨#[117,115,97]⟩] s
def Qp(s:ByteArray):Bool:=Bb [⟨#[]⟩] s||Qo s
def aeG(s:ByteArray):Bool:=(gi ((qp [.s s]).getD []) 0).bool
def aeH(r:List G):Int :=
 bif !cB (gi r 0).int 0 345686399999 then 1 else bif !cB (gi r 1).int 1 3 then 4 else bif !Qo (gi r 2).str then 5 else bif !aeG (gi r 3).str then 3 else
 bif !cB (gi r 4).int 0 99999 then 1 else bif !cB (gi r 5).int 0 99999 then 1 else bif !Qp (gi r 6).str then 5 else bif !Qp (gi r 7).str then 5 else 0
def qA(K:List Kd)(C D:List G→Option (List G))(d:List G):Option (Option Nat × List G) :=
 (bif (ak (gi d 3).int (gi d 2).int) then (bif ((aI (gi d 3).int)&&(ak (gi d 3).int (((gi d 1).rows.length:Nat):Int))) then (aj (C [.l [(be K ((gi d 1).rows.getD (((gi d 3).int).toNat) []))]]) fun g1=>(bif ((gi g1 0).int != 0) then some (some 0,[.i (gi g1 0).int]) else (bif (ak 0 (gi d 3).int) then (bif (ay ((gi d 3).int-1)) then (bif ((aI ((gi d 3).int-1))&&(ak ((gi d 3).int-1) (((gi d 0).rows.length:Nat):Int))) then (aj (D [.l [(be K ((gi d 0).rows.getD (((gi d 3).int-1).toNat) []))],.l [(be K ((gi d 1).rows.getD (((gi d 3).int).toNat) []))]]) fun g2=>(bif (aG 0 (gi g2 0).int) then some (some 0,[.i 7]) else (bif (ay ((gi d 3).int+1)) then some (none,[.l (gi d 0).rows,.l (gi d 1).rows,.i (gi d 2).int,.i ((gi d 3).int+1)]) else none))) else none) else none) else (bif (ay ((gi d 3).int+1)) then some (none,[.l (gi d 0).rows,.l (gi d 1).rows,.i (gi d 2).int,.i ((gi d 3).int+1)]) else none)))) else none) else some (some 1,[]))
def Qq(K:List Kd)(C D:List G→Option (List G))(d:List G):Option (List G) :=
 (bif (ak 2000 (((gi d 0).rows.length:Nat):Int)) then some [.i 2] else (bh true (cu (qA K C D) [.l (gi d 0).rows,.l (gi d 0).rows,.i (((gi d 0).rows.length:Nat):Int),.i 0]) fun g g3=>(bif af g 0 then some [.i (gi g3 0).int] else some [.i 0])))
section
variable {C D:List G→Option (List G)} (hC:∀ r,tA r→C [.l [r]]=some [.i (aeH r)]) (hD:∀ r s,tA r→tA s→D [.l [r],.l [s]]=some [.i (xa r s)])
include hC hD
end
theorem Qr:∀ a b:List UInt8,gW b a = - gW a b
 | [],[]=>rfl
 | [],_::_=>rfl
 |_::_,[]=>rfl
 | a::xs,b::g=>by
  simp only[gW];have k:=Qr xs g;by_cases h1:a<b
  ·have d : ¬ b < a := fun h => SV a (aif h1 h)
   simp[h1,d]
  ·by_cases d : b < a
   ·simp[h1,d]
   ·simp[h1,d,k]
theorem Qs:∀{a b c:List UInt8},gW a b<0→gW b c<0→gW a c<0
 | [],[],_,h,_=>by simp[gW]at h
 | [],_::_,[],_,h=>by simp[gW]at h
 | [],_::_,_::_,_,_=>by simp[gW]
 |_::_,[],_,h,_=>by simp[gW]at h
 |_::_,_::_,[],_,h=>by simp[gW]at h
 | a::xs,b::y,c::zs,h1,d=>by
  simp only[gW]at h1 d⊢;by_cases g:a<b
  ·by_cases k : b < c
   ·rw [if_pos (aif g k)]
    omega
   ·by_cases t : c < b
    ·rw [if_neg k, if_pos t] at d
     omega
    ·have e : b = c := SU (xO.1 t) (xO.1 k)
     subst e;rw[if_pos g];omega
  ·by_cases u : b < a
   ·rw [if_neg g, if_pos u] at h1
    omega
   ·have e : a = b := SU (xO.1 u) (xO.1 g)
    subst e;rw[if_neg (SV a),if_neg (SV a)]at h1;by_cases q:a<c
    ·rw [if_pos q]
     omega
    ·by_cases v : c < a
     ·rw [if_neg q, if_pos v] at d
      omega
     ·rw [if_neg q, if_neg v] at d ⊢
      exact Qs h1 d
theorem aeI{a b:ByteArray}(h:(a.toList==b.toList)=true):a=b:=by
 rw[xP,xP,beq_iff_eq]at h;exact ByteArray.ext (Array.toList_inj.1 h)
theorem qB{a b:ByteArray}:fl a b=0↔a=b:=by
 have h:=Ql a b;constructor
 ·intro e
  rw[decide_eq_true (p:=fl a b=0) e]at h;exact aeI h
 ·rintro rfl
  have d:(a.toList==a.toList)=true:=by simp
  rw[d]at h;exact of_decide_eq_true h.symm
theorem aeJ{a b:Int}:kH a b=0↔a=b:=by
 unfold kH;constructor
 ·intro h
  split at h
  ·omega
  ·split at h<;>omega
 ·rintro rfl
  simp
theorem tC{a b:Int}:kH a b<0↔a<b:=by
 unfold kH;constructor
 ·intro h
  split at h
  ·assumption
  ·split at h<;>omega
 ·intro h
  rw[if_pos h];omega
theorem HB(a b:ByteArray):(a.toList==b.toList)=decide (a=b):=by
 rw[Ql,gj,decide_eq_true_eq,decide_eq_true_eq];exact qB
structure tD {α:Type} (c:α→α→Int):Prop where
 flip:∀ a b,c b a = - c a b
 eq:∀ a b,c a b=0→a=b
 tr:∀ a b d,c a b<0→c b d<0→c a d<0
theorem Qt:tD kH:=⟨fun a b=>by unfold kH; split<;>split<;>first|omega|(split<;>omega)|skip,fun a b h=>aeJ.1 h,fun a b d h1 g=>tC.2 (Int.lt_trans (tC.1 h1) (tC.1 g))⟩
theorem Qu:tD fl:=⟨fun a b=>Qr _ _,fun a b h=>qB.1 h,fun a b d h1 g=>Qs h1 g⟩
theorem tD.le{α:Type}{c:α→α→Int}(h:tD c)(a b d:α)(h1:c a b≤0)(g:c b d≤0):c a d≤0:=by
 by_cases k:c a b=0
 ·rw [h.eq a b k]
  exact g
 ·by_cases q : c b d = 0
  ·rw [← h.eq b d q]
   exact h1
  ·have := h.tr a b d (by omega) (by omega)
   omega
theorem tD.refl{α:Type}{c:α→α→Int}(h:tD c)(a:α):c a a=0:=by
 have:=h.flip a a;omega
theorem aeK{c:List G→List G→Int}(g:∀ a b,c b a = - c a b)(k:∀ a b d,c a b≤0→c b d≤0→c a d≤0):fj (eI c) (fun _=>True):=by
 have lt:∀ r s,eI c r s=decide (c r s<0):=fun r s=>by unfold eI; rw[aZ]
 refine⟨fun a b d _ _ _ h1 q=>?_,fun a b _ _ h=>?_⟩
 ·rw [lt, decide_eq_false_iff_not] at *
  have:=k d b a (by have:=g d b; omega) (by have:=g b a; omega);have:=g a d;omega
 ·rw [lt, decide_eq_true_eq] at h
  rw[lt,decide_eq_false_iff_not];have:=g a b;omega
/-! ### d g h checked row by row -/
def fw(step:Nat→Int):Nat→Int
 |0=>0
 |i+1=>if fw step i≠0 then fw step i else step i
theorem HC{step:Nat→Int}{i:Nat}(h:fw step i≠0):∀ k,fw step (i+k)=fw step i
 |0=>rfl
 | k+1=>by
  have d:=HC h k;show (if fw step (i+k)≠0 then fw step (i+k) else step (i+k))=fw step i
  rw[d,if_pos h]
theorem Qv{step:Nat→Int}:∀{n:Nat},fw step n=0→∀ i,i<n→step i=0
 |0,_,i,hi=>by omega
 | n+1,h,i,hi=>by
  have h0:fw step n=0:=by
   refine xE fun d=>d ?_;have:=HC d 1;rw[←this];exact h
  have h':(if fw step n≠0 then fw step n else step n)=0:=h;rw[if_neg (by simpa using h0)]at h';rcases Nat.lt_or_ge i n with g|k
  ·exact Qv h0 i g
  ·have : i = n := by omega
   rw[this];exact h'
theorem Qw{st:List G→Option (Option Nat × List G)}(mk:Nat→List G)(n:Nat)(step:Nat→Int)(d:List G)(v:n<999999)
  (t:∀ i,i<n→aa (st (mk i)) fun o=>(step i=0∧o=(none,mk (i+1)))∨(step i≠0∧o=(some 0,[.i (step i)])))
  (u:aa (st (mk n)) fun o=>o=(some 1,d)) :
  iS st (mk 0) fun c g=>(c=1∧fw step n=0∧g=d)∨(c=0∧g=[.i (fw step n)]∧fw step n≠0):=by
 refine((jU (σ:=Unit) (fun _ i=>mk i) n (fun _=>(1,d)) (fun _ i=>fw step i=0) (fun c g=>c=0∧g=[.i (fw step n)]∧fw step n≠0) ?_ (fun _ _=>u) n () 0 (by omega) rfl).to (by omega)).mono ?_
 ·rintro _ i k hi
  refine(t i hi).mono ?_;rintro _ (⟨h0,rfl⟩|⟨h1,rfl⟩)
  ·refine .inl ⟨(), rfl, ?_⟩
   show (if fw step i≠0 then fw step i else step i)=0
   rw[if_neg (by simpa using k)];exact h0
  ·have e:fw step (i+1)=step i:=by
    show (if fw step i≠0 then fw step i else step i)=step i
    rw[if_neg (by simpa using k)]
   have q:fw step n=step i:=by
    have:=HC (step:=step) (i:=i+1) (by rw[e]; exact h1) (n-(i+1));rw[show i+1+(n-(i+1))=n by omega,e]at this;exact this
   exact .inr ⟨0,_,rfl,rfl,by rw[q],by rw[q]; exact h1⟩
 ·rintro c g (⟨_, h, rfl, rfl⟩ | h)
  ·exact .inl ⟨rfl,h,rfl⟩
  ·exact .inr h
def aeL:List ByteArray:=[⟨#[97,108,108]⟩,⟨#[99,111,100,101]⟩,⟨#[65]⟩]
def aeM:List ByteArray:=[⟨#[]⟩,⟨#[107,112,50,48,108,102]⟩,⟨#[107,112,50,48]⟩]
def Qx(r:List G):Prop:=∃(c k:ByteArray) (p:Int) (q:ByteArray),r=[.s c,.s k,.i p,.s q]∧c∈calls∧k∈aeL ∧ -1099511627776≤p∧p≤1099511627776∧q∈aeM
theorem Qx.eta{r:List G}(h:Qx r):be [.str,.str,.int .i64,.str] r=r:=by
 obtain⟨c,k,p,q,rfl,_⟩:=h;rfl
def two:List (List G):=[[.s (⟨#[97,108,108]⟩:ByteArray)],[.s (⟨#[99,111,100,101]⟩:ByteArray)]]
/-! ### h is g with d -/
def aU(l:List UInt8):ByteArray:=⟨l.toArray⟩
theorem eL(l:List UInt8):(aU l).data.toList=l:=by simp[aU]
theorem oX(l:List UInt8):(aU l).toList=l:=by rw[dW,eL]
theorem eM(l:List UInt8):(aU l).size=l.length:=by rw[fU,eL]
theorem l9(b:ByteArray):aU b.data.toList=b:=M8 b
theorem xb{a b:ByteArray}(h:a.data.toList=b.data.toList):a=b:=by rw[←l9 a,h,l9]
theorem Be(a b:List UInt8):aU a++aU b=aU (a++b):=xb (by simp[aU])
theorem HD(n:Int):kE n=aU (eu n):=rfl
/-! ### d -/
theorem Qy(ws:List ByteArray):(nk (ws.map fun w=>[G.s w])).map (·.data.toList)=ws.map (·.data.toList):=by
 unfold nk;rw[j5,j5];rfl
theorem aeN(ws:List ByteArray)(k:ws.length≤1000) (d:(iT (ws.map (·.data.toList))).length≤1000000):A6 [.l (ws.map fun w=>[.s w])]=some [.s (aU (iT (ws.map (·.data.toList))))]:=by
 have e:lY (ws.map fun w=>[G.s w]) (⟨#[32]⟩:ByteArray)=aU (eR (ws.map (·.data.toList)) [32]):=by
  unfold lY;rw[Qy];rfl
 have h:(eR (ws.map (·.data.toList)) [32]).length+1≤1000000:=by
  simpa[iT]using d
 have g:oR [.l (ws.map fun w=>[.s w]),.s (⟨#[32]⟩:ByteArray)]=some [.s (aU (eR (ws.map (·.data.toList)) [32]))]:=by
  refine aa.toEq ?_;unfold oR vK
  (dsimp +instances only[Aa,Ab,Ac,Ad,Ae,Af,Ag])
  rw[e,eM];refine aa.pos ?_ (aa.some rfl);rw[dv,ar,cK,cK];omega
 refine aa.toEq ?_;unfold A6
 (dsimp +instances only[Aa,Ab,Ac,Ad,Ae,Af,Ag])
 refine aa.cE g ?_
 (dsimp +instances only[Aa,Ab,Ac,Ad,Ae,Af,Ag])
 refine aa.pos (by rw[eM,cK]; omega) (aa.some ?_);rw[show (⟨#[10]⟩:ByteArray)=aU [10] from rfl,Be];rfl
/-! ### Split -/
theorem Qz(c:UInt8)(x:List UInt8)(xs:List (List UInt8))(h:∀ y∈x::xs,c∉y) (g:(eR (x::xs) [c]).length≤1000000) :
  l8 [.s (aU (eR (x::xs) [c])),.s (⟨#[c]⟩:ByteArray)]=some [.l ((x::xs).map fun y=>[G.s (aU y)])]:=by
 refine aa.toEq ?_;unfold l8
 (dsimp +instances only[Aa,Ab,Ac,Ad,Ae,Af,Ag])
 have d:wy [.s (aU (eR (x::xs) [c])),.s (⟨#[c]⟩:ByteArray),.i 0,.i (-1)]=some [.l ((x::xs).map fun y=>[G.s (aU y)])]:=by
  refine aa.toEq ?_;unfold wy zG
  (dsimp +instances only[Aa,Ab,Ac,Ad,Ae,Af,Ag])
  refine aa.pos ?_ (aa.some ?_)
  ·rw [eM, ar, ar, ar]
   exact⟨rfl,rfl,rfl,by rw[dM]; omega⟩
  ·rw [Yi (eL _) h]
   rfl
 refine aa.cE d ?_;exact aa.some rfl
/-! ### d and words -/
/-! ### d -/
theorem aeO(a b:ByteArray)(h:a.size+b.size≤1000000):wZ [.s a,.s b]=some [.s (a++b),.i (b.size:Nat)]:=by
 refine aa.toEq ?_;unfold wZ zF
 (dsimp +instances only[Aa,Ab,Ac,Ad,Ae,Af,Ag])
 exact aa.pos (by rw[cK]; omega) (aa.some rfl)
theorem aeP(a:ByteArray):A7 [.s a]=some [.s a,.i (a.size:Nat)]:=rfl
theorem aeQ(a:ByteArray):A8 [.s a]=some [.s a,.s a]:=rfl
theorem xc(n:Int)(h1 : -9223372036854775808≤n)(d:n≤9223372036854775807):l6 [.i n]=some [.s (kE n)]:=by
 refine aa.toEq ?_;unfold l6
 (dsimp +instances only[Aa,Ab,Ac,Ad,Ae,Af,Ag])
 exact aa.pos (by rw[ar,bx,bx,decide_eq_true_eq,decide_eq_true_eq]; exact⟨h1,d⟩) (aa.some rfl)
def jW(l:List UInt8):List UInt8:=match l with | []=>[45]|b::r=>b::r
theorem aeR(s:ByteArray):Al [.s s]=some [.s (aU (jW s.data.toList))]:=by
 refine aa.toEq ?_;unfold Al
 (dsimp +instances only[Aa,Ab,Ac,Ad,Ae,Af,Ag])
 rw[dW,dW];cases d:s.data.toList with
 |nil=>exact aa.pos rfl (aa.some rfl)
 | cons b r =>
  refine aa.neg rfl (aa.some ?_);show [G.s s]=[G.s (aU (b::r))]
  rw[←d,l9]
theorem aeS{n:Int}(h0:0≤n)(h1:n≤345686399999):(eu n).length≤15:=by
 unfold eu;rw[if_neg (by omega)];exact M_ 14 _ (by simp; omega)
def gy(b:UInt8):Bool:=bI 97 b.toNat&&bI b.toNat 122
def fm(b:UInt8):Bool:=bI 48 b.toNat&&bI b.toNat 57
def fB(l:List UInt8):Bool:=l.all fun b=>gy b||fm b
def eT(l:List UInt8):Nat:=(l.filter gy).length
def dQ:ByteArray:=⟨#[48,49,50,51,52,53,54,55,56,57]⟩
theorem aeT(b:UInt8):z7 [.i ((b.toNat:Nat):Int)]=some [.t (gy b)]:=by
 refine aa.toEq ?_;unfold z7 gy
 (dsimp +instances only[Aa,Ab,Ac,Ad,Ae,Af,Ag])
 refine aa.test (fun h=>aa.some ?_) fun h=>aa.some ?_
 ·rw [bx, decide_eq_true_eq] at h
  rw[show bI 97 b.toNat=true by rw[cK]; omega,bx,dq,gj.2 (by rw[decide_eq_true_eq,cK]; omega:decide ((b.toNat:Int)≤122)=true↔bI b.toNat 122=true)]
 ·rw [bx, decide_eq_false_iff_not] at h
  rw[show bI 97 b.toNat=false by rw[mw,ne_eq,cK]; omega];rfl
theorem QA(b:UInt8):wb [.i ((b.toNat:Nat):Int)]=some [.t (fm b)]:=by
 refine aa.toEq ?_;unfold wb fm
 (dsimp +instances only[Aa,Ab,Ac,Ad,Ae,Af,Ag])
 refine aa.test (fun h=>aa.some ?_) fun h=>aa.some ?_
 ·rw [bx, decide_eq_true_eq] at h
  rw[show bI 48 b.toNat=true by rw[cK]; omega,bx,dq,gj.2 (by rw[decide_eq_true_eq,cK]; omega:decide ((b.toNat:Int)≤57)=true↔bI b.toNat 57=true)]
 ·rw [bx, decide_eq_false_iff_not] at h
  rw[show bI 48 b.toNat=false by rw[mw,ne_eq,cK]; omega];rfl
theorem HF(l:List UInt8)(b:UInt8):fB (l++[b])=(fB l&&(gy b||fm b)):=by simp[fB]
theorem QB(l:List UInt8)(b:UInt8):eT (l++[b])=eT l+if gy b then 1 else 0:=by
 unfold eT;rw[aih,dV,BW];cases gy b<;>rfl
theorem QC(l:List UInt8):eT l≤l.length:=List.length_filter_le _ _
theorem QD{l:List UInt8}(h:fB l=true)(i:Nat):fB (l.take i)=true:=bO.2 fun b hb=>bO.1 h b (nC hb)
theorem HG(s:ByteArray)(I:s.size≤900000):sT [.s s]=some [.i (bif fB s.data.toList then (eT s.data.toList:Int) else 0),.t (fB s.data.toList)]:=by
 refine aa.toEq ?_;unfold sT
 (dsimp +instances only[Aa,Ab,Ac,Ad,Ae,Af,Ag])
 have y:=fU s;refine aa.loop (P:=fun c g=>(c=1∧fB s.data.toList=true∧g=[.i (eT s.data.toList:Int)])∨(c=0∧fB s.data.toList=false∧g=[.i 0,.t false])) ?_ rfl ?_
 ·refine ((jU (σ:=Unit) (fun _ i=>[.s s,.i ((eT (s.data.toList.take i):Nat):Int),.i ((s.size:Nat):Int),.i (i:Int)]) s.size (fun _=>(1,[.i (eT s.data.toList:Int)])) (fun _ i=>fB (s.data.toList.take i)=true)
   (fun c g=>c=0∧fB s.data.toList=false∧g=[.i 0,.t false]) ?_ ?_ s.size () 0 (by omega) rfl).to (by omega)).mono ?_
  ·rintro _ i k hi
   have v:i<s.data.toList.length:=by omega
   have z:s.data.toList.getD i 0=s.data.toList[i]:=by rw[b_,bd v]; rfl
   have u:s.data.toList.take (i+1)=s.data.toList.take i++[s.data.toList[i]]:=by rw[nN,bd v]; rfl
   have hle:=QC (s.data.toList.take i);rw[jy]at hle;unfold z8
   (dsimp +instances only[Aa,Ab,Ac,Ad,Ae,Af,Ag])
   simp only[bp,z];generalize hb:s.data.toList[i]=b at u;refine aa.p (aa.p ?_);refine aa.cE (aeT b) ?_;refine aa.test (fun q=>?_) fun q=>?_
   ·have q : gy b = true := q
    refine aa.p (aa.p (aa.some (.inl ⟨(),?_,?_⟩)))
    ·rw [u, QB, q]
     rfl
    ·rw [u, HF, k, q]
     rfl
   ·have q : gy b = false := q
    refine aa.p ?_;refine aa.cE (QA b) ?_;refine aa.test (fun d=>?_) fun d=>?_
    ·refine aa.some (.inr ⟨0, _, rfl, rfl, ?_, rfl⟩)
     have d:(!fm b)=true:=d;have d:fm b=false:=by simpa using d
     cases B:fB s.data.toList with
     |false=>rfl
     | true =>
      have:=QD B (i+1);rw[u,HF,q,d]at this;simp at this
    ·have d : (!fm b) = false := d
     have d:fm b=true:=by simpa using d
     refine aa.p (aa.some (.inl ⟨(),?_,?_⟩))
     ·rw [u, QB, q]
      rfl
     ·rw [u, HF, k, q, d]
      rfl
  ·rintro _ k
   unfold z8
   (dsimp +instances only[Aa,Ab,Ac,Ad,Ae,Af,Ag])
   refine aa.n (aa.some ?_);rw[y,iK]
  ·rintro c g (⟨_, k, rfl, rfl⟩ | h)
   ·rw [y, iK] at k
    exact .inl ⟨rfl,k,rfl⟩
   ·exact .inr h
 ·rintro c g (⟨rfl, k, rfl⟩ | ⟨rfl, k, rfl⟩)
  ·rw [k]
   exact aa.neg rfl (aa.some rfl)
  ·rw [k]
   exact aa.pos rfl (aa.some rfl)
/-! ### d g last digit is -/
theorem wrap32{n:Nat}(h:n<128):IntKind.i32.wrap ((n:Nat):Int)=n:=by
 have e:((n:Nat):Int)%4294967296=n:=Int.emod_eq_of_lt (by omega) (by omega);have d:IntKind.i32.wrap ((n:Nat):Int)=if (true&&decide (((n:Nat):Int)%4294967296 ≥ 2147483648))=true then ((n:Nat):Int)%4294967296-4294967296 else ((n:Nat):Int)%4294967296:=rfl
 rw[d,e,if_neg (by simp; omega)]
theorem Bf{s:ByteArray}(h:bN s=true){i:Nat}(hi:i<s.size):(s.data.toList.getD i 0).toNat<128:=by
 have g:=fU s;have d:i<s.data.toList.length:=by omega
 rw[b_,bd d];exact zH h i _ (bd d)
theorem QE(s:ByteArray)(r:Nat)(h:r<128):∃ k,qn [.s s,.i ((r:Nat):Int)]=some [.i k]:=by
 refine⟨fI s.data.toList ((r:Nat):Int).toNat.toUInt8,aa.toEq ?_⟩;unfold qn zM
 (dsimp +instances only[Aa,Ab,Ac,Ad,Ae,Af,Ag])
 refine aa.pos ?_ (aa.some rfl);rw[ar,bx,aZ,decide_eq_true_eq,decide_eq_true_eq];omega
theorem aeU(s:ByteArray)(h:bN s=true)(h0:0<s.size)(h1:s.size≤900000):∃ r:Nat,r<128∧wk [.s s]=some [.i (r:Int),.i 1]:=by
 have e:(((s.size:Nat):Int)-1).toNat=s.size-1:=by omega
 have d:=Bf h (show s.size-1<s.size by omega);refine⟨(s.data.toList.getD (s.size-1) 0).toNat,d,aa.toEq ?_⟩;unfold wk
 (dsimp +instances only[Aa,Ab,Ac,Ad,Ae,Af,Ag])
 rw[e,wrap32 d];refine aa.neg (by simp only[beq_eq_false_iff_ne]; omega) (aa.p (aa.p (aa.pos (by rw[aZ,decide_eq_true_eq]; omega) (aa.some rfl))))
theorem Bg{s:ByteArray}(h:bN s=true)(i:Nat):bN (s.extract 0 i)=true:=bO.2 fun b hb=>by
 rw[qV]at hb;exact bO.1 h b (qM (nC hb))
theorem HH{s:ByteArray}(h:bN s=true)(i:Nat):bN (s.extract i s.size)=true:=bO.2 fun b hb=>by
 rw[aii]at hb;exact bO.1 h b (qM hb)
theorem aeV(s:ByteArray)(h:bN s=true)(I:s.size≤900000):∃ k:Int,lu [.s s,.s dQ]=some [.i k] ∧ -1≤k∧k<(s.size:Nat):=by
 have key:aa (lu [.s s,.s dQ]) fun g=>∃ k:Int,g=[.i k] ∧ -1≤k∧k<(s.size:Nat):=by
  unfold lu
  (dsimp +instances only[Aa,Ab,Ac,Ad,Ae,Af,Ag])
  refine aa.neg (by rw[dW,dW]; rfl) ?_;refine aa.test (fun h1=>?_) fun h1=>?_
  ·have h1 : s.size = 1 := by simp only [beq_iff_eq] at h1; omega
   have d:=Bf h (show 0<s.size by omega);rw[wrap32 d];refine aa.p (aa.neg (by rw[bx,decide_eq_false_iff_not]; omega) ?_);obtain⟨k,hk⟩:=QE dQ _ d;refine aa.cE hk ?_;exact aa.test (fun _=>aa.some ⟨0,rfl,by omega,by omega⟩) fun _=>aa.some ⟨-1,rfl,by omega,by omega⟩
  ·refine aa.call (aa.eq (rfl : ET [.i ((s.size : Nat) : Int)] = some [.t (ak 8 ((s.size : Nat) : Int))])) ?_
   rintro _ rfl
   (dsimp +instances only[Aa,Ab,Ac,Ad,Ae,Af,Ag])
   refine aa.test (fun q=>?_) fun q=>?_
   ·rw [aZ, decide_eq_true_eq] at q
    have hm:wg [.s dQ]=some [.l [setRow dQ],.t true]:=by
     refine aa.toEq ?_;unfold wg zL
     (dsimp +instances only[Aa,Ab,Ac,Ad,Ae,Af,Ag])
     exact aa.pos rfl (aa.some rfl)
    refine aa.cE hm ?_;refine aa.pos rfl (aa.p ?_)
    (dsimp +instances only[Aa,Ab,Ac,Ad,Ae,Af,Ag])
    generalize J:be kz (setRow dQ)=row;refine aa.loop (P:=fun c g=>(c=1∧g=[])∨(c=0∧∃ k:Nat,k<s.size∧g=[.i (k:Int)])) ?_ rfl ?_
    ·have M : ((s.size : Nat) : Int) - 1 = ((s.size : Nat) : Int) - 1 := rfl
     refine iS.inv (fun t:List G × Nat=>[.s s,.l [t.1],.i ((t.2:Int)-1)]) (fun t=>t.2≤s.size) (fun t=>t.2) (fun t u=>?_) (row,s.size) (aH _) (by simp only; omega);obtain⟨row,i⟩:=t;simp only at u;unfold E5
     (dsimp +instances only[Aa,Ab,Ac,Ad,Ae,Af,Ag])
     by_cases h0:i=0
     ·subst h0
      exact aa.neg (by rw[bx,decide_eq_false_iff_not]; simp) (aa.some (.inr ⟨1,rfl,.inl ⟨rfl,rfl⟩⟩))
     ·have v : ((i : Int) - 1).toNat = i - 1 := by omega
      rw[v];refine aa.p (aa.p ?_);have d:=Bf h (show i-1<s.size by omega);have y:aa (z_ [.l [be kz row],.i (((s.data.toList.getD (i-1) 0).toNat:Nat):Int)]) fun g=>∃ b,g=[.t b]:=by
       unfold z_;refine aa.pos ?_ (aa.some ⟨_,rfl⟩);rw[ar,eY,aZ,decide_eq_true_eq,decide_eq_true_eq];show 0≤(((s.data.toList.getD (i-1) 0).toNat:Nat):Int)∧(((s.data.toList.getD (i-1) 0).toNat:Nat):Int)<256
       omega
      refine aa.call y ?_;rintro _ ⟨b,rfl⟩;refine aa.test (fun _=>aa.some (.inr ⟨0,rfl,.inr ⟨rfl,i-1,by omega,?_⟩⟩)) fun _=>aa.p (aa.some (.inl ⟨rfl,(be kz row,i-1),?_,by simp only; omega,by simp only; omega⟩))
      ·rw[show ((i:Int)-1)=((i-1:Nat):Int) by omega]
      ·simp only
       rw[show ((i:Int)-1)=((i-1:Nat):Int) by omega]
    ·rintro c g (⟨rfl, rfl⟩ | ⟨rfl, k, hk, rfl⟩)
     ·exact aa.neg rfl (aa.some ⟨-1,rfl,by omega,by omega⟩)
     ·exact aa.pos rfl (aa.some ⟨k,rfl,by omega,by omega⟩)
   ·refine aa.neg rfl ?_
    refine aa.loop (P:=fun c g=>(c=1∧g=[])∨(c=0∧∃ k:Nat,k<s.size∧g=[.i (k:Int)])) ?_ rfl ?_
    ·refine iS.inv (fun i : Nat => [.s s, .s dQ, .i (i : Int)]) (fun i => i ≤ s.size) (fun i => i) (fun i hi => ?_) s.size (aH _) (by omega)
     unfold wq
     (dsimp +instances only[Aa,Ab,Ac,Ad,Ae,Af,Ag])
     by_cases h0:i=0
     ·subst h0
      exact aa.neg rfl (aa.some (.inr ⟨1,rfl,.inl ⟨rfl,rfl⟩⟩))
     ·rw [bp]
      refine aa.p (aa.p ?_);have N:(s.extract 0 i).size=i:=by rw[qW]; omega
      obtain⟨r,d,he⟩:=aeU (s.extract 0 i) (Bg h i) (by omega) (by omega);refine aa.cE he ?_
      (dsimp +instances only[Aa,Ab,Ac,Ad,Ae,Af,Ag])
      refine aa.p ?_;obtain⟨k,hk⟩:=QE dQ r d;refine aa.cE hk ?_;refine aa.test (fun _=>aa.some (.inr ⟨0,rfl,.inr ⟨rfl,i-1,by omega,?_⟩⟩)) fun _=>aa.some (.inl ⟨rfl,i-1,?_,by omega,by omega⟩)
      ·rw[show ((i:Int)-1)=((i-1:Nat):Int) by omega]
      ·rw[show ((i:Int)-1)=((i-1:Nat):Int) by omega]
    ·rintro c g (⟨rfl, rfl⟩ | ⟨rfl, k, hk, rfl⟩)
     ·exact aa.neg rfl (aa.some ⟨-1,rfl,by omega,by omega⟩)
     ·exact aa.pos rfl (aa.some ⟨k,rfl,by omega,by omega⟩)
 obtain⟨g,z,k,rfl,h1,B⟩:=key;exact⟨k,z,h1,B⟩
def c_(s:ByteArray):Int:=(gi ((lu [.s s,.s dQ]).getD []) 0).int
theorem Bh{s:ByteArray}(h:bN s=true)(d:s.size≤900000):lu [.s s,.s dQ]=some [.i (c_ s)] ∧ -1≤c_ s∧c_ s<(s.size:Nat):=by
 obtain⟨k,h1,g,q⟩:=aeV s h d;have e:c_ s=k:=by unfold c_; rw[h1]; rfl
 rw[e];exact⟨h1,g,q⟩
def qC(s:ByteArray):Prop:=fB s.data.toList=true∧s.size≤10∧1≤c_ s∧c_ s≤3∧1≤((s.size:Nat):Int)-c_ s-1∧((s.size:Nat):Int)-c_ s-1≤4∧0<eT (s.data.toList.take (c_ s).toNat)
open Classical in
def dE(s:ByteArray):Bool:=decide (qC s)
def lx(s:ByteArray):Bool:=fB s.data.toList&&(cJ 0 (eT s.data.toList)&&bI s.size 4)
def gR(s:ByteArray):Bool:=s.data.toList==[112]||(s.data.toList==[109]||(s.data.toList==[109,109]||(s.data.toList==[97,109]||((af s.size 1&&fm (s.data.toList.getD 0 0))||lx s))))
open Classical in
theorem HI{s:ByteArray}(h:qC s):dE s=true:=decide_eq_true h
open Classical in
theorem xd{s:ByteArray}(h:¬ qC s):dE s=false:=decide_eq_false h
open Classical in
theorem HJ{s:ByteArray}:dE s=true↔qC s:=decide_eq_true_iff
theorem aeW(s:ByteArray)(h:bN s=true)(q:s.size≤900000):aa (Ah [.s s]) fun g=>∃ i,g=[.i i,.t (dE s)]∧(dE s=true→i=c_ s):=by
 obtain⟨z,J,M⟩:=Bh h q;have no:¬ qC s→∀(i:Int),∃ u,[G.i i,G.t false]=[G.i u,G.t (dE s)]∧(dE s=true→u=c_ s):=fun v i=>⟨i,by rw[xd v],fun hb=>(v (HJ.1 hb)).elim⟩
 unfold Ah
 (dsimp +instances only[Aa,Ab,Ac,Ad,Ae,Af,Ag])
 refine aa.cE (HG s q) ?_
 (dsimp +instances only[Aa,Ab,Ac,Ad,Ae,Af,Ag])
 refine aa.test (fun d=>aa.some (no (fun hb=>?_) 0)) fun d=>?_
 ·rw [hb.1] at d
  cases d
 have d:fB s.data.toList=true:=by simpa using d
 refine aa.test (fun k=>aa.some (no (fun hb=>?_) 0)) fun k=>?_
 ·rw [aZ, decide_eq_true_eq] at k
  have:=hb.2.1;omega
 rw[aZ,decide_eq_false_iff_not]at k;refine aa.cE z ?_
 (dsimp +instances only[Aa,Ab,Ac,Ad,Ae,Af,Ag])
 refine aa.test (fun g1=>aa.some (no (fun hb=>?_) 0)) fun g1=>?_
 ·rw [aZ, decide_eq_true_eq] at g1
  have:=hb.2.2.1;omega
 rw[aZ,decide_eq_false_iff_not]at g1;refine aa.test (fun g2=>aa.some (no (fun hb=>?_) 0)) fun g2=>?_
 ·rw [aZ, decide_eq_true_eq] at g2
  have:=hb.2.2.2.1;omega
 rw[aZ,decide_eq_false_iff_not]at g2;refine aa.p (aa.p (aa.test (fun g3=>aa.some (no (fun hb=>?_) 0)) fun g3=>?_))
 ·rw [aZ, decide_eq_true_eq] at g3
  have:=hb.2.2.2.2.1;omega
 rw[aZ,decide_eq_false_iff_not]at g3;refine aa.p (aa.p (aa.test (fun g4=>aa.some (no (fun hb=>?_) 0)) fun g4=>?_))
 ·rw [aZ, decide_eq_true_eq] at g4
  have:=hb.2.2.2.2.2.1;omega
 rw[aZ,decide_eq_false_iff_not]at g4;refine aa.p ?_;have B:(s.extract 0 (c_ s).toNat).size≤900000:=by rw[qW]; omega
 refine aa.cE (HG _ B) ?_;have I:(s.extract 0 (c_ s).toNat).data.toList=s.data.toList.take (c_ s).toNat:=by rw[qV]; simp
 rw[I,QD d];refine aa.some ⟨c_ s,?_,fun _=>rfl⟩;show [G.i (c_ s),G.t (ak 0 ((eT (s.data.toList.take (c_ s).toNat):Nat):Int))]=_
 by_cases y:0<eT (s.data.toList.take (c_ s).toNat)
 ·rw[HI ⟨d,by omega,by omega,by omega,by omega,by omega,y⟩,aZ,decide_eq_true (by omega)]
 ·rw[xd (fun hb=>y hb.2.2.2.2.2.2),aZ,decide_eq_false (by omega)]
theorem HK(s:ByteArray)(h:bN s=true)(d:s.size≤900000):aa (oM [.s s]) fun g=>∃ row,g=[.l [row],.t (dE s)]:=by
 obtain⟨_,q,u⟩:=Bh h d;unfold oM
 (dsimp +instances only[Aa,Ab,Ac,Ad,Ae,Af,Ag])
 refine aa.call (aeW s h d) ?_;rintro _ ⟨i,rfl,hi⟩
 (dsimp +instances only[Aa,Ab,Ac,Ad,Ae,Af,Ag])
 refine aa.test (fun hb=>?_) fun hb=>?_
 ·have hb : dE s = false := by simpa using hb
  rw[hb];exact aa.some ⟨_,rfl⟩
 ·have hb : dE s = true := by simpa using hb
  rw[hi hb,hb];have k:=HJ.1 hb;have:=k.2.2.1;exact aa.p (aa.p (aa.p (aa.p (aa.some ⟨_,rfl⟩))))
theorem HL(s:ByteArray)(g:s.size≤900000):sU [.s s]=some [.t (lx s)]:=by
 refine aa.toEq ?_;unfold sU lx
 (dsimp +instances only[Aa,Ab,Ac,Ad,Ae,Af,Ag])
 refine aa.cE (HG s g) ?_
 (dsimp +instances only[Aa,Ab,Ac,Ad,Ae,Af,Ag])
 cases h:fB s.data.toList with
 |false=>exact aa.neg rfl (aa.some rfl)
 | true =>
  refine aa.pos rfl ?_;simp only[cond_true,dq];refine aa.test (fun d=>?_) fun d=>?_
  ·rw [aZ, decide_eq_true_eq] at d
   rw[show cJ 0 (eT s.data.toList)=true by rw[dM]; omega,dq];refine aa.some ?_;rw[bx,gj.2 (by rw[decide_eq_true_eq,cK]; omega:decide (((s.size:Nat):Int)≤4)=true↔bI s.size 4=true)]
  ·rw [aZ, decide_eq_false_iff_not] at d
   rw[show cJ 0 (eT s.data.toList)=false by rw[mw,ne_eq,dM]; omega];exact aa.some rfl
theorem aeX(s:ByteArray)(d:s.size≤900000):aa (sV [.s s]) fun g=>∃ i a,g=[.i i,.s a,.t (gR s)]:=by
 unfold sV gR
 (dsimp +instances only[Aa,Ab,Ac,Ad,Ae,Af,Ag])
 simp only[dW];have fin:∀(i:Int) (a:ByteArray) {b c:Bool},b=c→aa (some [G.i i,G.s a,G.t b]) fun g=>∃ i a,g=[.i i,.s a,.t c]:=fun i a b c e=>aa.some ⟨i,a,by rw[e]⟩;refine aa.test (fun g1=>fin _ _ (by rw[g1]; rfl)) fun g1=>?_;refine aa.test (fun g2=>fin _ _ (by rw[g2]; simp)) fun g2=>?_;refine aa.test (fun g3=>fin _ _ (by rw[g3]; simp)) fun g3=>?_;refine aa.test (fun g4=>fin _ _ (by rw[g4]; simp)) fun g4=>?_;rw[g1,g2,g3,g4];simp only[fp];refine aa.test (fun g5=>?_) fun g5=>?_
 ·have g5 : s.size = 1 := by simp only [beq_iff_eq] at g5; omega
  refine aa.p ?_;refine aa.cE (QA (s.data.toList.getD 0 0)) ?_;rw[show af s.size 1=true by rw[g5]; rfl,dq];refine aa.test (fun g6=>?_) fun g6=>?_
  ·have g6 : fm (s.data.toList.getD 0 0) = true := g6
   exact fin _ _ (by rw[g6]; rfl)
  ·have g6 : fm (s.data.toList.getD 0 0) = false := g6
   refine aa.cE (HL s d) ?_;exact fin _ _ (by rw[g6]; rfl)
 ·have g5 : s.size ≠ 1 := by simp only [beq_eq_false_iff_ne, ne_eq] at g5; omega
  rw[show af s.size 1=false by rw[mw,ne_eq,SX]; exact g5,lF,fp];refine aa.cE (HL s d) ?_;exact fin _ _ rfl
/-! ### g at a d -/
def HM:ByteArray:=⟨#[47]⟩
def fO(s:ByteArray):Int:=lG s.data.toList [47]
def eh(s:ByteArray):ByteArray:=if 0≤fO s then s.extract 0 (fO s).toNat else s
def bX(s:ByteArray):ByteArray:=if 0≤fO s then s.extract ((fO s)+1).toNat s.size else ⟨#[]⟩
theorem aeY(s:ByteArray):0≤fO s→fO s<(s.size:Nat):=by
 intro h;unfold fO at *;rw[qS]at *;obtain⟨o,ho⟩:∃ o:Nat,fI s.data.toList 47=o:=⟨(fI s.data.toList 47).toNat,by omega⟩
 have:=(Lib.indexByte_some ho).1;have:=(List.getElem?_eq_some_iff.1 this).1;rw[ho,fU];omega
theorem zb(s:ByteArray)(k:s.size≤900000):lv [.s s,.s HM]=some [.s (eh s),.s (bX s),.t (aG 0 (fO s))]:=by
 refine aa.toEq ?_;unfold lv
 (dsimp +instances only[Aa,Ab,Ac,Ad,Ae,Af,Ag])
 refine aa.call (P:=fun g=>g=[.s (eh s),.s (bX s),.t (aG 0 (fO s))]) ?_ ?_
 ·unfold wv
  (dsimp +instances only[Aa,Ab,Ac,Ad,Ae,Af,Ag])
  have hi:qo [.s s,.s HM]=some [.i (fO s)]:=by
   refine aa.toEq ?_;unfold qo zI
   (dsimp +instances only[Aa,Ab,Ac,Ad,Ae,Af,Ag])
   exact aa.pos rfl (aa.some rfl)
  refine aa.cE hi ?_
  (dsimp +instances only[Aa,Ab,Ac,Ad,Ae,Af,Ag])
  have h1:(HM.size:Nat)=1:=rfl;rw[h1];refine aa.test (fun d=>?_) fun d=>?_
  ·have h : 0 ≤ fO s := by rw [bx, decide_eq_true_eq] at d; exact d
   have:=aeY s h;rw[d];refine aa.p (aa.p (aa.p (aa.some ?_)));unfold eh bX;rw[if_pos h,if_pos h];rfl
  ·have h : ¬ 0 ≤ fO s := by rw [bx, decide_eq_false_iff_not] at d; exact d
   rw[d];refine aa.some ?_;unfold eh bX;rw[if_neg h,if_neg h]
 ·rintro _ rfl
  exact aa.some rfl
theorem QF(s:ByteArray):(eh s).size≤s.size:=by
 unfold eh;split
 ·rw[qW]; omega
 ·omega
theorem QG(s:ByteArray):(bX s).size≤s.size:=by
 unfold bX;split
 ·rw[qW]; omega
 ·exact dB _
theorem QH{s:ByteArray}(h:bN s=true):bN (eh s)=true:=by
 unfold eh;split
 ·exact Bg h _
 ·exact h
theorem QI{s:ByteArray}(h:bN s=true):bN (bX s)=true:=by
 unfold bX;split
 ·exact HH h _
 ·rfl
theorem aeZ{s:ByteArray}(h:0≤fO s):dE s=false:=xd fun hb=>by
 have d:=hb.1;have hm:(47:UInt8)∉s.data.toList:=fun hm=>by
  have:=bO.1 d _ hm
  revert this
  decide
 unfold fO at h;rw[qS,Eo hm]at h;omega
def iV(s:ByteArray):Bool:=bI s.size 14&&(dE s||(aG 0 (fO s)&&((dE (bX s)&&lx (eh s))||(dE (eh s)&&gR (bX s)))))
theorem HN(s:ByteArray)(h:bN s=true)(d:s.size≤900000):qp [.s s]=some [.t (iV s)]:=by
 refine aa.toEq ?_;unfold qp
 (dsimp +instances only[Aa,Ab,Ac,Ad,Ae,Af,Ag])
 refine aa.call (P:=fun g=>∃ row,g=[.l [row],.t (iV s)]) ?_ ?_
 ·unfold Ff iV
  (dsimp +instances only[Aa,Ab,Ac,Ad,Ae,Af,Ag])
  have fin:∀(row:List G) {b c:Bool},b=c→aa (some [G.l [row],G.t b]) fun g=>∃ row,g=[.l [row],.t c]:=fun row b c e=>aa.some ⟨row,by rw[e]⟩;refine aa.test (fun g0=>?_) fun g0=>?_
  ·rw [aZ, decide_eq_true_eq] at g0
   exact fin _ (by rw[show bI s.size 14=false by rw[mw,ne_eq,cK]; omega]; rfl)
  rw[aZ,decide_eq_false_iff_not]at g0;rw[show bI s.size 14=true by rw[cK]; omega,dq];refine aa.call (HK s h d) ?_;rintro _ ⟨row,rfl⟩
  (dsimp +instances only[Aa,Ab,Ac,Ad,Ae,Af,Ag])
  refine aa.test (fun g1=>fin _ (by rw[g1]; rfl)) fun g1=>?_;rw[g1,fp];refine aa.cE (zb s d) ?_
  (dsimp +instances only[Aa,Ab,Ac,Ad,Ae,Af,Ag])
  refine aa.test (fun g2=>?_) fun g2=>?_
  ·have g2 : aG 0 (fO s) = false := by simpa using g2
   exact fin _ (by rw[g2]; rfl)
  have g2:aG 0 (fO s)=true:=by simpa using g2
  rw[g2,dq];have q:=QF s;have u:=QG s;have k:=QH h;have aB:=QI h;have rest:aa (aj (oM [G.s (eh s)]) fun g7=>aj (sV [G.s (bX s)]) fun g8=>bif !(gi g7 1).bool then some [G.l [[G.s (⟨#[]⟩:ByteArray),G.s (⟨#[]⟩:ByteArray),G.s (⟨#[]⟩:ByteArray),G.i 0,G.s (⟨#[]⟩:ByteArray)]],G.t false] else
    bif !(gi g8 2).bool then some [G.l [[G.s (⟨#[]⟩:ByteArray),G.s (⟨#[]⟩:ByteArray),G.s (⟨#[]⟩:ByteArray),G.i 0,G.s (⟨#[]⟩:ByteArray)]],G.t false] else some [G.l [[G.s (gi (gi g7 0).row 0).str,G.s (gi (gi g7 0).row 1).str,G.s (gi (gi g7 0).row 2).str,G.i (gi g8 0).int,G.s (gi g8 1).str]],G.t true])
    fun g=>∃ row,g=[G.l [row],G.t (dE (eh s)&&gR (bX s))]:=by
   refine aa.call (HK _ k (by omega)) ?_;rintro _ ⟨row,rfl⟩;refine aa.call (aeX _ (by omega)) ?_;rintro _ ⟨i,a,rfl⟩
   (dsimp +instances only[Aa,Ab,Ac,Ad,Ae,Af,Ag])
   refine aa.test (fun g3=>?_) fun g3=>?_
   ·have g3 : dE (eh s) = false := by simpa using g3
    exact fin _ (by rw[g3]; rfl)
   have g3:dE (eh s)=true:=by simpa using g3
   rw[g3,dq];refine aa.test (fun g4=>?_) fun g4=>?_
   ·have g4 : gR (bX s) = false := by simpa using g4
    exact fin _ (by rw[g4])
   ·have g4 : gR (bX s) = true := by simpa using g4
    exact fin _ (by rw[g4])
  refine aa.call (HK _ aB (by omega)) ?_;rintro _ ⟨row,rfl⟩
  (dsimp +instances only[Aa,Ab,Ac,Ad,Ae,Af,Ag])
  refine aa.test (fun g3=>?_) fun g3=>?_
  ·rw [g3, dq]
   refine aa.cE (HL (eh s) (by omega)) ?_;refine aa.test (fun g4=>?_) fun g4=>?_
   ·have g4 : lx (eh s) = true := g4
    exact fin _ (by rw[g4]; rfl)
   ·have g4 : lx (eh s) = false := g4
    rw[g4,fp];exact rest
  ·rw [g3, lF, fp]
   exact rest
 ·rintro _ ⟨row, rfl⟩
  exact aa.some rfl
def tF:ByteArray:=⟨#[97,98,99,100,101,102,103,104,105,106,107,108,109,110,111,112,113,114,115,116,117,118,119,120,121,122]⟩
def tG:ByteArray:=⟨#[97,98,99,100,101,102,103,104,105,106,107,108,109,110,111,112,113,114,115,116,117,118,119,120,121,122,48,49,50,51,52,53,54,55,56,57]⟩
theorem oY(p:UInt8→Bool) (h:((er 256).all fun n=>p (UInt8.ofNat n))=true) (b:UInt8):p b=true:=by
 have:=bO.1 h b.toNat (gF.2 (UInt8.toNat_lt b))
 rwa [I9]at this
theorem ae0(b:UInt8):tF.data.toList.contains b=gy b:=by
 have:=oY (fun b=>tF.data.toList.contains b==gy b) (by kernel_rfl) b;simpa using this
theorem QJ(b:UInt8):tG.data.toList.contains b=(gy b||fm b):=by
 have:=oY (fun b=>tG.data.toList.contains b==(gy b||fm b)) (by kernel_rfl) b;simpa using this
theorem QK(b:UInt8):dQ.data.toList.contains b=fm b:=by
 have:=oY (fun b=>dQ.data.toList.contains b==fm b) (by kernel_rfl) b;simpa using this
theorem HO{p:UInt8→Bool}:∀{l:List UInt8},l.dropWhile p=[]→∀ b∈l,p b=true
 | [],_,b,hb=>by cases hb
 | x::l,h,b,hb=>by
  rw[List.dropWhile_cons]at h;split at h
  ·rename_i d
   rcases bS.1 hb with rfl|hb
   ·exact d
   ·exact HO h b hb
  ·cases h
theorem HP{l cs:List UInt8}:mA l cs=[]↔∀ b∈l,cs.contains b=true:=by
 refine⟨fun h=>?_,Yl⟩;unfold mA Lib.trimLeftS at h;have h1:∀ b∈SS l cs,cs.contains b=true:=HO h;unfold SS at h1;cases d:l.reverse.dropWhile (cs.contains ·)with
 |nil=>exact fun b hb=>HO d b (List.mem_reverse.2 hb)
 | cons x r =>
  have g:=h1 x (by rw[d]; simp);have:=List.head_dropWhile_not (p:=(cs.contains ·)) (l:=l.reverse) (by rw[d]; simp);simp only[d,List.head_cons]at this;rw[g]at this;cases this
theorem QL(cs:List UInt8):∀ l:List UInt8,SP l cs=l.any (cs.contains ·)
 | []=>rfl
 | b::l=>by
  have d:=QL cs l;have g:=Lib.indexAny_ge cs l;unfold SP at d⊢;unfold aij;rw[List.any_cons,←d];cases h:cs.contains b with
  |true=>simp
  | false =>
   rw[if_neg (by simp)];by_cases h0:aij l cs = -1
   ·rw[h0]; simp
   ·rw [if_neg (by simpa using h0)]
    simp only[fp];exact decide_eq_decide.2 ⟨fun _=>by omega,fun _=>by omega⟩
theorem ae1(l:List UInt8):l.any gy=cJ 0 (eT l):=by
 rw[gj,jz,dM];unfold eT;rw[List.length_pos_iff_exists_mem];simp only[List.mem_filter]
theorem HQ(a u v:Int):sW [.i a,.i u,.i v]=some [.t (aG u a&&aG a v)]:=by
 refine aa.toEq ?_;unfold sW
 (dsimp +instances only[Aa,Ab,Ac,Ad,Ae,Af,Ag])
 exact aa.test (fun h=>aa.some (by rw[h,dq])) fun h=>aa.some (by rw[h,lF])
theorem QM(s:ByteArray)(h:bN s=true)(d:s.size≤900000):tz [.s s,.s tF]=some [.t (cJ 0 (eT s.data.toList))]:=by
 refine aa.toEq ?_;unfold tz zK
 (dsimp +instances only[Aa,Ab,Ac,Ad,Ae,Af,Ag])
 refine aa.pos ?_ (aa.some ?_)
 ·rw [h, dq, ar, ar]
  exact⟨rfl,by rw[dM]; omega,rfl⟩
 ·rw [QL, ← ae1]
  congr 3
  funext b
  exact ae0 b
theorem ae2(s:ByteArray)(h0:0<s.size)(d:s.size≤900000):aa (kF [.s s,.s tG]) fun g=>∃ t,g=[.s t]∧(t.toList==(⟨#[]⟩:ByteArray).toList)=fB s.data.toList:=by
 unfold kF
 (dsimp +instances only[Aa,Ab,Ac,Ad,Ae,Af,Ag])
 refine aa.pos ?_ (aa.some ⟨_,rfl,?_⟩)
 ·simp only [ar, cK, dM]
  exact⟨by rfl,by decide,by decide,by omega,by omega⟩
 ·have e : (trimB s tG).toList = mA s.data.toList tG.data.toList := by rw [dW]; simp [trimB]
  rw[e,dW,gj,beq_iff_eq];show mA s.data.toList tG.data.toList=[]↔_
  rw[HP];unfold fB;rw[bO];exact⟨fun h b hb=>by rw[←QJ]; exact h b hb,fun h b hb=>by rw[QJ]; exact h b hb⟩
theorem QN(s:ByteArray)(h:bN s=true)(d:s.size≤900000)(lo hi:Int)(k:1≤lo):w_ [.s s,.i lo,.i hi]=some [.t ((aG lo ((s.size:Nat):Int)&&aG ((s.size:Nat):Int) hi)&&(fB s.data.toList&&cJ 0 (eT s.data.toList)))]:=by
 refine aa.toEq ?_;unfold w_
 (dsimp +instances only[Aa,Ab,Ac,Ad,Ae,Af,Ag])
 refine aa.cE (HQ _ _ _) ?_
 (dsimp +instances only[Aa,Ab,Ac,Ad,Ae,Af,Ag])
 refine aa.test (fun g1=>?_) fun g1=>aa.some (by rw[g1,lF]);rw[g1,dq];rw[ar,bx,decide_eq_true_eq]at g1;refine aa.call (ae2 s (by omega) d) ?_;rintro _ ⟨t,rfl,g⟩
 (dsimp +instances only[Aa,Ab,Ac,Ad,Ae,Af,Ag])
 rw[g];refine aa.test (fun g2=>?_) fun g2=>aa.some (by rw[g2,lF]);rw[g2,dq];refine aa.cE (QM s h d) ?_;exact aa.some rfl
theorem xe(s:ByteArray)(h:bN s=true)(g:s.size≤900000):oT [.s s]=some [.t (lx s)]:=by
 refine aa.toEq ?_;unfold oT
 (dsimp +instances only[Aa,Ab,Ac,Ad,Ae,Af,Ag])
 refine aa.cE (QN s h g 1 4 (by omega)) ?_;have e:((aG 1 ((s.size:Nat):Int)&&aG ((s.size:Nat):Int) 4)&&(fB s.data.toList&&cJ 0 (eT s.data.toList)))=lx s:=by
  unfold lx;have k:=QC s.data.toList;have q:=fU s;rw[gj];simp only[ar,bx,decide_eq_true_eq,dM,cK];constructor
  ·rintro ⟨⟨a, b⟩, c, d⟩
   exact⟨c,d,by omega⟩
  ·rintro ⟨a, b, c⟩
   exact⟨⟨by omega,by omega⟩,a,b⟩
 (dsimp +instances only[Aa,Ab,Ac,Ad,Ae,Af,Ag])
 rw[e];exact aa.some rfl
theorem ae3(l:List UInt8)(i:Nat):eT (l.take i)≤eT l:=(aiS gy (List.take_sublist i l)).length_le
theorem xf(s:ByteArray)(h:bN s=true)(k:s.size≤900000):aa (oS [.s s]) fun g=>∃ i,g=[.i i]∧ak i 0 = !dE s∧aG 0 i=dE s∧(dE s=true→i=c_ s):=by
 obtain⟨q,z,B⟩:=Bh h k;have no:¬ qC s→∃ i,[G.i (-1)]=[G.i i]∧ak i 0 = !dE s∧aG 0 i=dE s∧(dE s=true→i=c_ s):=fun d=>⟨-1,rfl,by rw[xd d]; rfl,by rw[xd d]; rfl,fun hb=>(d (HJ.1 hb)).elim⟩
 unfold oS
 (dsimp +instances only[Aa,Ab,Ac,Ad,Ae,Af,Ag])
 refine aa.cE q ?_;refine aa.cE (QN s h k 3 10 (by omega)) ?_
 (dsimp +instances only[Aa,Ab,Ac,Ad,Ae,Af,Ag])
 refine aa.test (fun g1=>aa.some (no fun hb=>?_)) fun g1=>?_
 ·have y := ae3 s.data.toList (c_ s).toNat
  have:((aG 3 ((s.size:Nat):Int)&&aG ((s.size:Nat):Int) 10)&&(fB s.data.toList&&cJ 0 (eT s.data.toList)))=true:=by
   simp only[ar,bx,decide_eq_true_eq,dM];obtain⟨b1,I,J,M,N,O,R⟩:=hb;exact⟨⟨by omega,by omega⟩,b1,by omega⟩
  rw[this]at g1;cases g1
 have g1:((aG 3 ((s.size:Nat):Int)&&aG ((s.size:Nat):Int) 10)&&(fB s.data.toList&&cJ 0 (eT s.data.toList)))=true:=by simpa using g1
 simp only[ar,bx,decide_eq_true_eq]at g1;obtain⟨⟨s1,s2⟩,t,_⟩:=g1;refine aa.cE (HQ _ _ _) ?_
 (dsimp +instances only[Aa,Ab,Ac,Ad,Ae,Af,Ag])
 refine aa.test (fun g2=>aa.some (no fun hb=>?_)) fun g2=>?_
 ·have:(aG 1 (c_ s)&&aG (c_ s) 3)=true:=by
   simp only[ar,bx,decide_eq_true_eq];exact⟨hb.2.2.1,hb.2.2.2.1⟩
  rw[this]at g2;cases g2
 have g2:(aG 1 (c_ s)&&aG (c_ s) 3)=true:=by simpa using g2
 simp only[ar,bx,decide_eq_true_eq]at g2;refine aa.p (aa.p ?_);refine aa.cE (HQ _ _ _) ?_
 (dsimp +instances only[Aa,Ab,Ac,Ad,Ae,Af,Ag])
 refine aa.test (fun g3=>aa.some (no fun hb=>?_)) fun g3=>?_
 ·have:(aG 1 (((s.size:Nat):Int)-1-c_ s)&&aG (((s.size:Nat):Int)-1-c_ s) 4)=true:=by
   simp only[ar,bx,decide_eq_true_eq];have:=hb.2.2.2.2.1;have:=hb.2.2.2.2.2.1;omega
  rw[this]at g3;cases g3
 have g3:(aG 1 (((s.size:Nat):Int)-1-c_ s)&&aG (((s.size:Nat):Int)-1-c_ s) 4)=true:=by simpa using g3
 simp only[ar,bx,decide_eq_true_eq]at g3;refine aa.p ?_;have u:(s.extract 0 (c_ s).toNat).size≤900000:=by rw[qW]; omega
 refine aa.cE (QM _ (Bg h _) u) ?_
 (dsimp +instances only[Aa,Ab,Ac,Ad,Ae,Af,Ag])
 have v:(s.extract 0 (c_ s).toNat).data.toList=s.data.toList.take (c_ s).toNat:=by rw[qV]; simp
 rw[v];refine aa.test (fun g4=>aa.some (no fun hb=>?_)) fun g4=>?_
 ·rw [show cJ 0 (eT (s.data.toList.take (c_ s).toNat)) = true by rw [dM]; exact hb.2.2.2.2.2.2] at g4
  cases g4
 ·have g4 : cJ 0 (eT (s.data.toList.take (c_ s).toNat)) = true := by simpa using g4
  rw[dM]at g4;have hb:dE s=true:=HI ⟨t,by omega,by omega,by omega,by omega,by omega,g4⟩;refine aa.some ⟨c_ s,rfl,?_,?_,fun _=>rfl⟩
  ·rw [hb, aZ, decide_eq_false (by omega)]
   rfl
  ·rw[hb,bx,decide_eq_true (by omega)]
theorem Bi(s:ByteArray)(h:bN s=true)(d:s.size≤900000)(hb:dE s=true):aa (qx [.s s]) fun g=>∃ row,g=[.l [row]]:=by
 obtain⟨_,k,q⟩:=Bh h d;unfold qx
 (dsimp +instances only[Aa,Ab,Ac,Ad,Ae,Af,Ag])
 refine aa.call (xf s h d) ?_;rintro _ ⟨i,rfl,_,_,hi⟩
 (dsimp +instances only[Aa,Ab,Ac,Ad,Ae,Af,Ag])
 rw[hi hb];exact aa.p (aa.p (aa.p (aa.p (aa.some ⟨_,rfl⟩))))
theorem QO(s:ByteArray)(h:s.size=1):sX [.s dQ,.s s]=some [.t (fm (s.data.toList.getD 0 0))]:=by
 obtain⟨c,rfl⟩:=Lib.one_byte s h;refine aa.toEq ?_;unfold sX zJ
 (dsimp +instances only[Aa,Ab,Ac,Ad,Ae,Af,Ag])
 refine aa.pos rfl (aa.some ?_);show [G.t (aG 0 (lG dQ.data.toList [c]))]=[G.t (fm c)]
 have:=oY (fun c=>aG 0 (lG dQ.data.toList [c])==fm c) (by kernel_rfl) c;rw[show aG 0 (lG dQ.data.toList [c])=fm c by simpa using this]
theorem ae4(s:ByteArray)(h:bN s=true)(z:s.size≤900000):A9 [.s s]=some [.t (iV s)]:=by
 refine aa.toEq ?_;unfold A9
 (dsimp +instances only[Aa,Ab,Ac,Ad,Ae,Af,Ag])
 refine aa.call (P:=fun g=>∃ row,g=[.l [row],.t (iV s)]) ?_ ?_
 rotate_left
 ·rintro _ ⟨row, rfl⟩
  exact aa.some rfl
 have fin:∀(row:List G) {b c:Bool},b=c→aa (some [G.l [row],G.t b]) fun g=>∃ row,g=[.l [row],.t c]:=fun row b c e=>aa.some ⟨row,by rw[e]⟩;have U:=QF s;have V:=QG s;have y:=QH h;have aB:=QI h;unfold Hr iV
 (dsimp +instances only[Aa,Ab,Ac,Ad,Ae,Af,Ag])
 refine aa.cE (zb s z) ?_
 (dsimp +instances only[Aa,Ab,Ac,Ad,Ae,Af,Ag])
 refine aa.test (fun g0=>?_) fun g0=>?_
 ·rw [aZ, decide_eq_true_eq] at g0
  exact fin _ (by rw[show bI s.size 14=false by rw[mw,ne_eq,cK]; omega]; rfl)
 rw[aZ,decide_eq_false_iff_not]at g0;rw[show bI s.size 14=true by rw[cK]; omega,dq];refine aa.test (fun g1=>?_) fun g1=>?_
 ·have g1 : aG 0 (fO s) = false := by simpa using g1
  have B:¬ 0≤fO s:=by rw[bx,decide_eq_false_iff_not]at g1; exact g1
  have M:eh s=s:=by unfold eh; rw[if_neg B]
  rw[g1,lF,Bool.or_false,M];refine aa.call (xf s h z) ?_;rintro _ ⟨i,rfl,N,_,_⟩
  (dsimp +instances only[Aa,Ab,Ac,Ad,Ae,Af,Ag])
  rw[N];refine aa.test (fun g2=>?_) fun g2=>?_
  ·have g2 : dE s = false := by simpa using g2
   exact fin _ (by rw[g2])
  ·have g2 : dE s = true := by simpa using g2
   refine aa.call (Bi s h z g2) ?_;rintro _ ⟨row,rfl⟩;exact fin _ (by rw[g2])
 have g1:aG 0 (fO s)=true:=by simpa using g1
 have B:0≤fO s:=by rw[bx,decide_eq_true_eq]at g1; exact g1
 rw[aeZ B,g1,fp,dq];refine aa.call (xf (bX s) aB (by omega)) ?_;rintro _ ⟨i,rfl,_,O,_⟩
 (dsimp +instances only[Aa,Ab,Ac,Ad,Ae,Af,Ag])
 rw[O];refine aa.test (fun g2=>?_) fun g2=>?_
 ·rw [g2, dq]
  refine aa.cE (xe (eh s) y (by omega)) ?_
  (dsimp +instances only[Aa,Ab,Ac,Ad,Ae,Af,Ag])
  refine aa.test (fun g3=>?_) fun g3=>?_
  ·refine aa.call (Bi (bX s) aB (by omega) g2) ?_
   rintro _ ⟨row,rfl⟩;exact fin _ (by rw[g3]; rfl)
  rw[g3,fp];refine aa.call (xf (eh s) y (by omega)) ?_;rintro _ ⟨R,rfl,I,_,_⟩
  (dsimp +instances only[Aa,Ab,Ac,Ad,Ae,Af,Ag])
  rw[I];refine aa.test (fun g4=>?_) fun g4=>?_
  ·have g4 : dE (eh s) = false := by simpa using g4
   exact fin _ (by rw[g4]; rfl)
  have v:dE (eh s)=true:=by simpa using g4
  rw[v,dq];refine aa.call (Bi (eh s) y (by omega) v) ?_;rintro _ ⟨row,rfl⟩
  (dsimp +instances only[Aa,Ab,Ac,Ad,Ae,Af,Ag])
  simp only[dW];refine aa.test (fun c1=>fin _ (by unfold gR; rw[show ((bX s).data.toList==[112])=true from c1]; rfl)) fun c1=>?_;refine aa.test (fun c2=>fin _ (by unfold gR; rw[show ((bX s).data.toList==[109])=true from c2]; simp)) fun c2=>?_;refine aa.test (fun c3=>fin _ (by unfold gR; rw[show ((bX s).data.toList==[109,109])=true from c3]; simp)) fun c3=>?_;refine aa.test (fun q=>fin _ (by unfold gR; rw[show ((bX s).data.toList==[97,109])=true from q]; simp)) fun q=>?_;have J:gR (bX s)=((af (bX s).size 1&&fm ((bX s).data.toList.getD 0 0))||lx (bX s)):=by
   unfold gR;rw[show ((bX s).data.toList==[112])=false from c1,show ((bX s).data.toList==[109])=false from c2,show ((bX s).data.toList==[109,109])=false from c3,show ((bX s).data.toList==[97,109])=false from q];simp only[fp]
  rw[J];refine aa.test (fun d=>?_) fun d=>?_
  ·have d : (bX s).size = 1 := by simp only [beq_iff_eq] at d; omega
   rw[show af (bX s).size 1=true by rw[d]; rfl,dq];refine aa.cE (QO (bX s) d) ?_
   (dsimp +instances only[Aa,Ab,Ac,Ad,Ae,Af,Ag])
   refine aa.test (fun u=>fin _ (by rw[u]; rfl)) fun u=>?_;rw[u,fp];refine aa.cE (xe (bX s) aB (by omega)) ?_
   (dsimp +instances only[Aa,Ab,Ac,Ad,Ae,Af,Ag])
   exact aa.test (fun k=>fin _ (by rw[k])) fun k=>fin _ (by rw[k])
  ·have d : (bX s).size ≠ 1 := by simp only [beq_eq_false_iff_ne, ne_eq] at d; omega
   rw[show af (bX s).size 1=false by rw[mw,ne_eq,SX]; exact d,lF,fp];refine aa.cE (xe (bX s) aB (by omega)) ?_
   (dsimp +instances only[Aa,Ab,Ac,Ad,Ae,Af,Ag])
   exact aa.test (fun k=>fin _ (by rw[k])) fun k=>fin _ (by rw[k])
 ·rw [g2, lF, fp]
  refine aa.call (xf (eh s) y (by omega)) ?_;rintro _ ⟨R,rfl,I,_,_⟩
  (dsimp +instances only[Aa,Ab,Ac,Ad,Ae,Af,Ag])
  rw[I];refine aa.test (fun g4=>?_) fun g4=>?_
  ·have g4 : dE (eh s) = false := by simpa using g4
   exact fin _ (by rw[g4]; rfl)
  have v:dE (eh s)=true:=by simpa using g4
  rw[v,dq];refine aa.call (Bi (eh s) y (by omega) v) ?_;rintro _ ⟨row,rfl⟩
  (dsimp +instances only[Aa,Ab,Ac,Ad,Ae,Af,Ag])
  simp only[dW];refine aa.test (fun c1=>fin _ (by unfold gR; rw[show ((bX s).data.toList==[112])=true from c1]; rfl)) fun c1=>?_;refine aa.test (fun c2=>fin _ (by unfold gR; rw[show ((bX s).data.toList==[109])=true from c2]; simp)) fun c2=>?_;refine aa.test (fun c3=>fin _ (by unfold gR; rw[show ((bX s).data.toList==[109,109])=true from c3]; simp)) fun c3=>?_;refine aa.test (fun q=>fin _ (by unfold gR; rw[show ((bX s).data.toList==[97,109])=true from q]; simp)) fun q=>?_;have J:gR (bX s)=((af (bX s).size 1&&fm ((bX s).data.toList.getD 0 0))||lx (bX s)):=by
   unfold gR;rw[show ((bX s).data.toList==[112])=false from c1,show ((bX s).data.toList==[109])=false from c2,show ((bX s).data.toList==[109,109])=false from c3,show ((bX s).data.toList==[97,109])=false from q];simp only[fp]
  rw[J];refine aa.test (fun d=>?_) fun d=>?_
  ·have d : (bX s).size = 1 := by simp only [beq_iff_eq] at d; omega
   rw[show af (bX s).size 1=true by rw[d]; rfl,dq];refine aa.cE (QO (bX s) d) ?_
   (dsimp +instances only[Aa,Ab,Ac,Ad,Ae,Af,Ag])
   refine aa.test (fun u=>fin _ (by rw[u]; rfl)) fun u=>?_;rw[u,fp];refine aa.cE (xe (bX s) aB (by omega)) ?_
   (dsimp +instances only[Aa,Ab,Ac,Ad,Ae,Af,Ag])
   exact aa.test (fun k=>fin _ (by rw[k])) fun k=>fin _ (by rw[k])
  ·have d : (bX s).size ≠ 1 := by simp only [beq_eq_false_iff_ne, ne_eq] at d; omega
   rw[show af (bX s).size 1=false by rw[mw,ne_eq,SX]; exact d,lF,fp];refine aa.cE (xe (bX s) aB (by omega)) ?_
   (dsimp +instances only[Aa,Ab,Ac,Ad,Ae,Af,Ag])
   exact aa.test (fun k=>fin _ (by rw[k])) fun k=>fin _ (by rw[k])
theorem QP(s:ByteArray)(c:UInt8)(k:s.size≤900000):l8 [.s s,.s (⟨#[c]⟩:ByteArray)]=some [.l ((cM c s.data.toList).map fun y=>[G.s (aU y)])]:=by
 have d:=zU c s.data.toList;have g:=Et c s.data.toList;cases h:cM c s.data.toList with
 |nil=>exact(sM c _ h).elim
 | cons x xs =>
  rw[h]at d g;have:=Qz c x xs g (by rw[d,←fU]; omega);rw[d,l9]at this;exact this
/-! ### d -/
theorem QQ(b:UInt8):eJ b=fm b:=rfl
theorem ae5(s:ByteArray)(h0:0<s.size)(d:s.size≤900000):aa (kF [.s s,.s dQ]) fun g=>∃ t,g=[.s t]∧(t.toList==(⟨#[]⟩:ByteArray).toList)=s.data.toList.all eJ:=by
 unfold kF
 (dsimp +instances only[Aa,Ab,Ac,Ad,Ae,Af,Ag])
 refine aa.pos ?_ (aa.some ⟨_,rfl,?_⟩)
 ·simp only [ar, cK, dM]
  exact⟨by rfl,by decide,by decide,by omega,by omega⟩
 ·have e : (trimB s dQ).toList = mA s.data.toList dQ.data.toList := by rw [dW]; simp [trimB]
  rw[e,dW,gj,beq_iff_eq];show mA s.data.toList dQ.data.toList=[]↔_
  rw[HP,bO];exact⟨fun h b hb=>by rw[QQ,←QK]; exact h b hb,fun h b hb=>by rw[QK,←QQ]; exact h b hb⟩
def gb(l:List UInt8):Bool:=match l with|45::_=>true|_=>false
def e9(l:List UInt8):List UInt8:=match l with|45::t=>t|t=>t
theorem QR(k:Nat)(l:List UInt8):kD k l=if e9 l≠[]∧(e9 l).length≤k∧(e9 l).all eJ=true∧((e9 l).head? ≠ some 48∨(e9 l=[48]∧gb l=false)) then some (bif gb l then -(b9 (e9 l):Int) else (b9 (e9 l):Int)) else none:=by
 unfold kD;split
 ·rename_i t
  have d:e9 (45::t)=t:=rfl;have g:gb (45::t)=true:=rfl;rw[d,g];simp
 ·rename_i h
  have d:e9 l=l:=by
   unfold e9;split
   ·exact(h _ rfl).elim
   ·rfl
  have g:gb l=false:=by
   unfold gb;split
   ·exact(h _ rfl).elim
   ·rfl
  rw[d,g];simp
theorem QS(l:List UInt8):(e9 l).length≤l.length:=by
 unfold e9;split
 ·simp
 ·exact aH _
theorem QT(s:ByteArray)(q:s.size≤900000):wB [.s s,.s (⟨#[45]⟩:ByteArray)]=some [.t (gb s.data.toList)]:=by
 refine aa.toEq ?_;unfold wB
 (dsimp +instances only[Aa,Ab,Ac,Ad,Ae,Af,Ag])
 have h1:(⟨#[45]⟩:ByteArray).size=1:=rfl;have d:=fU s;rw[h1];cases g:s.data.toList with
 | nil =>
  rw[g]at d;simp only[pA]at d;refine aa.neg (by rw[bx,decide_eq_false_iff_not]; omega) (aa.some ?_);rfl
 | cons b r =>
  rw[g]at d;simp only[cw]at d;refine aa.pos (by rw[bx,decide_eq_true_eq]; omega) (aa.pos (by rw[ar,eY,bx,decide_eq_true_eq,decide_eq_true_eq]; omega) (aa.some ?_));rw[dW,qV,dW,g];show [G.t ([b]==[45])]=[G.t (gb (b::r))]
  by_cases hb:b=45
  ·subst hb
   rfl
  ·have k:gb (b::r)=false:=by
    unfold gb;split
    ·rename_i h
     cases h;exact(hb rfl).elim
    ·rfl
   rw[k,show ([b]==[45])=false by simpa using hb]
theorem QU(s:ByteArray):(bif gb s.data.toList then s.extract 1 s.size else s)=aU (e9 s.data.toList):=by
 cases d:s.data.toList with
 | nil =>
  show s=aU []
  rw[←l9 s,d]
 | cons b r =>
  by_cases hb:b=45
  ·subst hb
   show s.extract 1 s.size=aU r
   refine xb ?_;rw[aii,d,eL];rfl
  ·have g:e9 (b::r)=b::r:=by
    unfold e9;split
    ·rename_i h
     cases h;exact(hb rfl).elim
    ·rfl
   have k:gb (b::r)=false:=by
    unfold gb;split
    ·rename_i h
     cases h;exact(hb rfl).elim
    ·rfl
   rw[g,k,←d,l9];rfl
theorem ae6(s:ByteArray)(q:s.size≤900000):Aq [.s s,.s (⟨#[45]⟩:ByteArray)]=some [.s (aU (e9 s.data.toList)),.t (gb s.data.toList)]:=by
 refine aa.toEq ?_;unfold Aq
 (dsimp +instances only[Aa,Ab,Ac,Ad,Ae,Af,Ag])
 refine aa.call (P:=fun g=>g=[.s (aU (e9 s.data.toList)),.t (gb s.data.toList)]) ?_ ?_
 ·unfold FD
  (dsimp +instances only[Aa,Ab,Ac,Ad,Ae,Af,Ag])
  refine aa.cE (QT s q) ?_
  (dsimp +instances only[Aa,Ab,Ac,Ad,Ae,Af,Ag])
  have h1:(⟨#[45]⟩:ByteArray).size=1:=rfl;rw[h1];have ha:=QU s;cases d:gb s.data.toList with
  | false =>
   rw[d]at ha;refine aa.pos rfl (aa.some ?_);rw[←ha];rfl
  | true =>
   rw[d]at ha;have h:=fU s;have u:0<s.size:=by
    cases k:s.data.toList with
    |nil=>rw[k]at d; cases d
    |cons b r=>rw[k]at h; simp only[cw]at h; omega
   refine aa.neg rfl (aa.pos (by rw[ar,eY,bx,decide_eq_true_eq,decide_eq_true_eq]; omega) (aa.some ?_));rw[←ha];rfl
 ·rintro _ rfl
  exact aa.some rfl
theorem ae7(s:ByteArray)(J:s.size≤900000):aa (Ar [.s s,.i 15]) fun g=>∃ n,g=[.i n,.t (kD 15 s.data.toList).isSome]∧∀ v,kD 15 s.data.toList=some v→n=v:=by
 have B:=QS s.data.toList;have O:=fU s;rw[QR];generalize M:gb s.data.toList=neg;generalize N:e9 s.data.toList=t at B;have no:∀{p:Prop} [Decidable p] (v:Int),¬ p→aa (some [G.i 0,G.t false]) fun g=>∃ n,g=[.i n,.t (if p then some v else none).isSome]∧∀ w,(if p then some v else none)=some w→n=w:=fun v k=>by
  rw[if_neg k];exact aa.some ⟨0,rfl,fun w hw=>by cases hw⟩
 have y:=ae6 s J;rw[M,N]at y;unfold Ar
 (dsimp +instances only[Aa,Ab,Ac,Ad,Ae,Af,Ag])
 refine aa.cE y ?_
 (dsimp +instances only[Aa,Ab,Ac,Ad,Ae,Af,Ag])
 rw[oX,dW,eM,eL];refine aa.test (fun g1=>no _ fun h=>h.1 (by simpa using g1)) fun g1=>?_;have g1:t≠[]:=by simpa using g1
 have k:0<t.length:=List.length_pos_iff.2 g1;refine aa.test (fun g2=>no _ fun h=>by rw[aZ,decide_eq_true_eq]at g2; have:=h.2.1; omega) fun g2=>?_;rw[aZ,decide_eq_false_iff_not]at g2;have g2:t.length≤15:=by omega
 refine aa.call (ae5 (aU t) (by rw[eM]; omega) (by rw[eM]; omega)) ?_;rintro _ ⟨u,rfl,hu⟩;rw[eL]at hu;have hu:(u.toList==[])=t.all eJ:=by rw[dW (⟨#[]⟩:ByteArray)]at hu; exact hu
 (dsimp +instances only[Aa,Ab,Ac,Ad,Ae,Af,Ag])
 rw[hu];refine aa.test (fun g3=>no _ fun h=>by rw[h.2.2.1]at g3; cases g3) fun g3=>?_;have g3:t.all eJ=true:=by simpa using g3
 refine aa.p ?_;have q:nl [.s (aU t)]=some [.i (b9 t:Int)]:=by
  refine aa.toEq ?_;unfold nl vL
  (dsimp +instances only[Aa,Ab,Ac,Ad,Ae,Af,Ag])
  refine aa.pos (by rw[eM,cK]; omega) ?_;rw[eL,Nd g1 g3];exact aa.some rfl
 have R:=Ng 15 t g3 g2;have fin:∀{p:Prop} [Decidable p],p→aa (bif neg then (bif ay (0-(b9 t:Int)) then some [G.i (0-(b9 t:Int)),G.t true] else none) else some [G.i (b9 t:Int),G.t true]) fun g=>∃ n,g=[.i n,.t (if p then some (bif neg then -(b9 t:Int) else (b9 t:Int)) else none).isSome]∧∀ w,(if p then some (bif neg then -(b9 t:Int) else (b9 t:Int)) else none)=some w→n=w:=fun k=>by
  rw[if_pos k];cases neg with
  |true=>exact aa.pos rfl (aa.pos (by simp only[ay,sl]; omega) (aa.some ⟨_,rfl,fun w hw=>by cases hw; simp⟩))
  |false=>exact aa.neg rfl (aa.some ⟨_,rfl,fun w hw=>by cases hw; rfl⟩)
 have z:((((t.getD 0 0).toNat:Nat):Int)==48)=(t.head? == some 48):=by
  cases t with
  |nil=>exact(g1 rfl).elim
  | cons b r =>
   show (((b.toNat:Nat):Int)==48)=(some b==some 48)
   rw[gj,beq_iff_eq,beq_iff_eq];constructor
   ·intro e
    rw[show b=48 from UInt8.toNat_inj.1 (by show b.toNat=48; omega)]
   ·intro e
    cases e;rfl
 rw[z];refine aa.test (fun g4=>?_) fun g4=>?_
 ·have g4 : t.head? = some 48 := by simpa using g4
  refine aa.test (fun g5=>no _ fun h=>?_) fun g5=>?_
  ·rw [aZ, decide_eq_true_eq] at g5
   rcases h.2.2.2 with d|⟨d,_⟩
   ·exact d g4
   ·rw [d] at g5
    simp at g5
  ·rw [aZ, decide_eq_false_iff_not] at g5
   refine aa.test (fun g6=>no _ fun h=>?_) fun g6=>?_
   ·rcases h.2.2.2 with d | ⟨_, d⟩
    ·exact d g4
    ·rw [d] at g6
     cases g6
   ·refine aa.call (aa.eq q) ?_
    rintro _ rfl;have I:t=[48]:=by
     cases t with
     |nil=>exact(g1 rfl).elim
     | cons b r =>
      have:r=[]:=List.eq_nil_of_length_eq_zero (by simp at g5; omega);subst this;simpa using g4
    exact fin ⟨g1,g2,g3,.inr ⟨I,g6⟩⟩
 ·have g4 : t.head? ≠ some 48 := by simpa using g4
  refine aa.cE q ?_;exact fin ⟨g1,g2,g3,.inl g4⟩
theorem ae8(s set:ByteArray)(p:UInt8→Bool)(v:∀ b:UInt8,ak (fI set.data.toList b) 0 = !p b)(J:s.size≤900000):AD [.s s,.s set]=some [.t (s.data.toList.all p)]:=by
 refine aa.toEq ?_;unfold AD
 (dsimp +instances only[Aa,Ab,Ac,Ad,Ae,Af,Ag])
 have y:=fU s;refine aa.loop (P:=fun c g=>(c=1∧s.data.toList.all p=true∧g=[])∨(c=0∧s.data.toList.all p=false∧g=[.t false])) ?_ rfl ?_
 ·refine ((jU (σ:=Unit) (fun _ i=>[.s s,.s set,.i ((s.size:Nat):Int),.i (i:Int)]) s.size (fun _=>(1,[])) (fun _ i=>(s.data.toList.take i).all p=true)
   (fun c g=>c=0∧s.data.toList.all p=false∧g=[.t false]) ?_ ?_ s.size () 0 (by omega) rfl).to (by omega)).mono ?_
  ·rintro _ i d hi
   have q:i<s.data.toList.length:=by omega
   have z:s.data.toList.getD i 0=s.data.toList[i]:=by rw[b_,bd q]; rfl
   have u:s.data.toList.take (i+1)=s.data.toList.take i++[s.data.toList[i]]:=by rw[nN,bd q]; rfl
   have hm:s.data.toList[i]∈s.data.toList:=iJ q;unfold AB
   (dsimp +instances only[Aa,Ab,Ac,Ad,Ae,Af,Ag])
   simp only[bp,z];generalize hb:s.data.toList[i]=b at u hm;refine aa.p (aa.p ?_);have B:sO [.s set,.i ((b.toNat:Nat):Int)]=some [.i (fI set.data.toList b)]:=by
    show some [G.i (fI set.data.toList ((b.toNat:Nat):Int).toNat.toUInt8)]=_
    rw[bp,show b.toNat.toUInt8=b from I9]
   refine aa.cE B ?_
   (dsimp +instances only[Aa,Ab,Ac,Ad,Ae,Af,Ag])
   rw[v];refine aa.test (fun k=>?_) fun k=>?_
   ·have k : p b = false := by simpa using k
    refine aa.some (.inr ⟨0,_,rfl,rfl,?_,rfl⟩);cases I:s.data.toList.all p with
    |false=>rfl
    |true=>rw[bO.1 I b hm]at k; cases k
   ·have k : p b = true := by simpa using k
    refine aa.p (aa.some (.inl ⟨(),rfl,?_⟩));rw[u,nO,d];simp[k]
  ·rintro _ d
   unfold AB
   (dsimp +instances only[Aa,Ab,Ac,Ad,Ae,Af,Ag])
   exact aa.n (aa.some rfl)
  ·rintro c g (⟨_, d, rfl, rfl⟩ | h)
   ·rw [y, iK] at d
    exact .inl ⟨rfl,d,rfl⟩
   ·exact .inr h
 ·rintro c g (⟨rfl, d, rfl⟩ | ⟨rfl, d, rfl⟩)
  ·rw [d]
   exact aa.neg rfl (aa.some rfl)
  ·rw [d]
   exact aa.pos rfl (aa.some rfl)
theorem ae9(b:UInt8):ak (fI dQ.data.toList b) 0 = !eJ b:=by
 have:=oY (fun b=>ak (fI dQ.data.toList b) 0 == !eJ b) (by kernel_rfl) b;simpa using this
theorem ae_(s:ByteArray)(q:s.size≤900000):AA [.s s,.s (⟨#[45]⟩:ByteArray)]=some [.s (aU (e9 s.data.toList))]:=by
 refine aa.toEq ?_;unfold AA
 (dsimp +instances only[Aa,Ab,Ac,Ad,Ae,Af,Ag])
 refine aa.call (P:=fun g=>g=[.s (aU (e9 s.data.toList))]) ?_ ?_
 ·unfold FQ
  (dsimp +instances only[Aa,Ab,Ac,Ad,Ae,Af,Ag])
  refine aa.cE (QT s q) ?_
  (dsimp +instances only[Aa,Ab,Ac,Ad,Ae,Af,Ag])
  have h1:(⟨#[45]⟩:ByteArray).size=1:=rfl;rw[h1];have ha:=QU s;cases d:gb s.data.toList with
  | false =>
   rw[d]at ha;refine aa.neg rfl (aa.some ?_);rw[←ha];rfl
  | true =>
   rw[d]at ha;have h:=fU s;have t:0<s.size:=by
    cases k:s.data.toList with
    |nil=>rw[k]at d; cases d
    |cons b r=>rw[k]at h; simp only[cw]at h; omega
   refine aa.pos rfl (aa.pos (by rw[ar,eY,bx,decide_eq_true_eq,decide_eq_true_eq]; omega) (aa.some ?_));rw[←ha];rfl
 ·rintro _ rfl
  exact aa.some rfl
theorem ae'(l:List UInt8):l=bif gb l then 45::e9 l else e9 l:=by
 unfold gb e9;split
 ·rfl
 ·rfl
theorem afa(t:List UInt8)(neg:Bool)(h0:t≠[])(h:t.all eJ=true) :
  (eu (bif neg then -(b9 t:Int) else (b9 t:Int))==(bif neg then 45::t else t))=decide (t.head? ≠ some 48∨(t=[48]∧neg=false)):=by
 have k:=canon t.length t rfl h0 h;have u:jb (b9 t)=t→t.head? = some 48→t=[48]:=fun e d=>by
  have:=M9 (b9 t) (by rw[e]; exact d);rw[this,lq (by omega)]at e;exact e.symm
 rw[gj,beq_iff_eq,decide_eq_true_eq];cases neg with
 | false =>
  have e:eu (bif false then -(b9 t:Int) else (b9 t:Int))=jb (b9 t):=by
   show eu (b9 t:Int)=_
   unfold eu;rw[if_neg (by omega)];simp
  rw[e];constructor
  ·intro g
   by_cases d:t.head? = some 48
   ·exact .inr ⟨u g d,rfl⟩
   ·exact .inl d
  ·rintro (d | ⟨d, _⟩)
   ·exact k (.inl d)
   ·exact k (.inr d)
 | true =>
  show eu (-(b9 t:Int))=45::t↔_
  by_cases q:b9 t=0
  ·rw [q]
   have e:eu (-((0:Nat):Int))=[48]:=by
    unfold eu;rw[if_neg (by omega),show (-((0:Nat):Int)).toNat=0 from rfl,lq (by omega)];rfl
   rw[e];constructor
   ·intro g
    simp at g
   ·rintro (d | ⟨_, d⟩)
    ·have := k (.inl d)
     rw[q,lq (by omega)]at this;exact(d (by rw[←this]; rfl)).elim
    ·cases d
  ·have e:eu (-(b9 t:Int))=45::jb (b9 t):=by
    unfold eu;rw[if_pos (by omega)];simp
   rw[e];constructor
   ·intro g
    have g:jb (b9 t)=t:=by simpa using g
    refine .inl fun d=>?_;have:=M9 (b9 t) (by rw[g]; exact d);exact q this
   ·rintro (d | ⟨_, d⟩)
    ·rw[k (.inl d)]
    ·cases d
theorem afb(s:ByteArray)(B:s.size≤900000):aa (AE [.s s,.i 15]) fun g=>∃ n,g=[.i n,.t (kD 15 s.data.toList).isSome]∧∀ v,kD 15 s.data.toList=some v→n=v:=by
 have y:=QS s.data.toList;have J:=fU s;have d:=ae' s.data.toList;have u:=ae_ s B;rw[QR];generalize M:gb s.data.toList=neg at d;generalize N:e9 s.data.toList=t at y d u;have no:∀{p:Prop} [Decidable p] (v:Int),¬ p→aa (some [G.i 0,G.t false]) fun g=>∃ n,g=[.i n,.t (if p then some v else none).isSome]∧∀ w,(if p then some v else none)=some w→n=w:=fun v I=>by
  rw[if_neg I];exact aa.some ⟨0,rfl,fun w hw=>by cases hw⟩
 unfold AE
 (dsimp +instances only[Aa,Ab,Ac,Ad,Ae,Af,Ag])
 refine aa.cE u ?_
 (dsimp +instances only[Aa,Ab,Ac,Ad,Ae,Af,Ag])
 rw[oX,eM];refine aa.test (fun g1=>no _ fun h=>h.1 (by rw[dW]at g1; simpa using g1)) fun g1=>?_;have g1:t≠[]:=by rw[dW]at g1; simpa using g1
 refine aa.test (fun g2=>no _ fun h=>by rw[aZ,decide_eq_true_eq]at g2; have:=h.2.1; omega) fun g2=>?_;rw[aZ,decide_eq_false_iff_not]at g2;have g2:t.length≤15:=by omega
 refine aa.cE (ae8 (aU t) dQ eJ ae9 (by rw[eM]; omega)) ?_
 (dsimp +instances only[Aa,Ab,Ac,Ad,Ae,Af,Ag])
 rw[eL];refine aa.test (fun g3=>no _ fun h=>by rw[h.2.2.1]at g3; cases g3) fun g3=>?_;have g3:t.all eJ=true:=by simpa using g3
 have O:s.data.toList.length≤16:=by
  rw[d];cases neg with
  |true=>show (45::t).length≤16; simp only[cw]; omega
  |false=>show t.length≤16; omega
 have k:=Ng 15 t g3 g2;have z:nl [.s s]=some [.i (bif neg then -(b9 t:Int) else (b9 t:Int))]:=by
  refine aa.toEq ?_;unfold nl vL
  (dsimp +instances only[Aa,Ab,Ac,Ad,Ae,Af,Ag])
  refine aa.pos (by rw[cK]; omega) ?_;rw[d];cases neg with
  | true =>
   show aa ((Lib.atoi (45::t)).map fun n=>[G.i n]) _
   rw[Yn g1 g3];exact aa.some rfl
  | false =>
   show aa ((Lib.atoi t).map fun n=>[G.i n]) _
   rw[Nd g1 g3];exact aa.some rfl
 refine aa.cE z ?_
 (dsimp +instances only[Aa,Ab,Ac,Ad,Ae,Af,Ag])
 have hb : -9223372036854775808≤(bif neg then -(b9 t:Int) else (b9 t:Int))∧(bif neg then -(b9 t:Int) else (b9 t:Int))≤9223372036854775807:=by
  cases neg with
  |true=>show -9223372036854775808 ≤ -(b9 t:Int) ∧ -(b9 t:Int)≤9223372036854775807; omega
  |false=>show -9223372036854775808≤(b9 t:Int)∧(b9 t:Int)≤9223372036854775807; omega
 refine aa.cE (xc _ hb.1 hb.2) ?_;refine aa.some ⟨(bif neg then -(b9 t:Int) else (b9 t:Int)),?_,?_⟩
 ·(dsimp +instances only [Aa,Ab,Ac,Ad,Ae,Af,Ag])
  rw[HD,oX,dW,d,afa t neg g1 g3];congr 3;by_cases q:t.head? ≠ some 48∨(t=[48]∧neg=false)
  ·rw [if_pos ⟨g1, g2, g3, q⟩, decide_eq_true q]
   rfl
  ·rw [if_neg (fun h => q h.2.2.2), decide_eq_false q]
   rfl
 ·intro v k
  split at k
  ·cases k
   rfl
  ·cases k
/-! ### Words -/
def gd(W:List (List UInt8)):Bool:=W.all fun y => !y.isEmpty
def dJ(W:List (List UInt8)):List (List G):=W.map fun y=>[G.s (aU y)]
theorem iW(W:List (List UInt8)):(dJ W).length=W.length:=by simp[dJ]
theorem qD(W:List (List UInt8))(i:Nat)(hi:i<W.length):(dJ W).getD i []=[G.s (aU W[i])]:=by
 unfold dJ;rw[b_,bR,bd hi];rfl
theorem qE(y:List UInt8):((aU y).toList==(⟨#[]⟩:ByteArray).toList)=y.isEmpty:=by
 rw[oX,dW];cases y<;>rfl
theorem QV(c:UInt8)(l:List UInt8):(cM c l).length≤l.length+1:=Eu c l
theorem afc(s:ByteArray)(v:s.size≤900000):Ap [.s s]=some (bif gd (cM 32 s.data.toList) then [.l (dJ (cM 32 s.data.toList)),.t true] else [.l [],.t false]):=by
 refine aa.toEq ?_;have hw:=QV 32 s.data.toList;have B:=fU s;unfold Ap
 (dsimp +instances only[Aa,Ab,Ac,Ad,Ae,Af,Ag])
 refine aa.cE (QP s 32 v) ?_;generalize cM 32 s.data.toList=W at hw;show aa (bh true (cu wA [.l (dJ W),.l (dJ W),.i (((dJ W).length:Nat):Int),.i 0]) _) _
 rw[iW];refine aa.loop (P:=fun c g=>(c=1∧gd W=true∧g=[.l (dJ W)])∨(c=0∧gd W=false∧g=[.l [],.t false])) ?_ rfl ?_
 ·refine ((jU (σ:=Unit) (fun _ i=>[.l (dJ W),.l (dJ W),.i ((W.length:Nat):Int),.i (i:Int)]) W.length (fun _=>(1,[.l (dJ W)])) (fun _ i=>gd (W.take i)=true)
   (fun c g=>c=0∧gd W=false∧g=[.l [],.t false]) ?_ ?_ W.length () 0 (by omega) rfl).to (by omega)).mono ?_
  ·rintro _ i d hi
   have q:W.take (i+1)=W.take i++[W[i]]:=by rw[nN,bd hi]; rfl
   have hm:W[i]∈W:=iJ hi;have u:=qD W i hi;generalize W[i]=y at q hm u;unfold wA
   (dsimp +instances only[Aa,Ab,Ac,Ad,Ae,Af,Ag])
   rw[iW];refine aa.p (aa.p ?_);simp only[bp,u]
   (dsimp +instances only[Aa,Ab,Ac,Ad,Ae,Af,Ag])
   rw[qE];refine aa.test (fun k=>?_) fun k=>?_
   ·refine aa.some (.inr ⟨0, _, rfl, rfl, ?_, rfl⟩)
    cases z:gd W with
    |false=>rfl
    | true =>
     have:=bO.1 z y hm;rw[k]at this;cases this
   ·refine aa.p (aa.some (.inl ⟨(), rfl, ?_⟩))
    unfold gd at d⊢;rw[q,nO,d];simp[k]
  ·rintro _ d
   unfold wA
   (dsimp +instances only[Aa,Ab,Ac,Ad,Ae,Af,Ag])
   exact aa.n (aa.some rfl)
  ·rintro c g (⟨_, d, rfl, rfl⟩ | h)
   ·rw [iK] at d
    exact .inl ⟨rfl,d,rfl⟩
   ·exact .inr h
 ·rintro c g (⟨rfl, d, rfl⟩ | ⟨rfl, d, rfl⟩)
  ·rw [d]
   exact aa.neg rfl (aa.some rfl)
  ·rw [d]
   exact aa.pos rfl (aa.some rfl)
theorem afd(W:List (List UInt8))(hw:W.length≤900001):Ay [.l (dJ W),.s (⟨#[]⟩:ByteArray)]=some [.t (!gd W)]:=by
 refine aa.toEq ?_;unfold Ay
 (dsimp +instances only[Aa,Ab,Ac,Ad,Ae,Af,Ag])
 refine aa.call (P:=fun g=>∃ k:Int,g=[.i k]∧aG 0 k = !gd W) ?_ ?_
 ·unfold qu
  (dsimp +instances only[Aa,Ab,Ac,Ad,Ae,Af,Ag])
  rw[iW];refine aa.loop (P:=fun c g=>(c=1∧gd W=true∧g=[])∨(c=0∧gd W=false∧∃ i:Nat,g=[.i (i:Int)])) ?_ rfl ?_
  ·refine ((jU (σ:=Unit) (fun _ i=>[.l (dJ W),.s (⟨#[]⟩:ByteArray),.i ((W.length:Nat):Int),.i (i:Int)]) W.length (fun _=>(1,[])) (fun _ i=>gd (W.take i)=true)
    (fun c g=>c=0∧gd W=false∧∃ i:Nat,g=[.i (i:Int)]) ?_ ?_ W.length () 0 (by omega) rfl).to (by omega)).mono ?_
   ·rintro _ i d hi
    have u:W.take (i+1)=W.take i++[W[i]]:=by rw[nN,bd hi]; rfl
    have hm:W[i]∈W:=iJ hi;have v:=qD W i hi;generalize W[i]=y at u hm v;unfold sY
    (dsimp +instances only[Aa,Ab,Ac,Ad,Ae,Af,Ag])
    rw[iW];refine aa.p (aa.p ?_);simp only[bp,v]
    (dsimp +instances only[Aa,Ab,Ac,Ad,Ae,Af,Ag])
    have he:((⟨#[]⟩:ByteArray).toList==(aU y).toList)=y.isEmpty:=by
     rw[←qE,gj,beq_iff_eq,beq_iff_eq];exact eq_comm
    rw[he];refine aa.test (fun q=>?_) fun q=>?_
    ·refine aa.some (.inr ⟨0, _, rfl, rfl, ?_, i, rfl⟩)
     cases z:gd W with
     |false=>rfl
     | true =>
      have:=bO.1 z y hm;rw[q]at this;cases this
    ·refine aa.p (aa.some (.inl ⟨(), rfl, ?_⟩))
     unfold gd at d⊢;rw[u,nO,d];simp[q]
   ·rintro _ d
    unfold sY
    (dsimp +instances only[Aa,Ab,Ac,Ad,Ae,Af,Ag])
    exact aa.n (aa.some rfl)
   ·rintro c g (⟨_, d, rfl, rfl⟩ | h)
    ·rw [iK] at d
     exact .inl ⟨rfl,d,rfl⟩
    ·exact .inr h
  ·rintro c g (⟨rfl, d, rfl⟩ | ⟨rfl, d, i, rfl⟩)
   ·rw [d]
    exact aa.neg rfl (aa.some ⟨-1,rfl,rfl⟩)
   ·rw [d]
    exact aa.pos rfl (aa.some ⟨(i:Int),rfl,by rw[bx,decide_eq_true (by omega)]; rfl⟩)
 ·rintro _ ⟨k, rfl, hk⟩
  refine aa.some ?_
  (dsimp +instances only[Aa,Ab,Ac,Ad,Ae,Af,Ag])
  rw[hk]
theorem afe(s:ByteArray)(d:s.size≤900000):Az [.s s]=some [.l (dJ (cM 32 s.data.toList)),.t (gd (cM 32 s.data.toList))]:=by
 refine aa.toEq ?_;have hw:=QV 32 s.data.toList;have g:=fU s;unfold Az
 (dsimp +instances only[Aa,Ab,Ac,Ad,Ae,Af,Ag])
 refine aa.cE (QP s 32 d) ?_
 (dsimp +instances only[Aa,Ab,Ac,Ad,Ae,Af,Ag])
 refine aa.cE (afd _ (by omega)) ?_;refine aa.some ?_
 (dsimp +instances only[Aa,Ab,Ac,Ad,Ae,Af,Ag])
 simp only[Bool.not_not];rfl
def fC(W:List (List UInt8)):Bool:=W.all fun y=>(kD 15 y).isSome
def gf(W:List (List UInt8)):List Int:=W.map fun y=>(kD 15 y).getD 0
def hJ(V:List Int):List (List G):=V.map fun n=>[G.i n]
theorem Bj(V:List Int):(hJ V).length=V.length:=by simp[hJ]
theorem HR(V:List Int)(n:Int):hJ V++[[G.i n]]=hJ (V++[n]):=by simp[hJ]
theorem aff(W:List (List UInt8))(hw:W.length≤900000)(I:∀ y∈W,y.length≤900000):Au [.l (dJ W)]=some (bif fC W then [.l (hJ (gf W)),.t true] else [.l [],.t false]):=by
 refine aa.toEq ?_;unfold Au
 (dsimp +instances only[Aa,Ab,Ac,Ad,Ae,Af,Ag])
 rw[iW];refine aa.loop (P:=fun c g=>(c=1∧fC W=true∧g=[.l (hJ (gf W))])∨(c=0∧fC W=false∧g=[.l [],.t false])) ?_ rfl ?_
 ·refine ((jU (σ:=Unit) (fun _ i=>[.l (hJ (gf (W.take i))),.l (dJ W),.i ((W.length:Nat):Int),.i (i:Int)]) W.length (fun _=>(1,[.l (hJ (gf W))])) (fun _ i=>fC (W.take i)=true)
   (fun c g=>c=0∧fC W=false∧g=[.l [],.t false]) ?_ ?_ W.length () 0 (by omega) rfl).to (by omega)).mono ?_
  ·rintro _ i d hi
   have u:W.take (i+1)=W.take i++[W[i]]:=by rw[nN,bd hi]; rfl
   have hm:W[i]∈W:=iJ hi;have z:=qD W i hi;have M:(hJ (gf (W.take i))).length=i:=by rw[Bj]; simp[gf]; omega
   have B:gf (W.take (i+1))=gf (W.take i)++[(kD 15 W[i]).getD 0]:=by rw[u]; unfold gf; rw[iI]; rfl
   generalize W[i]=y at u hm z B;unfold As
   (dsimp +instances only[Aa,Ab,Ac,Ad,Ae,Af,Ag])
   rw[iW];refine aa.p (aa.p ?_);simp only[bp,z]
   (dsimp +instances only[Aa,Ab,Ac,Ad,Ae,Af,Ag])
   have q:=ae7 (aU y) (by rw[eM]; exact I y hm);rw[eL]at q;refine aa.call q ?_;rintro _ ⟨n,rfl,q⟩
   (dsimp +instances only[Aa,Ab,Ac,Ad,Ae,Af,Ag])
   refine aa.test (fun k=>?_) fun k=>?_
   ·refine aa.some (.inr ⟨0, _, rfl, rfl, ?_, rfl⟩)
    cases J:fC W with
    |false=>rfl
    | true =>
     have:=bO.1 J y hm;rw[this]at k;cases k
   ·have k : (kD 15 y).isSome = true := by simpa using k
    obtain⟨v,he⟩:=tT.1 k;have:=q v he;subst this;refine aa.p (aa.p ?_);refine aa.p (aa.some (.inl ⟨(),?_,?_⟩))
    ·rw [HR, B, he]
     rfl
    ·unfold fC at d ⊢
     rw[u,nO,d];simp[k]
  ·rintro _ d
   unfold As
   (dsimp +instances only[Aa,Ab,Ac,Ad,Ae,Af,Ag])
   refine aa.n (aa.p (aa.some ?_));rw[iK]
  ·rintro c g (⟨_, d, rfl, rfl⟩ | h)
   ·rw [iK] at d
    exact .inl ⟨rfl,d,rfl⟩
   ·exact .inr h
 ·rintro c g (⟨rfl, d, rfl⟩ | ⟨rfl, d, rfl⟩)
  ·rw [d]
   exact aa.neg rfl (aa.p (aa.some rfl))
  ·rw [d]
   exact aa.pos rfl (aa.some rfl)
theorem afg(W:List (List UInt8))(hw:W.length≤900000)(M:∀ y∈W,y.length≤900000):aa (AG [.l (dJ W),.i 15]) fun g=>∃ V:List Int,g=[.l (hJ V),.t (fC W)]∧V.length=W.length∧(fC W=true→V=gf W):=by
 unfold AG
 (dsimp +instances only[Aa,Ab,Ac,Ad,Ae,Af,Ag])
 rw[iW];refine aa.loop (P:=fun c g=>c=0∧∃ V:List Int,g=[.l (hJ V),.t (fC W)]∧V.length=W.length∧(fC W=true→V=gf W)) ?_ rfl ?_
 ·refine ((jU (σ:=List Int) (fun V i=>[.l (hJ V),.i 15,.t (fC (W.take i)),.l (dJ W),.i ((W.length:Nat):Int),.i (i:Int)]) W.length (fun V=>(0,[.l (hJ V),.t (fC W)])) (fun V i=>V.length=i∧(fC (W.take i)=true→V=gf (W.take i)))
   (fun c g=>False) ?_ ?_ W.length [] 0 (by omega) ⟨rfl,fun _=>rfl⟩).to (by omega)).mono ?_
  ·rintro V i ⟨I, J⟩ hi
   have u:W.take (i+1)=W.take i++[W[i]]:=by rw[nN,bd hi]; rfl
   have hm:W[i]∈W:=iJ hi;have z:=qD W i hi;have O:(hJ V).length=i:=by rw[Bj,I]
   have B:gf (W.take (i+1))=gf (W.take i)++[(kD 15 W[i]).getD 0]:=by rw[u]; unfold gf; rw[iI]; rfl
   have ho:fC (W.take (i+1))=(fC (W.take i)&&(kD 15 W[i]).isSome):=by rw[u]; unfold fC; rw[nO,iG,aik,fG]
   generalize W[i]=y at hm z B ho;unfold AF
   (dsimp +instances only[Aa,Ab,Ac,Ad,Ae,Af,Ag])
   rw[iW];refine aa.p (aa.p ?_);simp only[bp,z]
   (dsimp +instances only[Aa,Ab,Ac,Ad,Ae,Af,Ag])
   have d:=afb (aU y) (by rw[eM]; exact M y hm);rw[eL]at d;refine aa.call d ?_;rintro _ ⟨n,rfl,d⟩
   (dsimp +instances only[Aa,Ab,Ac,Ad,Ae,Af,Ag])
   refine aa.p ?_;have fin:V.length+1=i+1∧(fC (W.take (i+1))=true→V++[n]=gf (W.take (i+1))):=by
    refine⟨by omega,fun h=>?_⟩;rw[ho,ar]at h;obtain⟨v,he⟩:=tT.1 h.2;rw[B,J h.1,d v he,he];rfl
   refine aa.test (fun k=>?_) fun k=>?_
   ·refine aa.p ?_
    refine aa.p (aa.some (.inl ⟨V++[n],?_,by simpa using fin⟩));rw[HR,ho,k];rfl
   ·refine aa.p ?_
    refine aa.p (aa.some (.inl ⟨V++[n],?_,by simpa using fin⟩));rw[HR,ho,k];rfl
  ·rintro V q
   unfold AF
   (dsimp +instances only[Aa,Ab,Ac,Ad,Ae,Af,Ag])
   refine aa.n (aa.p (aa.some ?_));rw[iK]
  ·rintro c g (⟨V, q, rfl, rfl⟩ | h)
   ·rw [iK] at q
    exact⟨rfl,V,rfl,q⟩
   ·exact h.elim
 ·rintro c g ⟨rfl, V, rfl, N⟩
  exact aa.p (aa.some ⟨V,rfl,N⟩)
def dt(L:List (List UInt8))(z:List UInt8):List UInt8:=L.flatMap (fun p=>p++[10])++z
theorem tH(p:List UInt8)(L:List (List UInt8))(z:List UInt8):dt (p::L) z=p++10::dt L z:=by simp[dt]
theorem Bk:∀(L:List (List UInt8)) (z:List UInt8),eR (L++[z]) [10]=dt L z
 | [],z=>by
  rw[mq,qT];rfl
 | p::L,z=>by
  have g:=Bk L z;rw[tH,←g];cases d:L++[z]with
  |nil=>simp at d
  | cons x r =>
   rw[kO,d,l5];rfl
theorem afh:∀(L:List (List UInt8)) (p z:List UInt8),dt (L++[p]) z=dt L p++10::z:=fun L p z=>by simp[dt]
theorem afi(l:List UInt8):∃ L z,l=dt L z∧(∀ p∈L,10∉p)∧10∉z∧L.length≤l.length:=by
 have d:=zU 10 l;have g:=Et 10 l;have h:=Eu 10 l;rcases xM (cM 10 l)with e|⟨L,z,e⟩
 ·exact(sM 10 l e).elim
 ·rw [xN] at e
  rw[e]at d g h;rw[Bk]at d;refine⟨L,z,d.symm,fun p k=>g p (nM _ k),g z (by simp),?_⟩;simp at h;exact h
theorem HS:∀(L:List (List UInt8)) (z:List UInt8),(∀ p∈L,p.length≤(dt L z).length)∧z.length≤(dt L z).length
 | [],z=>by simp[dt]
 | p::L,z=>by
  have d:=HS L z;rw[tH];simp only[dV,cw,bS,forall_eq_or_imp];refine⟨⟨by omega,fun q g=>?_⟩,by omega⟩;have:=d.1 q g;omega
theorem afj(b:List UInt8)(c:UInt8)(hb:b.length≤900000):Am [.s (aU (b++[c])),.s (⟨#[10]⟩:ByteArray)]=some [.t (c==10)]:=by
 refine aa.toEq ?_;unfold Am
 (dsimp +instances only[Aa,Ab,Ac,Ad,Ae,Af,Ag])
 have h1:(⟨#[10]⟩:ByteArray).size=1:=rfl;rw[h1,eM,dV,SY];refine aa.p (aa.p (aa.p (aa.some ?_)));have e:((((b.length+1:Nat):Int)-((1:Nat):Int)).toNat)=b.length:=by omega
 rw[e];have d:(((aU (b++[c])).extract b.length (b.length+1)).toList==(⟨#[10]⟩:ByteArray).toList)=(c==10):=by
  rw[dW,qV,dW,eL];simp
 rw[d]
theorem QW(b:List UInt8)(c:UInt8)(hb:b.length≤900000):An [.s (aU (b++[c])),.s (⟨#[10]⟩:ByteArray)]=some [.s (aU (bif c==10 then b else b++[c])),.t (c==10)]:=by
 refine aa.toEq ?_;unfold An
 (dsimp +instances only[Aa,Ab,Ac,Ad,Ae,Af,Ag])
 refine aa.call (P:=fun g=>g=[.s (aU (bif c==10 then b else b++[c])),.t (c==10)]) ?_ ?_
 ·unfold Ft
  (dsimp +instances only[Aa,Ab,Ac,Ad,Ae,Af,Ag])
  refine aa.cE (afj b c hb) ?_
  (dsimp +instances only[Aa,Ab,Ac,Ad,Ae,Af,Ag])
  cases h:(c==10)with
  |false=>exact aa.pos rfl (aa.some rfl)
  | true =>
   have h1:(⟨#[10]⟩:ByteArray).size=1:=rfl;rw[h1,eM,dV,SY];refine aa.neg rfl (aa.p (aa.p (aa.some ?_)));have e:((((b.length+1:Nat):Int)-((1:Nat):Int)).toNat)=b.length:=by omega
   rw[e];have d:(aU (b++[c])).extract 0 b.length=aU b:=by
    refine xb ?_;rw[qV,eL,eL];simp
   rw[d];rfl
 ·rintro _ rfl
  exact aa.some rfl
def eO(L:List (List UInt8))(z:List UInt8):List (List UInt8):=bif z.isEmpty then L else L++[z]
theorem QX(x:List UInt8)(xs:List (List UInt8))(h:∀ y∈x::xs,(10:UInt8)∉y) (d:(eR (x::xs) [10]).length≤900000):l8 [.s (aU (eR (x::xs) [10])),.s (⟨#[10]⟩:ByteArray)]=some [.l (dJ (x::xs))]:=Qz 10 x xs h (by omega)
theorem afk(L:List (List UInt8))(z:List UInt8)(B:∀ p∈L,(10:UInt8)∉p)(u:(10:UInt8)∉z)(h:(dt L z).length≤900000):Ao [.s (aU (dt L z))]=some [.l (dJ (eO L z)),.t z.isEmpty]:=by
 refine aa.toEq ?_;unfold Ao
 (dsimp +instances only[Aa,Ab,Ac,Ad,Ae,Af,Ag])
 rw[qE];rcases xM z with rfl|⟨I,c,e⟩
 ·rcases xM L with rfl | ⟨q, p, e⟩
  ·exact aa.pos rfl (aa.some rfl)
  ·rw [xN] at e
   have g:dt L []=dt q p++[10]:=by rw[e,afh]
   have hlen:(dt q p).length≤900000:=by rw[g]at h; simp at h; omega
   refine aa.neg (by rw[g]; simp) ?_;rw[g];refine aa.cE (QW _ _ hlen) ?_
   (dsimp +instances only[Aa,Ab,Ac,Ad,Ae,Af,Ag])
   show aa (aj (l8 [.s (aU (dt q p)),_]) _) _
   rw[←Bk]at hlen⊢;cases d:q++[p]with
   |nil=>simp at d
   | cons x xs =>
    rw[d]at hlen;refine aa.cE (QX x xs (by rw[←d,←e]; exact B) hlen) ?_;refine aa.some ?_;rw[←d,←e];rfl
 ·rw [xN] at e
  have J:(c==10)=false:=by
   rw[beq_eq_false_iff_ne];rintro rfl;rw[e]at u;simp at u
  have g:dt L z=dt L I++[c]:=by rw[e]; simp[dt]
  have v:z.isEmpty=false:=by rw[e]; simp
  have hlen:(dt L I).length≤900000:=by rw[g]at h; simp at h; omega
  refine aa.neg (by rw[g]; simp) ?_;rw[g];refine aa.cE (QW _ _ hlen) ?_
  (dsimp +instances only[Aa,Ab,Ac,Ad,Ae,Af,Ag])
  rw[J,←g,v];show aa (aj (l8 [.s (aU (dt L z)),_]) _) _
  rw[←Bk]at h⊢;cases d:L++[z]with
  |nil=>simp at d
  | cons x xs =>
   rw[d]at h;refine aa.call (aa.eq (QX x xs ?_ h)) ?_
   ·rw [← d]
    intro y k;rcases cG.1 k with k|k
    ·exact B y k
    ·rw [ib.1 k]
     exact u
   ·rintro _ rfl
    refine aa.some ?_;unfold eO;rw[←d,v];rfl
theorem afl(p r:List UInt8)(d:(10:UInt8)∉p)(h:(p++10::r).length≤900000):lv [.s (aU (p++10::r)),.s (⟨#[10]⟩:ByteArray)]=some [.s (aU p),.s (aU r),.t true]:=by
 refine aa.toEq ?_;unfold lv
 (dsimp +instances only[Aa,Ab,Ac,Ad,Ae,Af,Ag])
 refine aa.call (P:=fun g=>g=[.s (aU p),.s (aU r),.t true]) ?_ ?_
 ·unfold wv
  (dsimp +instances only[Aa,Ab,Ac,Ad,Ae,Af,Ag])
  have k:qo [.s (aU (p++10::r)),.s (⟨#[10]⟩:ByteArray)]=some [.i ((p.length:Nat):Int)]:=by
   show some [G.i (lG (aU (p++10::r)).data.toList [10])]=_
   rw[qS,eL,Ep r d]
  refine aa.cE k ?_
  (dsimp +instances only[Aa,Ab,Ac,Ad,Ae,Af,Ag])
  have h1:(⟨#[10]⟩:ByteArray).size=1:=rfl;rw[h1,eM];simp only[dV,cw]at h⊢;refine aa.p (aa.p (aa.p (aa.p (aa.some ?_))));have q:(aU (p++10::r)).extract 0 (((p.length:Nat):Int).toNat)=aU p:=by
   refine xb ?_;rw[qV,eL,eL];simp
  have u:(aU (p++10::r)).extract ((((p.length:Nat):Int)+((1:Nat):Int)).toNat) (p.length+(r.length+1))=aU r:=by
   refine xb ?_;rw[qV,eL,eL];have e:((((p.length:Nat):Int)+((1:Nat):Int)).toNat)=p.length+1:=by omega
   rw[e];have v:p.length+(r.length+1)-(p.length+1)=r.length:=by omega
   simp[List.drop_append,v,List.drop_eq_nil_of_le (Nat.le_succ p.length)]
  rw[q,u]
 ·rintro _ rfl
  exact aa.some rfl
theorem afm(z:List UInt8)(d:(10:UInt8)∉z):lv [.s (aU z),.s (⟨#[10]⟩:ByteArray)]=some [.s (aU z),.s (⟨#[]⟩:ByteArray),.t false]:=by
 refine aa.toEq ?_;unfold lv
 (dsimp +instances only[Aa,Ab,Ac,Ad,Ae,Af,Ag])
 refine aa.call (P:=fun g=>g=[.s (aU z),.s (⟨#[]⟩:ByteArray),.t false]) ?_ ?_
 ·unfold wv
  (dsimp +instances only[Aa,Ab,Ac,Ad,Ae,Af,Ag])
  have h:qo [.s (aU z),.s (⟨#[10]⟩:ByteArray)]=some [.i (-1)]:=by
   show some [G.i (lG (aU z).data.toList [10])]=_
   rw[qS,eL,Eo d]
  refine aa.cE h ?_;exact aa.neg rfl (aa.some rfl)
 ·rintro _ rfl
  exact aa.some rfl
def Bl(b:UInt8):Bool:=(gy b||fm b)||(b==45||b==95)
def tJ:ByteArray:=⟨#[97,98,99,100,101,102,103,104,105,106,107,108,109,110,111,112,113,114,115,116,117,118,119,120,121,122,48,49,50,51,52,53,54,55,56,57,45,95]⟩
def qF(s:ByteArray):Bool:=(bI 1 s.size&&bI s.size 40)&&(gy (s.data.toList.getD 0 0)&&s.data.toList.all Bl)
def np(s:ByteArray):Bool:=af s.size 0||qF s
theorem afn(b:UInt8):aG 0 (fI tF.data.toList b)=gy b:=by
 have:=oY (fun b=>aG 0 (fI tF.data.toList b)==gy b) (by kernel_rfl) b;simpa using this
theorem QY(b:UInt8):tJ.data.toList.contains b=Bl b:=by
 have:=oY (fun b=>tJ.data.toList.contains b==Bl b) (by kernel_rfl) b;simpa using this
theorem afo(s:ByteArray)(h0:0<s.size)(d:s.size≤900000):aa (kF [.s s,.s tJ]) fun g=>∃ t,g=[.s t]∧(t.toList==(⟨#[]⟩:ByteArray).toList)=s.data.toList.all Bl:=by
 unfold kF
 (dsimp +instances only[Aa,Ab,Ac,Ad,Ae,Af,Ag])
 refine aa.pos ?_ (aa.some ⟨_,rfl,?_⟩)
 ·simp only [ar, cK, dM]
  exact⟨by rfl,by decide,by decide,by omega,by omega⟩
 ·have e : (trimB s tJ).toList = mA s.data.toList tJ.data.toList := by rw [dW]; simp [trimB]
  rw[e,dW,gj,beq_iff_eq];show mA s.data.toList tJ.data.toList=[]↔_
  rw[HP,bO];exact⟨fun h b hb=>by rw[←QY]; exact h b hb,fun h b hb=>by rw[QY]; exact h b hb⟩
theorem afp(set:ByteArray)(b:UInt8):sO [.s set,.i ((b.toNat:Nat):Int)]=some [.i (fI set.data.toList b)]:=by
 show some [G.i (fI set.data.toList ((b.toNat:Nat):Int).toNat.toUInt8)]=_
 rw[bp,show b.toNat.toUInt8=b from I9]
theorem Bm(s:ByteArray):(s.toList==(⟨#[]⟩:ByteArray).toList)=af s.size 0:=by
 rw[←l9 s,qE,eM];cases s.data.toList<;>rfl
theorem QZ(s:ByteArray)(g:s.size≤900000):wF [.s s]=some [.t (qF s)]:=by
 refine aa.toEq ?_;unfold wF qF
 (dsimp +instances only[Aa,Ab,Ac,Ad,Ae,Af,Ag])
 rw[Bm];refine aa.test (fun h0=>?_) fun h0=>?_
 ·have h0 : s.size ≠ 0 := fun e => by rw [e] at h0; cases h0
  rw[show bI 1 s.size=true by rw[cK]; omega,dq];refine aa.test (fun h1=>?_) fun h1=>?_
  ·rw [bx, decide_eq_true_eq] at h1
   rw[show bI s.size 40=true by rw[cK]; omega,dq];refine aa.p ?_;refine aa.cE (afp tF _) ?_
   (dsimp +instances only[Aa,Ab,Ac,Ad,Ae,Af,Ag])
   rw[afn];refine aa.test (fun d=>?_) fun d=>?_
   ·rw [d, dq]
    refine aa.call (afo s (by omega) g) ?_;rintro _ ⟨t,rfl,h⟩
    (dsimp +instances only[Aa,Ab,Ac,Ad,Ae,Af,Ag])
    rw[h];exact aa.some rfl
   ·rw [d, lF]
    exact aa.some rfl
  ·rw [bx, decide_eq_false_iff_not] at h1
   rw[show bI s.size 40=false by rw[mw,ne_eq,cK]; omega,lF];exact aa.some rfl
 ·have h0:s.size=0:=by
   cases k:s.size with
   |zero=>rfl
   |succ n=>rw[k]at h0; cases h0
  rw[h0];exact aa.some rfl
theorem Q0(s:ByteArray)(d:s.size≤900000):wG [.s s]=some [.t (np s)]:=by
 refine aa.toEq ?_;unfold wG np
 (dsimp +instances only[Aa,Ab,Ac,Ad,Ae,Af,Ag])
 rw[Bm];refine aa.test (fun h=>aa.some (by rw[h]; rfl)) fun h=>?_;rw[h,fp];refine aa.cE (QZ s d) ?_;exact aa.some rfl
def Q1(n:Int):Prop := -1000000000000000≤n∧n≤1000000000000000
def qG(s:ByteArray):Prop:=bN s=true∧s.size≤900000
def iX(r:List G):Prop:=∃(t m:Int) (b c:ByteArray) (s h:Int) (x y:ByteArray),r=[.i t,.i m,.s b,.s c,.i s,.i h,.s x,.s y]∧Q1 t∧Q1 m∧qG b∧qG c∧qG x∧qG y
theorem iX.eta{r:List G}(h:iX r):be [.int .i64,.int .i64,.str,.str,.int .i64,.int .i64,.str,.str] r=r:=by
 obtain⟨t,m,b,c,s,h,x,y,rfl,_⟩:=h;rfl
theorem afq{r s:List G}(h:iX r)(k:iX s):AP [.l [r],.l [s]]=some [.i (xa r s)]:=by
 obtain⟨t,m,b,c,_,_,_,_,rfl,v,hm,_⟩:=h;obtain⟨t',m',d,g,_,_,_,_,rfl,q,u,_⟩:=k;refine aa.toEq ?_;unfold AP
 (dsimp +instances only[Aa,Ab,Ac,Ad,Ae,Af,Ag])
 refine aa.cE (Qm t t') ?_;refine aa.cE (rfl:qk [.s c,.s g]=some [.i (fl c g)]) ?_;refine aa.cE (rfl:qk [.s b,.s d]=some [.i (fl b d)]) ?_;refine aa.cE (Qm m m') ?_
 (dsimp +instances only[Aa,Ab,Ac,Ad,Ae,Af,Ag])
 refine aa.cE (or_eq _ _ _ _) ?_;exact aa.some rfl
def ly(r:List G):Int :=
 bif !cB (gi r 0).int 0 345686399999 then 1 else bif !cB (gi r 1).int 1 3 then 4 else bif !qF (gi r 2).str then 5 else bif !iV (gi r 3).str then 3 else
 bif !cB (gi r 4).int 0 99999 then 1 else bif !cB (gi r 5).int 0 99999 then 1 else bif !np (gi r 6).str then 5 else bif !np (gi r 7).str then 5 else 0
theorem afr{r:List G}(g:iX r):AM [.l [r]]=some [.i (ly r)]:=by
 obtain⟨t,m,b,c,s,h,x,y,rfl,_,_,hb,d,k,q⟩:=g;unfold AM F6 F8 ly
 (dsimp +instances only[Aa,Ab,Ac,Ad,Ae,Af,Ag])
 have u:=QZ b hb.2;have v:=Q0 x k.2;have z:=Q0 y q.2;have B:=HN c d.1 d.2;rw[qz t,qz m];rw[u,B,qz s,qz h,v,z];generalize cB t 0 345686399999=b1;generalize cB m 1 3=I;generalize qF b=J;generalize iV c=M;generalize cB s 0 99999=N;generalize cB h 0 99999=O;generalize np x=R;generalize np y=U;cases b1<;>cases I<;>cases J<;>cases M<;>cases N<;>cases O<;>cases R<;>cases U<;>rfl
def iY:Option (List G)→List (List G)→Int
 |_,[]=>0
 |none,x::q=>if ly x≠0 then ly x else iY (some x) q
 |some y,x::q=>if ly x≠0 then ly x else if 0≤xa y x then 7 else iY (some x) q
def xg(l:List (List G)):Int:=if 2000<l.length then 2 else iY none l
section
variable {C D:List G→Option (List G)} (hC:∀ r,iX r→C [.l [r]]=some [.i (ly r)]) (hD:∀ r s,iX r→iX s→D [.l [r],.l [s]]=some [.i (xa r s)])
include hC hD
theorem Q2:∀(q p:List (List G)),(∀ z∈p++q,iX z)→p.length+q.length<100000 →
  a6 (qA [.int .i64,.int .i64,.str,.str,.int .i64,.int .i64,.str,.str] C D) [.l (p++q),.l (p++q),.i ((p.length+q.length:Nat):Int),.i (p.length:Int)] (q.length+1) fun c g=>(c=0∧g=[.i (iY p.getLast? q)])∨c=1∧iY p.getLast? q=0
 | [],p,t,B=>by
  refine a6.stop (x:=1) (d':=[]) (aa.toEq ?_) (.inr ⟨rfl,by unfold iY; rfl⟩);unfold qA
  (dsimp +instances only[Aa,Ab,Ac,Ad,Ae,Af,Ag])
  (repeat first|refine aa.p ?_|refine aa.n ?_)
  exact aa.some rfl
 | x::q,p,t,B=>by
  simp only[cw]at B;have d:iX x:=t x (by simp);have g1:(p++x::q).getD (p.length:Int).toNat []=x:=sJ _ _ _ _ _ (by simp);have hlen:(p++x::q).length=p.length+q.length+1:=by simp; omega
  by_cases h:ly x=0
  ·have v := Q2 q (p ++ [x]) (by simpa using t) (by simp; omega)
   rw[List.getLast?_concat]at v;rcases xM p with rfl|⟨k,y,rfl⟩
   ·have e : iY ([] : List (List G)).getLast? (x :: q) = iY (some x) q := by simp [iY, h]
    rw[e];refine a6.next (aa.toEq ?_) v
    unfold qA
    (dsimp +instances only[Aa,Ab,Ac,Ad,Ae,Af,Ag])
    simp only[g1,hlen,cw,d.eta]
    (repeat first|refine aa.p ?_|refine aa.n ?_)
    refine aa.cE (hC x d) ?_
    (dsimp +instances only[Aa,Ab,Ac,Ad,Ae,Af,Ag])
    simp only[h]
    (repeat first|refine aa.p ?_|refine aa.n ?_)
    refine aa.some ?_;simp;omega
   ·rw [xN] at *
    have u:iX y:=t y (by simp);have g2:((k++[y])++x::q).getD (((k++[y]).length:Int)-1).toNat []=y:=by
     have e:(k++[y])++x::q=k++y::x::q:=by simp
     rw[e]; exact sJ _ _ _ _ _ (by simp)
    have J:(k++[y]).length=k.length+1:=by simp
    have I:(k++[y]).getLast? = some y:=by simp
    rw[I];by_cases ho:0≤xa y x
    ·refine a6.stop (x := 0) (d' := [.i 7]) (aa.toEq ?_) (.inl ⟨rfl, by simp [iY, h, ho]⟩)
     unfold qA
     (dsimp +instances only[Aa,Ab,Ac,Ad,Ae,Af,Ag])
     simp only[g1,g2,hlen,cw,d.eta,u.eta]
     (repeat first|refine aa.p ?_|refine aa.n ?_)
     refine aa.cE (hC x d) ?_
     (dsimp +instances only[Aa,Ab,Ac,Ad,Ae,Af,Ag])
     simp only[h]
     (repeat first|refine aa.p ?_|refine aa.n ?_)
     refine aa.cE (hD y x u d) ?_
     (dsimp +instances only[Aa,Ab,Ac,Ad,Ae,Af,Ag])
     (repeat first|refine aa.p ?_|refine aa.n ?_)
     exact aa.some rfl
    ·have e : iY (some y) (x :: q) = iY (some x) q := by simp [iY, h, ho]
     rw[e];refine a6.next (aa.toEq ?_) v
     unfold qA
     (dsimp +instances only[Aa,Ab,Ac,Ad,Ae,Af,Ag])
     simp only[g1,g2,hlen,cw,d.eta,u.eta]
     (repeat first|refine aa.p ?_|refine aa.n ?_)
     refine aa.cE (hC x d) ?_
     (dsimp +instances only[Aa,Ab,Ac,Ad,Ae,Af,Ag])
     simp only[h]
     (repeat first|refine aa.p ?_|refine aa.n ?_)
     refine aa.cE (hD y x u d) ?_
     (dsimp +instances only[Aa,Ab,Ac,Ad,Ae,Af,Ag])
     (repeat first|refine aa.p ?_|refine aa.n ?_)
     refine aa.some ?_;simp;omega
  ·refine a6.stop (x := 0) (d' := [.i (ly x)]) (aa.toEq ?_) (.inl ⟨rfl, by cases M : p.getLast? <;> simp [iY, h]⟩)
   unfold qA
   (dsimp +instances only[Aa,Ab,Ac,Ad,Ae,Af,Ag])
   simp only[g1,hlen,cw,d.eta]
   (repeat first|refine aa.p ?_|refine aa.n ?_)
   refine aa.cE (hC x d) ?_
   (dsimp +instances only[Aa,Ab,Ac,Ad,Ae,Af,Ag])
   refine aa.pos (by simpa using h) (aa.some rfl)
theorem afs(l:List (List G))(d:∀ z∈l,iX z)(k:l.length<100000):Qq [.int .i64,.int .i64,.str,.str,.int .i64,.int .i64,.str,.str] C D [.l l]=some [.i (xg l)]:=by
 refine aa.toEq ?_;unfold Qq xg
 (dsimp +instances only[Aa,Ab,Ac,Ad,Ae,Af,Ag])
 by_cases h:2000<l.length
 ·(repeat first|refine aa.p ?_|refine aa.n ?_)
  exact aa.some (by simp[h])
 ·(repeat first|refine aa.p ?_|refine aa.n ?_)
  have h1:=Q2 hC hD l [] (by simpa using d) (by simpa using k);have h0:((0:Nat):Int)=0:=rfl;simp only[mq,pA,cR,h0]at h1;refine aa.loop (h1.to (by omega)) (by(first|rfl|assumption|(simp only[ay,sl]<;>omega))) ?_;rintro c g (⟨rfl,rfl⟩|⟨rfl,q⟩)
  ·(dsimp +instances only [Aa,Ab,Ac,Ad,Ae,Af,Ag])
   (repeat first|refine aa.p ?_|refine aa.n ?_)
   refine aa.some ?_;rw[if_neg h];rfl
  ·(repeat first|refine aa.p ?_|refine aa.n ?_)
   refine aa.some ?_;rw[if_neg h];exact congrArg (fun z=>[G.i z]) q.symm
end
theorem aft(l:List (List G))(d:∀ z∈l,iX z)(g:l.length<100000):Gh [.l l]=some [.i (xg l)] :=
 afs (fun _ h=>afr h) (fun _ _ h h'=>afq h h') l d g
theorem oZ(W:List (List UInt8))(i:Nat)(hi:i<W.length):gi ((dJ W).getD i []) 0=.s (aU (W.getD i [])):=by
 rw[qD W i hi,b_,bd hi];rfl
theorem Bn(V:List Int)(i:Nat)(hi:i<V.length):gi ((hJ V).getD i []) 0=.i (V.getD i 0):=by
 unfold hJ;rw[b_,b_,bR,bd hi];rfl
theorem HT{c:UInt8}{l p:List UInt8}(d:p∈cM c l):p.length≤l.length:=by
 have g:=zU c l;rw[←g];clear g;generalize cM c l=W at d
 induction W with
 |nil=>cases d
 | cons x xs h =>
  cases xs with
  | nil =>
   rw[qT,ib.1 d];exact aH _
  | cons y k =>
   rw[l5,dV,dV];rcases bS.1 d with rfl|d
   ·omega
   ·have := h d
    omega
theorem afu{W:List (List UInt8)}{i:Nat}{b:UInt8}(h:b∈W.getD i []):∃ y∈W,b∈y:=by
 rw[b_]at h;cases d:W[i]? with
 |none=>rw[d]at h; cases h
 | some y =>
  rw[d]at h;exact⟨y,fa d,h⟩
theorem Q3{W:List (List UInt8)}{i n:Nat}(h:∀ y∈W,y.length≤n):(W.getD i []).length≤n:=by
 rw[b_];cases d:W[i]? with
 |none=>exact dB _
 |some y=>exact h y (fa d)
def l_(W:List (List UInt8))(y:List UInt8):Int:=if y∈W then ((W.idxOf y:Nat):Int) else -1
theorem indexAny(W:List (List UInt8))(y:List UInt8)(hw:W.length≤900001):qu [.l (dJ W),.s (aU y)]=some [.i (l_ W y)]:=by
 refine aa.toEq ?_;unfold qu
 (dsimp +instances only[Aa,Ab,Ac,Ad,Ae,Af,Ag])
 rw[iW];refine aa.loop (P:=fun c g=>(c=1∧l_ W y = -1∧g=[])∨(c=0∧g=[.i (l_ W y)])) ?_ rfl ?_
 ·refine ((jU (σ:=Unit) (fun _ i=>[.l (dJ W),.s (aU y),.i ((W.length:Nat):Int),.i (i:Int)]) W.length (fun _=>(1,[])) (fun _ i=>y∉W.take i)
   (fun c g=>c=0∧g=[.i (l_ W y)]) ?_ ?_ W.length () 0 (by omega) (by simp)).to (by omega)).mono ?_
  ·rintro _ i d hi
   have t:W.take (i+1)=W.take i++[W[i]]:=by rw[nN,bd hi]; rfl
   have hm:W[i]∈W:=iJ hi;have u:=qD W i hi;have q:W[i]=y→l_ W y=(i:Int):=fun e=>by
    unfold l_;rw[if_pos (e▸hm)];congr 1;have v:W=W.take i++W.drop i:=(List.take_append_drop i W).symm;rw[v,List.idxOf_append,if_neg d,SF hi,e,List.idxOf_cons_self,jy];omega
   generalize W[i]=w at t hm u q;unfold sY
   (dsimp +instances only[Aa,Ab,Ac,Ad,Ae,Af,Ag])
   rw[iW];refine aa.p (aa.p ?_);simp only[bp,u]
   (dsimp +instances only[Aa,Ab,Ac,Ad,Ae,Af,Ag])
   rw[oX,oX];refine aa.test (fun k=>?_) fun k=>?_
   ·have k : y = w := by simpa using k
    exact aa.some (.inr ⟨0,_,rfl,rfl,by rw[q k.symm]⟩)
   ·have k : y ≠ w := by simpa using k
    refine aa.p (aa.some (.inl ⟨(),rfl,?_⟩));rw[t];intro z;rcases cG.1 z with h|h
    ·exact d h
    ·exact k (ib.1 h)
  ·rintro _ d
   unfold sY
   (dsimp +instances only[Aa,Ab,Ac,Ad,Ae,Af,Ag])
   exact aa.n (aa.some rfl)
  ·rintro c g (⟨_, d, rfl, rfl⟩ | h)
   ·rw [iK] at d
    refine .inl ⟨rfl,?_,rfl⟩;unfold l_;rw[if_neg d]
   ·exact .inr h
 ·rintro c g (⟨rfl, d, rfl⟩ | ⟨rfl, rfl⟩)
  ·rw [d]
   exact aa.neg rfl (aa.some rfl)
  ·exact aa.pos rfl (aa.some rfl)
def o9(l:List UInt8):List UInt8:=if l=[45] then [] else l
theorem afv(l:List UInt8):Av [.s (aU l)]=some [.s (aU (o9 l))]:=by
 refine aa.toEq ?_;unfold Av o9
 (dsimp +instances only[Aa,Ab,Ac,Ad,Ae,Af,Ag])
 rw[oX,dW];refine aa.test (fun h=>?_) fun h=>?_
 ·rw [if_pos (by simpa using h)]
  exact aa.some rfl
 ·rw [if_neg (by simpa using h)]
  exact aa.some rfl
theorem afw(l:List UInt8):AH [.s (aU l)]=some [.s (aU (o9 l))]:=by
 refine aa.toEq ?_;unfold AH o9
 (dsimp +instances only[Aa,Ab,Ac,Ad,Ae,Af,Ag])
 rw[oX,dW];refine aa.test (fun h=>?_) fun h=>?_
 ·rw [if_pos (by simpa using h)]
  exact aa.some rfl
 ·rw [if_neg (by simpa using h)]
  exact aa.some rfl
def jr(r:List G):Prop:=∃(n k:Int) (w:ByteArray) (a:Int),r=[.i n,.i k,.s w,.i a]∧qG w
theorem jr.eta{r:List G}(h:jr r):be aQ r=r:=by
 obtain⟨n,k,w,a,rfl,_⟩:=h;rfl
def iE(k:Int):Bool:=(k==1)||((k==2)||(k==3))
def fV(n k:Int)(w:ByteArray)(a:Int)(t:Bool)(late:Int):Int :=
 bif !cB n 0 1999 then 1 else bif !cB k 1 6 then 4 else bif (!af w.size 0) && !iV w then 3 else bif !cB a (-1) 1999 then 1 else bif !(af w.size 0==(a == -1)) then 3 else bif af w.size 0==t then 3 else late
def fD(rows:List (List G))(i:Nat)(n:Int):Int:=if 0<i∧n≤(gi (rows.getD (i-1) []) 0).int then 7 else 0
def nq(rows:List (List G))(i:Nat):Int:=fV (gi (rows.getD i []) 0).int (gi (rows.getD i []) 1).int (gi (rows.getD i []) 2).str (gi (rows.getD i []) 3).int (iE (gi (rows.getD i []) 1).int) (fD rows i (gi (rows.getD i []) 0).int)
def nr(rows:List (List G)):Int:=if 2000<rows.length then 2 else fw (nq rows) rows.length
theorem afx(rows:List (List G))(i:Nat)(hi:i<rows.length)(q:rows.length≤2000)(n k:Int)(w:ByteArray)(a:Int)(t:Bool)(hw:qG w) :
  aa (qt [.i n,.i k,.s w,.i a,.l rows,.i (i:Int),.t t]) fun o=>o=(some 0,[.i (fV n k w a t (fD rows i n))]):=by
 unfold qt fV
 (dsimp +instances only[Aa,Ab,Ac,Ad,Ae,Af,Ag])
 refine aa.cE (qz n 0 1999) ?_
 (dsimp +instances only[Aa,Ab,Ac,Ad,Ae,Af,Ag])
 cases cB n 0 1999 with
 |false=>exact aa.pos rfl (aa.some rfl)
 |true =>
 refine aa.neg rfl ?_;refine aa.cE (qz k 1 6) ?_
 (dsimp +instances only[Aa,Ab,Ac,Ad,Ae,Af,Ag])
 cases cB k 1 6 with
 |false=>exact aa.pos rfl (aa.some rfl)
 |true =>
 refine aa.neg rfl ?_;rw[Bm];have rest:aa (aj (jV [.i a,.i (-1),.i 1999]) fun g4=>bif (gi g4 0).bool then some (some 0,[G.i 1]) else bif !(af w.size 0==(a==(-1))) then some (some 0,[G.i 3]) else bif af w.size 0==t then some (some 0,[G.i 3]) else
   bif ak 0 (i:Int) then (bif ay ((i:Int)-1) then (bif aI ((i:Int)-1)&&ak ((i:Int)-1) (rows.length:Int) then (bif aG n (gi (rows.getD ((i:Int)-1).toNat []) 0).int then some (some 0,[G.i 7]) else some (some 0,[G.i 0])) else none) else none) else some (some 0,[G.i 0]))
   fun o=>o=(some 0,[.i (bif !cB a (-1) 1999 then 1 else bif !(af w.size 0==(a == -1)) then 3 else bif af w.size 0==t then 3 else fD rows i n)]):=by
  refine aa.cE (qz a (-1) 1999) ?_
  (dsimp +instances only[Aa,Ab,Ac,Ad,Ae,Af,Ag])
  cases cB a (-1) 1999 with
  |false=>exact aa.pos rfl (aa.some rfl)
  |true =>
  refine aa.neg rfl ?_;generalize (af w.size 0==(a == -1))=d;generalize (af w.size 0==t)=g;cases d with
  |false=>exact aa.pos rfl (aa.some rfl)
  |true =>
  refine aa.neg rfl ?_;cases g with
  |true=>exact aa.pos rfl (aa.some rfl)
  |false =>
  refine aa.neg rfl ?_;unfold fD;simp only[BT,cond_false];by_cases h0:0<i
  ·have e : ((i : Int) - 1).toNat = i - 1 := by omega
   refine aa.pos (by rw[aZ,decide_eq_true_eq]; omega) (aa.pos (eG.2 ⟨by omega,by omega⟩) (aa.pos (by rw[ar,eY,aZ,decide_eq_true_eq,decide_eq_true_eq]; omega) ?_));rw[e];refine aa.test (fun h=>?_) fun h=>?_
   ·rw [bx, decide_eq_true_eq] at h
    rw[if_pos ⟨h0,h⟩];exact aa.some rfl
   ·rw [bx, decide_eq_false_iff_not] at h
    rw[if_neg (fun h'=>h h'.2)];exact aa.some rfl
  ·rw [if_neg (fun h' => h0 h'.1)]
   exact aa.neg (by rw[aZ,decide_eq_false_iff_not]; omega) (aa.some rfl)
 cases he:af w.size 0 with
 | true =>
  rw[he]at rest;exact aa.neg rfl rest
 | false =>
  rw[he]at rest;refine aa.pos rfl ?_;refine aa.cE (HN w hw.1 hw.2) ?_
  (dsimp +instances only[Aa,Ab,Ac,Ad,Ae,Af,Ag])
  cases iV w with
  |false=>exact aa.pos rfl (aa.some rfl)
  |true=>exact aa.neg rfl rest
theorem afy(rows:List (List G))(h:∀ z∈rows,jr z)(q:rows.length≤2000)(i:Nat)(hi:i<rows.length):Ai [.l rows,.i (i:Int)]=some [.i (nq rows i)]:=by
 obtain⟨n,k,w,a,e,hw⟩:=h _ (zN hi);have es:nq rows i=fV n k w a (iE k) (fD rows i n):=by
  unfold nq;rw[e];rfl
 rw[es];refine aa.toEq ?_;unfold Ai
 (dsimp +instances only[Aa,Ab,Ac,Ad,Ae,Af,Ag])
 simp only[bp,e];refine aa.pos (by rw[ar,eY,aZ,decide_eq_true_eq,decide_eq_true_eq]; omega) ?_
 (dsimp +instances only[Aa,Ab,Ac,Ad,Ae,Af,Ag])
 have fin:∀ t,iE k=t→∀(K:Nat→List G→Option (List G)),(∀ g,K 0 [G.i g]=some [G.i g])→aa (bh true (dD (qt [.i n,.i k,.s w,.i a,.l rows,.i (i:Int),.t t])) K) fun r=>r=[G.i (fV n k w a (iE k) (fD rows i n))]:=fun t u K v=>by
  rw[u];obtain⟨o,ho,y⟩:=afx rows i hi q n k w a t hw;refine aa.tail (P:=fun x g=>x=0∧g=[.i (fV n k w a t (fD rows i n))]) ⟨o,ho,?_⟩ rfl ?_
  ·rw [y]
   exact⟨0,rfl,rfl,rfl⟩
  ·rintro _ _ ⟨rfl, rfl⟩
   rw[v];exact aa.some rfl
 refine aa.test (fun h1=>fin true (by unfold iE; rw[h1]; rfl) _ (fun g=>rfl)) fun h1=>?_;refine aa.test (fun d=>fin true (by unfold iE; rw[d,ail,aim]) _ (fun g=>rfl)) fun d=>?_;exact fin _ (by unfold iE; rw[h1,d,fp,fp]) _ (fun g=>rfl)
theorem HU(rows:List (List G))(g:∀ z∈rows,jr z):l7 [.l rows]=some [.i (nr rows)]:=by
 refine aa.toEq ?_;unfold l7 nr
 (dsimp +instances only[Aa,Ab,Ac,Ad,Ae,Af,Ag])
 by_cases d:2000<rows.length
 ·refine aa.pos (by rw [aZ, decide_eq_true_eq]; omega) ?_
  rw[if_pos d];exact aa.some rfl
 ·refine aa.neg (by rw [aZ, decide_eq_false_iff_not]; omega) ?_
  rw[if_neg d];refine aa.loop (Qw (fun i=>[.l rows,.i (rows.length:Int),.i (i:Int)]) rows.length (nq rows) [] (by omega) (fun i hi=>?_) ?_) rfl ?_
  ·unfold Aj
   (dsimp +instances only[Aa,Ab,Ac,Ad,Ae,Af,Ag])
   refine aa.pos (by rw[aZ,decide_eq_true_eq]; omega) ?_;refine aa.cE (afy rows g (by omega) i hi) ?_
   (dsimp +instances only[Aa,Ab,Ac,Ad,Ae,Af,Ag])
   refine aa.test (fun h=>aa.some (.inr ⟨by simpa using h,rfl⟩)) fun h=>?_;exact aa.pos (eG.2 ⟨by omega,by omega⟩) (aa.some (.inl ⟨by simpa using h,rfl⟩))
  ·unfold Aj
   (dsimp +instances only[Aa,Ab,Ac,Ad,Ae,Af,Ag])
   exact aa.neg (by rw[aZ,decide_eq_false_iff_not]; omega) (aa.some rfl)
  ·rintro _ _ (⟨rfl, h, rfl⟩ | ⟨rfl, rfl, _⟩)
   ·rw [h]
    exact aa.some rfl
   ·exact aa.some rfl
theorem afz(rows:List (List G))(i:Nat)(hi:i<rows.length)(q:rows.length≤2000)(n k:Int)(w:ByteArray)(a:Int)(t:Bool)(hw:qG w) :
  aa (qy [.i n,.i k,.s w,.i a,.l rows,.i (i:Int),.t t,.l rows,.i (rows.length:Int),.i (i:Int)]) fun o=>(fV n k w a t (fD rows i n)≠0∧o=(some 0,[.i (fV n k w a t (fD rows i n))]))∨(fV n k w a t (fD rows i n)=0∧o=(some 1,[.l rows,.l rows,.i (rows.length:Int),.i (i:Int)])):=by
 unfold qy fV
 (dsimp +instances only[Aa,Ab,Ac,Ad,Ae,Af,Ag])
 have err:∀{v:Int},v≠0→aa (some ((some 0:Option Nat),[G.i v])) fun o=>(v≠0∧o=(some 0,[.i v]))∨(v=0∧o=(some 1,[.l rows,.l rows,.i (rows.length:Int),.i (i:Int)])):=fun h=>aa.some (.inl ⟨h,rfl⟩);refine aa.cE (HA n 0 1999) ?_
 (dsimp +instances only[Aa,Ab,Ac,Ad,Ae,Af,Ag])
 cases cB n 0 1999 with
 |false=>exact aa.pos rfl (err (by decide))
 |true =>
 refine aa.neg rfl ?_;refine aa.cE (HA k 1 6) ?_
 (dsimp +instances only[Aa,Ab,Ac,Ad,Ae,Af,Ag])
 cases cB k 1 6 with
 |false=>exact aa.pos rfl (err (by decide))
 |true =>
 refine aa.neg rfl ?_;rw[Bm];have rest:aa (aj (oN [.i a,.i (-1),.i 1999]) fun g4=>bif !(gi g4 0).bool then some ((some 0:Option Nat),[G.i 1]) else bif !(af w.size 0==(a==(-1))) then some (some 0,[G.i 3]) else bif af w.size 0==t then some (some 0,[G.i 3]) else
   bif ak 0 (i:Int) then (bif ay ((i:Int)-1) then (bif aI ((i:Int)-1)&&ak ((i:Int)-1) (rows.length:Int) then (bif aG n (gi (rows.getD ((i:Int)-1).toNat []) 0).int then some (some 0,[G.i 7]) else some (some 1,[.l rows,.l rows,.i (rows.length:Int),.i (i:Int)])) else none) else none) else some (some 1,[.l rows,.l rows,.i (rows.length:Int),.i (i:Int)]))
   fun o=>((bif !cB a (-1) 1999 then 1 else bif !(af w.size 0==(a == -1)) then 3 else bif af w.size 0==t then 3 else fD rows i n)≠0∧o=(some 0,[.i (bif !cB a (-1) 1999 then 1 else bif !(af w.size 0==(a == -1)) then 3 else bif af w.size 0==t then 3 else fD rows i n)])) ∨
    ((bif !cB a (-1) 1999 then 1 else bif !(af w.size 0==(a == -1)) then 3 else bif af w.size 0==t then 3 else fD rows i n)=0∧o=(some 1,[.l rows,.l rows,.i (rows.length:Int),.i (i:Int)])):=by
  refine aa.cE (HA a (-1) 1999) ?_
  (dsimp +instances only[Aa,Ab,Ac,Ad,Ae,Af,Ag])
  cases cB a (-1) 1999 with
  |false=>exact aa.pos rfl (err (by decide))
  |true =>
  refine aa.neg rfl ?_;generalize (af w.size 0==(a == -1))=d;generalize (af w.size 0==t)=g;cases d with
  |false=>exact aa.pos rfl (err (by decide))
  |true =>
  refine aa.neg rfl ?_;cases g with
  |true=>exact aa.pos rfl (err (by decide))
  |false =>
  refine aa.neg rfl ?_;unfold fD;simp only[BT,cond_false];by_cases h0:0<i
  ·have e : ((i : Int) - 1).toNat = i - 1 := by omega
   refine aa.pos (by rw[aZ,decide_eq_true_eq]; omega) (aa.pos (eG.2 ⟨by omega,by omega⟩) (aa.pos (by rw[ar,eY,aZ,decide_eq_true_eq,decide_eq_true_eq]; omega) ?_));rw[e];refine aa.test (fun h=>?_) fun h=>?_
   ·rw [bx, decide_eq_true_eq] at h
    rw[if_pos ⟨h0,h⟩];exact err (by decide)
   ·rw [bx, decide_eq_false_iff_not] at h
    rw[if_neg (fun h'=>h h'.2)];exact aa.some (.inr ⟨rfl,rfl⟩)
  ·rw [if_neg (fun h' => h0 h'.1)]
   exact aa.neg (by rw[aZ,decide_eq_false_iff_not]; omega) (aa.some (.inr ⟨rfl,rfl⟩))
 cases he:af w.size 0 with
 | true =>
  rw[he]at rest;exact aa.neg rfl rest
 | false =>
  rw[he]at rest;refine aa.pos rfl ?_;refine aa.cE (ae4 w hw.1 hw.2) ?_
  (dsimp +instances only[Aa,Ab,Ac,Ad,Ae,Af,Ag])
  cases iV w with
  |false=>exact aa.pos rfl (err (by decide))
  |true=>exact aa.neg rfl rest
theorem HV(rows:List (List G))(v:∀ z∈rows,jr z):nm [.l rows]=some [.i (nr rows)]:=by
 refine aa.toEq ?_;unfold nm nr
 (dsimp +instances only[Aa,Ab,Ac,Ad,Ae,Af,Ag])
 by_cases q:2000<rows.length
 ·refine aa.pos (by rw [aZ, decide_eq_true_eq]; omega) ?_
  rw[if_pos q];exact aa.some rfl
 ·refine aa.neg (by rw [aZ, decide_eq_false_iff_not]; omega) ?_
  rw[if_neg q];refine aa.loop (Qw (fun i=>[.l rows,.l rows,.i (rows.length:Int),.i (i:Int)]) rows.length (nq rows) [] (by omega) (fun i hi=>?_) ?_) rfl ?_
  ·obtain ⟨n, k, w, a, e, hw⟩ := v _ (zN hi)
   have es:nq rows i=fV n k w a (iE k) (fD rows i n):=by
    unfold nq;rw[e];rfl
   rw[es];unfold A'
   (dsimp +instances only[Aa,Ab,Ac,Ad,Ae,Af,Ag])
   simp only[bp,e];refine aa.pos (by rw[aZ,decide_eq_true_eq]; omega) (aa.pos (by rw[ar,eY,aZ,decide_eq_true_eq,decide_eq_true_eq]; omega) ?_)
   (dsimp +instances only[Aa,Ab,Ac,Ad,Ae,Af,Ag])
   have fin:∀ t,iE k=t→aa (bh true (dD (qy [.i n,.i k,.s w,.i a,.l rows,.i (i:Int),.t t,.l rows,.i (rows.length:Int),.i (i:Int)])) fun u g6=>bif af u 0 then some (some 0,[G.i (gi g6 0).int]) else bif ay ((gi g6 3).int+1) then some ((none:Option Nat),[G.l (gi g6 0).rows,G.l (gi g6 1).rows,G.i (gi g6 2).int,G.i ((gi g6 3).int+1)]) else none)
     fun o=>(fV n k w a (iE k) (fD rows i n)=0∧o=(none,[.l rows,.l rows,.i (rows.length:Int),.i ((i+1:Nat):Int)]))∨(fV n k w a (iE k) (fD rows i n)≠0∧o=(some 0,[.i (fV n k w a (iE k) (fD rows i n))])):=fun t y=>by
    rw[y];obtain⟨o,ho,B⟩:=afz rows i hi (by omega) n k w a t hw;refine aa.tail (P:=fun x g=>(fV n k w a t (fD rows i n)≠0∧x=0∧g=[.i (fV n k w a t (fD rows i n))])∨(fV n k w a t (fD rows i n)=0∧x=1∧g=[.l rows,.l rows,.i (rows.length:Int),.i (i:Int)])) ⟨o,ho,?_⟩ rfl ?_
    ·rcases B with ⟨h1, rfl⟩ | ⟨h1, rfl⟩
     ·exact⟨0,rfl,.inl ⟨h1,rfl,rfl⟩⟩
     ·exact⟨1,rfl,.inr ⟨h1,rfl,rfl⟩⟩
    ·rintro _ _ (⟨h1, rfl, rfl⟩ | ⟨h1, rfl, rfl⟩)
     ·exact aa.pos rfl (aa.some (.inr ⟨h1,rfl⟩))
     ·exact aa.neg rfl (aa.pos (show ay ((i:Int)+1)=true from eG.2 ⟨by omega,by omega⟩) (aa.some (.inl ⟨h1,rfl⟩)))
   refine aa.test (fun h1=>fin true (by unfold iE; rw[h1]; rfl)) fun h1=>?_;refine aa.test (fun d=>fin true (by unfold iE; rw[d,ail,aim])) fun d=>?_;exact fin _ (by unfold iE; rw[h1,d,fp,fp])
  ·unfold A'
   (dsimp +instances only[Aa,Ab,Ac,Ad,Ae,Af,Ag])
   exact aa.neg (by rw[aZ,decide_eq_false_iff_not]; omega) (aa.some rfl)
  ·rintro _ _ (⟨rfl, h, rfl⟩ | ⟨rfl, rfl, _⟩)
   ·rw [h]
    exact aa.some rfl
   ·exact aa.some rfl
def lz:List (List UInt8):=[[],[103,111,111,100],[99,97,108,108],[104,101,97,114,100],[109,105,115,115,105,110,103],[117,110,107,110,111,119,110],[116,119,105,99,101]]
theorem Q4:Ak []=some [.l (dJ lz)]:=rfl
theorem Q5:zY []=some [.l (dJ lz)]:=rfl
def nF(W:List (List UInt8)):List (List UInt8):=[W.getD 0 [],W.getD 3 []]
def HW(W:List (List UInt8)):Bool:=W.length==4&&(fC (nF W)&&ak 0 (l_ lz (W.getD 1 [])))
def afA(W:List (List UInt8)):List G:=[.i ((gf (nF W)).getD 0 0),.i (l_ lz (W.getD 1 [])),.s (aU (o9 (W.getD 2 []))),.i ((gf (nF W)).getD 1 0)]
theorem Q6{W:List (List UInt8)}(d:∀ y∈W,y.length≤900000):∀ y∈nF W,y.length≤900000:=by
 intro y h;simp only[nF,bS,BU,or_false]at h;rcases h with rfl|rfl<;>exact Q3 d
theorem Q7{W:List (List UInt8)} (h:(((W.length:Nat):Int) != 4)=true):(W.length==4)=false:=by
 rw[beq_eq_false_iff_ne];intro e;rw[e]at h;cases h
theorem Q8{W:List (List UInt8)} (h:(((W.length:Nat):Int) != 4)=false):W.length=4:=by
 have:((W.length:Nat):Int)=4:=by simpa using h
 omega
theorem afB(n:Int):ak n 1 = !ak 0 n:=by
 rw[aZ,aZ,gj,Bool.not_eq_true',decide_eq_true_eq,decide_eq_false_iff_not];omega
def cX(p:List UInt8):Bool:=gd (cM 32 p)&&HW (cM 32 p)
def dT(p:List UInt8):List G:=afA (cM 32 p)
theorem afC(p:List UInt8)(k:p.length≤900000):aa (Aw [.s (aU p)]) fun g=>∃ row,g=[.l [row],.t (cX p)]∧(cX p=true→row=dT p):=by
 have hw:=afc (aU p) (by rw[eM]; exact k);rw[eL]at hw;have hle:∀ y∈cM 32 p,y.length≤p.length:=fun y d=>HT d;unfold Aw
 (dsimp +instances only[Aa,Ab,Ac,Ad,Ae,Af,Ag])
 refine aa.cE hw ?_;unfold cX dT;generalize cM 32 p=W at hle;have q:∀ y∈W,y.length≤900000:=fun y d=>jZ (hle y d) k;cases h1:gd W with
 |false=>exact aa.pos rfl (aa.some ⟨_,rfl,fun h=>by cases h⟩)
 |true =>
 rw[dq];refine aa.neg rfl ?_;simp only[cond_true]
 (dsimp +instances only[Aa,Ab,Ac,Ad,Ae,Af,Ag])
 rw[iW];unfold HW;refine aa.test (fun h=>?_) fun h=>?_
 ·rw [Q7 h]
  exact aa.some ⟨_,rfl,fun h=>by cases h⟩
 have u:=Q8 h;refine aa.cE Q4 ?_;rw[u,oZ W 1 (by omega)];refine aa.pos rfl ?_;refine aa.cE (indexAny lz (W.getD 1 []) (by decide)) ?_;rw[oZ W 0 (by omega),oZ W 3 (by omega)];refine aa.pos rfl (aa.pos rfl ?_);refine aa.cE (aff (nF W) (by simp[nF]) (Q6 q)) ?_;cases z:fC (nF W)with
 |false=>exact aa.pos rfl (aa.some ⟨_,rfl,fun h=>by cases h⟩)
 | true =>
  have v:(gf (nF W)).length=2:=by simp[gf,nF]
  refine aa.neg rfl ?_;simp only[cond_true]
  (dsimp +instances only[Aa,Ab,Ac,Ad,Ae,Af,Ag])
  rw[afB];cases B:ak 0 (l_ lz (W.getD 1 []))with
  |false=>exact aa.pos rfl (aa.some ⟨_,rfl,fun h=>by cases h⟩)
  | true =>
   refine aa.neg rfl ?_;rw[Bj,v,oZ W 2 (by omega),Bn _ 0 (by omega),Bn _ 1 (by omega)];refine aa.pos rfl (aa.pos rfl ?_);refine aa.cE (afv (W.getD 2 [])) ?_;exact aa.pos rfl (aa.some ⟨_,rfl,fun _=>rfl⟩)
theorem afD(rows:List (List G))(p:List UInt8)(I:rows.length≤900000)(u:p.length≤900000):aa (wD [.l rows,.s (aU p)]) fun g=>∃ rows',g=[.l rows',.t (cX p)]∧rows'.length≤rows.length+1∧(cX p=true→rows'=rows++[dT p]):=by
 have hw:=afe (aU p) (by rw[eM]; exact u);rw[eL]at hw;have hle:∀ y∈cM 32 p,y.length≤p.length:=fun y k=>HT k;unfold wD
 (dsimp +instances only[Aa,Ab,Ac,Ad,Ae,Af,Ag])
 refine aa.cE hw ?_
 (dsimp +instances only[Aa,Ab,Ac,Ad,Ae,Af,Ag])
 rw[iW];unfold cX dT;generalize cM 32 p=W at hle;have v:∀ y∈W,y.length≤900000:=fun y k=>jZ (hle y k) u;refine aa.test (fun h1=>?_) fun h1=>?_
 ·have h1 : gd W = false := by simpa using h1
  rw[h1];exact aa.p (aa.some ⟨rows,rfl,by omega,fun h=>by cases h⟩)
 have h1:gd W=true:=by simpa using h1
 rw[h1,dq];unfold HW;refine aa.test (fun h=>?_) fun h=>?_
 ·rw [Q7 h]
  exact aa.p (aa.some ⟨rows,rfl,by omega,fun h=>by cases h⟩)
 have z:=Q8 h;rw[z,oZ W 0 (by omega),oZ W 3 (by omega)];refine aa.pos rfl (aa.pos rfl ?_);refine aa.call (afg (nF W) (by simp[nF]) (Q6 v)) ?_;rintro _ ⟨V,rfl,q,B⟩;have q:V.length=2:=by rw[q]; rfl
 (dsimp +instances only[Aa,Ab,Ac,Ad,Ae,Af,Ag])
 rw[Bj,q];refine aa.pos rfl ?_;refine aa.cE Q5 ?_;rw[oZ W 1 (by omega)];refine aa.pos rfl ?_;refine aa.cE (indexAny lz (W.getD 1 []) (by decide)) ?_;rw[oZ W 2 (by omega)];refine aa.pos rfl ?_;refine aa.cE (afw (W.getD 2 [])) ?_
 (dsimp +instances only[Aa,Ab,Ac,Ad,Ae,Af,Ag])
 rw[Bn V 0 (by omega),Bn V 1 (by omega)];refine aa.pos rfl (aa.p ?_);refine aa.test (fun d=>?_) fun d=>?_
 ·have d : fC (nF W) = true := d
  rw[d];refine aa.pos (by simp) (aa.some ⟨_,rfl,by simp,fun _=>?_⟩);rw[B d];rfl
 ·have d : fC (nF W) = false := d
  rw[d];exact aa.pos (by simp) (aa.some ⟨_,rfl,by simp,fun h=>by cases h⟩)
def iZ(L:List (List UInt8)):Nat:=L.findIdx fun p => !cX p
theorem Q9{L:List (List UInt8)}{i:Nat}(hi:i<L.length)(h:(L.take i).all cX=true)(hb:cX L[i]=false):iZ L=i:=by
 unfold iZ;rw[List.findIdx_eq hi];refine⟨by rw[hb]; rfl,fun j g=>?_⟩;have d:j<(L.take i).length:=by rw[jy]; omega
 have:=bO.1 h (L.take i)[j] (iJ d);rw[List.getElem_take]at this;rw[this];rfl
theorem Q_{L:List (List UInt8)}(h:L.all cX=true):iZ L=L.length:=by
 unfold iZ;rw[List.findIdx_eq_length];intro p d;rw[bO.1 h p d];rfl
theorem Ra:∀(L:List (List UInt8)) (z:List UInt8) (i:Nat),(dt (L.drop i) z).length≤(dt L z).length
 | [],z,i=>by simp
 |p::L,z,0=>aH _
 | p::L,z,i+1=>by
  have:=Ra L z i;rw[tH,List.drop_succ_cons,dV,cw];omega
theorem afE(L:List (List UInt8))(z:List UInt8)(J:∀ p∈L,(10:UInt8)∉p)(M:(10:UInt8)∉z)(N:(dt L z).length≤900000)(V:L.length≤900000) :
  aa (AJ [.l [],.s (aU (dt L z))]) fun g=>∃(rows:List (List G)) (k:Int),g=[.l rows,.i k,.t (L.all cX&&z.isEmpty)]∧((L.all cX&&z.isEmpty)=true→rows=L.map dT)∧((L.all cX&&z.isEmpty)=false→k=(iZ L:Int)):=by
 unfold AJ
 (dsimp +instances only[Aa,Ab,Ac,Ad,Ae,Af,Ag])
 refine aa.loop (P:=fun c g=>(c=1∧(L.all cX&&z.isEmpty)=true∧g=[.l (L.map dT)])∨(c=0∧(L.all cX&&z.isEmpty)=false∧∃ rows:List (List G),g=[.l rows,.i (iZ L:Int),.t false])) ?_ rfl ?_
 ·refine ((jU (σ:=Unit) (fun _ i=>[.l ((L.take i).map dT),.s (aU (dt (L.drop i) z)),.i (i:Int)]) L.length
   (fun _=>bif z.isEmpty then (1,[.l (L.map dT)]) else (0,[.l (L.map dT),.i (L.length:Int),.t false]))
   (fun _ i=>(L.take i).all cX=true)
   (fun c g=>c=0∧(L.all cX&&z.isEmpty)=false∧∃ rows:List (List G),g=[.l rows,.i (iZ L:Int),.t false]) ?_ ?_ L.length () 0 (by omega) rfl).to (by omega)).mono ?_
  ·rintro _ i q hi
   have v:L.take (i+1)=L.take i++[L[i]]:=by rw[nN,bd hi]; rfl
   have y:L.drop i=L[i]::L.drop (i+1):=SF hi;have hm:L[i]∈L:=iJ hi;have hb:=fun h=>Q9 hi q h;have hlen:(dt (L.drop i) z).length≤900000:=jZ (Ra L z i) N;rw[y,tH]at hlen;generalize L[i]=p at v y hm hb hlen;unfold AI
   (dsimp +instances only[Aa,Ab,Ac,Ad,Ae,Af,Ag])
   rw[y,qE,tH];refine aa.pos (by simp) ?_;refine aa.cE (afl p _ (J p hm) hlen) ?_
   (dsimp +instances only[Aa,Ab,Ac,Ad,Ae,Af,Ag])
   refine aa.neg rfl ?_;have B:p.length≤900000:=by simp at hlen; omega
   have R:((L.take i).map dT).length=i:=by simp; omega
   refine aa.vN (afD ((L.take i).map dT) p (by omega) B) (by simp) ?_;rintro _ ⟨rows',rfl,U,I⟩
   (dsimp +instances only[Aa,Ab,Ac,Ad,Ae,Af,Ag])
   refine aa.test (fun d=>?_) fun d=>?_
   ·have d : cX p = false := by simpa using d
    refine aa.pos (by simp) (aa.some (.inr ⟨0,_,rfl,rfl,?_,rows',?_⟩))
    ·cases O : L.all cX with
     |false=>rfl
     |true=>rw[bO.1 O p hm]at d; cases d
    ·rw[hb d]
   ·have d : cX p = true := by simpa using d
    refine aa.p (aa.pos (by simp) (aa.some (.inl ⟨(),?_,?_⟩)))
    ·rw [I d, v]
     simp
    ·rw [v, nO, q]
     simp[d]
  ·rintro _ q
   rw[iK]at q;unfold AI
   (dsimp +instances only[Aa,Ab,Ac,Ad,Ae,Af,Ag])
   rw[iK,List.drop_length,qE];show aa (bif !z.isEmpty then aj (lv [.s (aU z),_]) _ else _) _
   cases he:z.isEmpty with
   |true=>exact aa.neg rfl (aa.pos (by simp) (aa.some rfl))
   | false =>
    refine aa.pos rfl ?_;refine aa.cE (afm z M) ?_;exact aa.pos rfl (aa.pos (by simp) (aa.some rfl))
  ·rintro c g (⟨_, q, u, d⟩ | h)
   ·rw [iK] at q
    cases he:z.isEmpty with
    | true =>
     rw[he]at u d;exact .inl ⟨u,by rw[q]; rfl,d⟩
    | false =>
     rw[he]at u d;exact .inr ⟨u,by rw[SR],_,by rw[Q_ q]; exact d⟩
   ·exact .inr h
 ·rintro c g (⟨rfl, q, rfl⟩ | ⟨rfl, q, rows, rfl⟩)
  ·rw [q]
   exact aa.neg rfl (aa.pos (by simp) (aa.some ⟨_,0,rfl,(fun _=>rfl),(fun h=>by cases h)⟩))
  ·rw [q]
   exact aa.pos rfl (aa.pos (by simp) (aa.some ⟨rows,(iZ L:Int),rfl,(fun h=>by cases h),(fun _=>rfl)⟩))
theorem Bo(L:List (List UInt8))(z:List UInt8):(eO L z).length=bif z.isEmpty then L.length else L.length+1:=by
 unfold eO;cases z.isEmpty<;>simp
theorem afF{L:List (List UInt8)}{z:List UInt8}{i:Nat}(hi:i<(eO L z).length) (k:((eO L z).take i).all cX=true)
  (h:cX (eO L z)[i]=false∨(z.isEmpty=false∧i+1=(eO L z).length)):iZ L=i∧(L.all cX&&z.isEmpty)=false:=by
 by_cases d:i<L.length
 ·have u:(eO L z)[i]=L[i]:=by
   have:(eO L z)[i]? = L[i]? := by
    unfold eO;cases z.isEmpty with
    |true=>rfl
    |false=>exact List.getElem?_append_left d
   rw[bd hi,bd d]at this;exact gh this
  have q:(eO L z).take i=L.take i:=by
   unfold eO;cases z.isEmpty with
   |true=>rfl
   |false=>exact List.take_append_of_le_length (by omega)
  rw[u]at h;rw[q]at k;have hb:cX L[i]=false:=by
   rcases h with h|⟨h1,t⟩
   ·exact h
   ·rw [Bo, h1] at t
    have t:i+1=L.length+1:=t;omega
  refine⟨Q9 d k hb,?_⟩;cases v:L.all cX with
  |false=>rfl
  | true =>
   rw[bO.1 v _ (iJ d)]at hb;cases hb
 ·have g:z.isEmpty=false:=by
   cases g:z.isEmpty with
   |false=>rfl
   | true =>
    rw[Bo,g]at hi;exact(d hi).elim
  have q:i=L.length:=by
   rw[Bo,g]at hi;have hi:i<L.length+1:=hi;omega
  have y:(eO L z).take i=L:=by
   unfold eO;rw[g,q];simp
  rw[y]at k;exact⟨by rw[Q_ k,q],by rw[g,SR]⟩
theorem afG(L:List (List UInt8))(z:List UInt8)(hL:∀ p∈L,(10:UInt8)∉p)(hz:(10:UInt8)∉z)(M:(dt L z).length≤200000)(hn:L.length≤200000)(e:Int)(he:l7 [.l (L.map dT)]=some [.i e]) :
  oO [.s (aU (dt L z))]=some (bif L.all cX&&z.isEmpty then (bif e != 0 then [.l [],.i 0,.i e] else [.l (L.map dT),.i 0,.i 0]) else [.l [],.i (iZ L:Int),.i 9]):=by
 have hle:=HS L z;have I:=Bo L z;have hnn:(eO L z).length≤200001:=by
  rw[I];cases z.isEmpty
  ·show L.length + 1 ≤ 200001
   omega
  ·show L.length ≤ 200001
   omega
 have U:∀ p∈eO L z,p.length≤200000:=by
  intro p d;unfold eO at d;have h1:p∈L→p.length≤200000:=fun h=>jZ (hle.1 p h) M;cases k:z.isEmpty with
  |true=>rw[k]at d; exact h1 d
  | false =>
   rw[k]at d;rcases cG.1 d with d|d
   ·exact h1 d
   ·rw [ib.1 d]
    exact jZ hle.2 M
 refine aa.toEq ?_;unfold oO
 (dsimp +instances only[Aa,Ab,Ac,Ad,Ae,Af,Ag])
 refine aa.neg (by rw[eM,aZ,decide_eq_false_iff_not]; omega) ?_;refine aa.cE (afk L z hL hz (by omega)) ?_
 (dsimp +instances only[Aa,Ab,Ac,Ad,Ae,Af,Ag])
 rw[iW];refine aa.loop (P:=fun c g=>(c=1∧(L.all cX&&z.isEmpty)=true∧g=[.l (L.map dT)])∨(c=0∧(L.all cX&&z.isEmpty)=false∧g=[.l [],.i (iZ L:Int),.i 9])) ?_ rfl ?_
 ·have hI : z.isEmpty = false → 0 < (eO L z).length := fun h => by rw [I, h]; exact Nat.succ_pos _
  have R:(eO L z).all cX=true→(z.isEmpty=false→(eO L z).length<(eO L z).length)→(L.all cX&&z.isEmpty)=true∧eO L z=L:=fun h1 v=>by
   cases k:z.isEmpty with
   |false=>exact absurd (v k) (Nat.lt_irrefl _)
   | true =>
    have N:eO L z=L:=by unfold eO; rw[k]; rfl
    rw[N]at h1;exact⟨by rw[h1]; rfl,N⟩
  have V:=@afF L z;generalize eO L z=S at *;refine((jU (σ:=Unit) (fun _ i=>[.l ((S.take i).map dT),.l (dJ S),.t z.isEmpty,.l (dJ S),.i (S.length:Int),.i (i:Int)]) S.length
   (fun _=>(1,[.l (S.map dT)]))
   (fun _ i=>(S.take i).all cX=true∧(z.isEmpty=false→i<S.length))
   (fun c g=>c=0∧(L.all cX&&z.isEmpty)=false∧g=[.l [],.i (iZ L:Int),.i 9]) ?_ ?_ S.length () 0 (by omega) ⟨rfl,hI⟩).to (by omega)).mono ?_
  ·rintro _ i ⟨d, u⟩ hi
   have y:S.take (i+1)=S.take i++[S[i]]:=by rw[nN,bd hi]; rfl
   have hm:S[i]∈S:=iJ hi;have hb:=V hi d;have O:=qD S i hi;generalize S[i]=p at y hm hb O;have J:=U p hm;have J:p.length≤900000:=by omega
   have hml:((S.take i).map dT).length=i:=by simp; omega
   have err:iZ L=i∧(L.all cX&&z.isEmpty)=false→∀{Q:Option Nat × List G→Prop},(∀ c g,(c=0∧(L.all cX&&z.isEmpty)=false∧g=[.l [],.i (iZ L:Int),.i 9])→Q (some c,g))→aa (some (some 0,[G.l [],G.i (i:Int),G.i 9])) Q:=fun h Q hQ =>
    aa.some (hQ 0 _ ⟨rfl,h.2,by rw[h.1]⟩)
   have hrl:=afC p J;unfold Ax
   (dsimp +instances only[Aa,Ab,Ac,Ad,Ae,Af,Ag])
   rw[iW];refine aa.p (aa.p ?_);simp only[bp,O]
   (dsimp +instances only[Aa,Ab,Ac,Ad,Ae,Af,Ag])
   refine aa.call hrl ?_;rintro _ ⟨row,rfl,W⟩;cases B:cX p with
   |false=>exact aa.pos rfl (err (hb (.inl B)) fun c g h=>.inr ⟨c,g,rfl,h⟩)
   | true =>
    refine aa.neg rfl ?_;have step:(z.isEmpty=false→i+1<S.length)→((S.take i).map dT++[be aQ row])=(S.take (i+1)).map dT∧((S.take (i+1)).all cX=true∧(z.isEmpty=false→i+1<S.length)):=fun v=>by
     refine⟨?_,?_,v⟩
     ·rw [y, iI, List.map_singleton, W B]
      rfl
     ·rw [y, nO, d, iG, B]
      rfl
    cases k:z.isEmpty with
    | true =>
     obtain⟨s1,s2⟩:=step (fun h=>by rw[k]at h; cases h);refine aa.neg rfl (aa.p (aa.p (aa.pos (by simp) (aa.some (.inl ⟨(),?_,?_⟩)))))
     ·(dsimp +instances only [Aa,Ab,Ac,Ad,Ae,Af,Ag])
      rw[s1];rfl
     ·rw [k] at s2
      exact s2
    | false =>
     refine aa.pos rfl (aa.p ?_);cases q:((i:Int)==(S.length:Int)-1)with
     | true =>
      have q:(i:Int)=(S.length:Int)-1:=by simpa using q
      exact aa.pos rfl (err (hb (.inr ⟨k,by omega⟩)) fun c g h=>.inr ⟨c,g,rfl,by rw[k]at h; exact h⟩)
     | false =>
      have q:(i:Int)≠(S.length:Int)-1:=by simpa using q
      obtain⟨s1,s2⟩:=step (fun _=>by omega);refine aa.neg rfl (aa.p (aa.p (aa.pos (by simp) (aa.some (.inl ⟨(),?_,?_⟩)))))
      ·(dsimp +instances only [Aa,Ab,Ac,Ad,Ae,Af,Ag])
       rw[s1];rfl
      ·rw [k] at s2
       exact s2
  ·rintro _ ⟨d, u⟩
   unfold Ax
   (dsimp +instances only[Aa,Ab,Ac,Ad,Ae,Af,Ag])
   rw[iW,iK];exact aa.n (aa.pos (by simp) (aa.some rfl))
  ·rintro c g (⟨_, ⟨d, u⟩, rfl, rfl⟩ | h)
   ·rw [iK] at d
    have h:=R d u;exact .inl ⟨rfl,h.1,by rw[h.2]⟩
   ·exact .inr h
 ·rintro c g (⟨rfl, d, rfl⟩ | ⟨rfl, d, rfl⟩)
  ·rw [d]
   (dsimp +instances only[Aa,Ab,Ac,Ad,Ae,Af,Ag])
   refine aa.neg rfl ?_;refine aa.vN (aa.eq he) (by simp) ?_;rintro _ rfl
   (dsimp +instances only[Aa,Ab,Ac,Ad,Ae,Af,Ag])
   cases hq:(e != 0)with
   |true=>exact aa.pos rfl (aa.some rfl)
   |false=>exact aa.neg rfl (aa.pos (by simp) (aa.some rfl))
  ·rw [d]
   exact aa.pos rfl (aa.some rfl)
theorem afH(ws:List ByteArray)(h:ws.length≤1000) (d:(iT (ws.map (·.data.toList))).length≤1000000):oR [.l (ws.map fun w=>[.s w]),.s (⟨#[32]⟩:ByteArray)]=some [.s (aU (eR (ws.map (·.data.toList)) [32]))]:=by
 have e:lY (ws.map fun w=>[G.s w]) (⟨#[32]⟩:ByteArray)=aU (eR (ws.map (·.data.toList)) [32]):=by
  unfold lY;rw[Qy];rfl
 have g:(eR (ws.map (·.data.toList)) [32]).length+1≤1000000:=by
  simpa[iT]using d
 refine aa.toEq ?_;unfold oR vK
 (dsimp +instances only[Aa,Ab,Ac,Ad,Ae,Af,Ag])
 rw[e,eM];refine aa.pos ?_ (aa.some rfl);rw[dv,ar,cK,cK];omega
theorem xh{a b:ByteArray}(ha:bN a=true)(hb:bN b=true):bN (a++b)=true:=by
 unfold bN at *;rw[show (a++b).data.toList=a.data.toList++b.data.toList by simp,nO,ha,hb];rfl
theorem afI(b:UInt8)(h:b.toNat<128):(nG (IntKind.i32.wrap (b.toNat:Int))).data.toList=[b]:=by
 have:=oY (fun b => !(cJ b.toNat 128)||(nG (IntKind.i32.wrap (b.toNat:Int))).data.toList==[b]) (by kernel_rfl) b;have h':cJ b.toNat 128=true:=by rw[dM]; exact h
 rw[h']at this;simpa using this
theorem afJ(l:List (List G))(a:Int)(t w:ByteArray)(ha:0≤a)(R:a≤900000)(y:bN t=true)(hw:bN w=true)(U:t.size≤900000)(V:0<w.size)(W:w.size≤100) :
  aa (z6 [.l l,.i a,.s t,.s w]) fun g=>∃ b t',g=[.l l,.i b,.s t']∧a≤b∧b≤a+3∧bN t'=true∧t'.size≤t.size+100:=by
 unfold z6
 (dsimp +instances only[Aa,Ab,Ac,Ad,Ae,Af,Ag])
 have J:∀ s:ByteArray,(s.toList==(⟨#[]⟩:ByteArray).toList)=af s.size 0:=fun s=>by
  rw[←l9 s,qE,eM];cases s.data.toList<;>rfl
 rw[J,J];refine aa.test (fun h0=>aa.some ⟨a,w,rfl,by omega,by omega,hw,by omega⟩) fun h0=>?_;have h0:0<t.size:=by
  rcases Nat.eq_zero_or_pos t.size with h|h
  ·rw[h]at h0; cases h0
  ·exact h
 refine aa.neg (by cases hq:w.size with
  |zero=>omega
  |succ n=>rfl) ?_
 refine aa.call (oV l a _ (by omega) (by omega) (by omega) (by omega)) ?_;rintro _ ⟨i,rfl,M,hi1⟩
 (dsimp +instances only[Aa,Ab,Ac,Ad,Ae,Af,Ag])
 refine aa.call (oV l _ _ (by omega) (by omega) (by omega) (by omega)) ?_;rintro _ ⟨j,rfl,N,hj1⟩
 (dsimp +instances only[Aa,Ab,Ac,Ad,Ae,Af,Ag])
 refine aa.p ?_;refine aa.call (oV l _ 3 (by omega) (by omega) (by omega) (by omega)) ?_;rintro _ ⟨k,rfl,hk0,hk1⟩
 (dsimp +instances only[Aa,Ab,Ac,Ad,Ae,Af,Ag])
 obtain⟨i,rfl⟩:=xQ M;obtain⟨j,rfl⟩:=xQ N;simp only[bp,Int.ofNat_eq_natCast]at *;have z:=Bf hw (i:=j) (by omega);have d:=afI _ z;generalize hu:nG (IntKind.i32.wrap ((w.data.toList.getD j 0).toNat:Int))=u at d;have q:bN u=true:=by
  unfold bN;rw[d];simp only[iG,aik,fG,dM];exact z
 have v:u.size=1:=by rw[fU,d]; rfl
 have O:((i:Int)+1).toNat=i+1:=by omega
 rw[O];have s1:(t.extract 0 i).size=i:=by rw[qW]; omega
 have s2:(t.extract i t.size).size=t.size-i:=by rw[qW]; omega
 have B:(t.extract (i+1) t.size).size=t.size-(i+1):=by rw[qW]; omega
 have I:=Bg y i;have a2:=HH y i;have a3:=HH y (i+1);simp only[BY,s1,s2,B,v];refine aa.test (fun _=>?_) fun _=>?_
 ·refine aa.p (aa.pos (by rw [cK]; omega) (aa.p (aa.p (aa.pos (by rw [cK]; omega) (aa.some ⟨_, _, rfl, by omega, by omega, xh (xh I q) a3, ?_⟩)))))
  simp only[BY,s1,B,v];omega
 refine aa.test (fun _=>?_) fun _=>?_
 ·refine aa.p (aa.pos (by rw [cK]; omega) (aa.p (aa.pos (by rw [cK]; omega) (aa.some ⟨_, _, rfl, by omega, by omega, xh (xh I q) a2, ?_⟩))))
  simp only[BY,s1,s2,v];omega
 ·clear hu d q z h0
  have hi2:i<t.size:=by omega
  refine aa.pos (by rw[ar,eY,bx,decide_eq_true_eq,decide_eq_true_eq]; omega) ?_;refine aa.pos (eG.2 ⟨by omega,by omega⟩) ?_;refine aa.pos (by rw[ar,eY,bx,decide_eq_true_eq,decide_eq_true_eq]; omega) ?_;refine aa.pos (by rw[cK]; omega) ?_;refine aa.some ⟨_,_,rfl,by omega,by omega,xh I a3,?_⟩;simp only[BY,s1,B];omega
def kI(l:List UInt8):Prop:=∀ b∈l,b.toNat<128
theorem afK{l:List UInt8}(h:kI l):bN (aU l)=true:=by
 unfold bN;rw[eL,bO];exact fun b hb=>by rw[dM]; exact h b hb
theorem afL{n:Int}(h:0≤n):kI (eu n):=fun b hb=>by
 unfold eu at hb;rw[if_neg (by omega)]at hb;have:=Yj _ b hb;omega
theorem afM{s:ByteArray}(h:bN s=true){w:List UInt8}(hw:∀ b∈w,b∈s.data.toList):bN (aU w)=true:=by
 unfold bN at h⊢;rw[eL,bO];exact fun b hb=>bO.1 h b (hw b hb)
theorem Rb:∀(L:List (List UInt8)) (z:List UInt8),∀ p∈L,∀ b∈p,b∈dt L z
 | q::L,z,p,d,b,hb=>by
  rw[tH];rcases bS.1 d with rfl|d
  ·exact nM _ hb
  ·exact ud _ (cI _ (Rb L z p d b hb))
theorem Rc(l:List UInt8):(∀ b∈o9 l,b∈l)∧(o9 l).length≤l.length:=by
 unfold o9;split
 ·exact⟨fun b hb=>(by cases hb),dB _⟩
 ·exact⟨fun b hb=>hb,aH _⟩
/-! ### d is written -/
theorem xk{B:Nat}{f:List G→List (List UInt8)}:∀{x:List (List G)},(∀ z∈x,(iT (f z)).length≤B)→(ga (x.map f)).length≤B*x.length
 | [],_=>by simp[ga]
 | z::x,h=>by
  have g:=xk (x:=x) fun y d=>h y (cI z d);have:=h z cH;have e:ga ((z::x).map f)=iT (f z)++ga (x.map f):=rfl;rw[e,dV,cw,Nat.mul_succ];omega
theorem afN(s:ByteArray):zZ [.s s]=some [.s (aU (jW s.data.toList))]:=by
 refine aa.toEq ?_;unfold zZ
 (dsimp +instances only[Aa,Ab,Ac,Ad,Ae,Af,Ag])
 rw[dW,dW];cases d:s.data.toList with
 |nil=>exact aa.pos rfl (aa.some rfl)
 | cons b r =>
  refine aa.neg rfl (aa.some ?_);show [G.s s]=[G.s (aU (b::r))]
  rw[←d,l9]
theorem Re{s:ByteArray}(h:bN s=true):kI s.data.toList:=fun b hb=>by
 have:=bO.1 h b hb;simpa[dM]using this
theorem Rf:∀(x:List UInt8) (xs:List (List UInt8)),(∀ w∈x::xs,kI w)→kI (eR (x::xs) [32])
 | x,[],h=>by
  rw[qT];exact h x cH
 | x,y::d,h=>by
  have g:=Rf y d fun w hw=>h w (cI x hw);rw[l5];intro b hb;rcases cG.1 hb with hb|hb
  ·exact h x cH b hb
  ·rcases bS.1 hb with rfl | hb
   ·decide
   ·exact g b hb
theorem afO{x:List UInt8}{xs:List (List UInt8)}(h:∀ w∈x::xs,kI w):kI (iT (x::xs)):=by
 intro b hb;unfold iT at hb;rcases cG.1 hb with hb|hb
 ·exact Rf x xs h b hb
 ·rw [ib.1 hb]
  decide
theorem afP{l:List UInt8}(h:kI l):kI (jW l):=by
 cases l with
 | nil =>
  intro b hb;have hb:b∈[(45:UInt8)]:=hb;rw[ib.1 hb]
  decide
 |cons x r=>exact h
theorem afQ{s:ByteArray}(h:bN s=true){p:List UInt8}(g:∀ b∈p,b∈s.data.toList)(k:p.length≤200000):jr (dT p):=by
 refine⟨_,_,_,_,rfl,afM h fun b hb=>?_,?_⟩
 ·obtain ⟨y, d, hb⟩ := afu ((Rc _).1 b hb)
  exact g b (Ym d b hb)
 ·rw [eM]
  have:=Q3 (W:=cM 32 p) (i:=2) fun y d=>HT d;have:=(Rc ((cM 32 p).getD 2 [])).2;omega
theorem Rg{s:ByteArray}(ha:bN s=true){L:List (List UInt8)}{z:List UInt8}(u:s.data.toList=dt L z)(v:∀ p∈L,(10:UInt8)∉p)(g:(10:UInt8)∉z)(J:(dt L z).length≤200000)(M:L.length≤200000)
  (B:∀ r∈L.map dT,jr r) (e:Int) (N:l7 [.l (L.map dT)]=some [.i e]) (O:nm [.l (L.map dT)]=some [.i e]) (he:e=0→(L.map dT).length≤2000) :
  ∃(rows:List (List G)) (k e:Int),(∀ z∈rows,jr z)∧rows.length≤2000∧oO [.s s]=some [.l rows,.i k,.i e]∧oU [.s s]=some [.l rows,.i k,.i e]:=by
 have I:=fU s;rw[u]at I;have h1:=afG L z v g J M _ N;have hb:aU (dt L z)=s:=by rw[←u]; exact l9 s
 rw[hb]at h1;have d:oU [.s s]=some (bif L.all cX&&z.isEmpty then (bif e != 0 then [.l [],.i 0,.i e] else [.l (L.map dT),.i 0,.i 0]) else [.l [],.i (iZ L:Int),.i 9]):=by
  refine aa.toEq ?_;unfold oU
  (dsimp +instances only[Aa,Ab,Ac,Ad,Ae,Af,Ag])
  refine aa.neg (by rw[aZ,decide_eq_false_iff_not]; omega) ?_;have y:=afE L z v g (by omega) (by omega);rw[hb]at y;refine aa.call y ?_;rintro _ ⟨rows,k,rfl,t,R⟩
  (dsimp +instances only[Aa,Ab,Ac,Ad,Ae,Af,Ag])
  cases h:(L.all cX&&z.isEmpty)with
  | false =>
   rw[R h];exact aa.pos rfl (aa.some rfl)
  | true =>
   have t:=t h;subst t;refine aa.neg rfl ?_;refine aa.vN (aa.eq O) (by simp) ?_;rintro _ rfl
   (dsimp +instances only[Aa,Ab,Ac,Ad,Ae,Af,Ag])
   cases q:(e != 0)with
   |true=>exact aa.pos rfl (aa.some rfl)
   |false=>exact aa.neg rfl (aa.pos (by simp) (aa.some rfl))
 cases h:(L.all cX&&z.isEmpty)with
 | false =>
  rw[h]at h1 d;exact⟨[],_,9,(fun z g=>by cases g),dB _,h1,d⟩
 | true =>
  rw[h]at h1 d;cases q:(e != 0)with
  | true =>
   rw[q]at h1 d;exact⟨[],0,_,(fun z g=>by cases g),dB _,h1,d⟩
  | false =>
   rw[q]at h1 d;exact⟨L.map dT,0,0,B,he (by simpa using q),h1,d⟩
theorem afR(s:ByteArray)(ha:bN s=true):∃(rows:List (List G)) (k e:Int),(∀ z∈rows,jr z)∧rows.length≤2000∧oO [.s s]=some [.l rows,.i k,.i e]∧oU [.s s]=some [.l rows,.i k,.i e]:=by
 by_cases N:200000<s.size
 ·refine ⟨[], 0, 2, (fun z g => by cases g), dB _, ?_, ?_⟩
  ·refine aa.toEq ?_
   unfold oO
   (dsimp +instances only[Aa,Ab,Ac,Ad,Ae,Af,Ag])
   exact aa.pos (by rw[aZ,decide_eq_true_eq]; omega) (aa.some rfl)
  ·refine aa.toEq ?_
   unfold oU
   (dsimp +instances only[Aa,Ab,Ac,Ad,Ae,Af,Ag])
   exact aa.pos (by rw[aZ,decide_eq_true_eq]; omega) (aa.some rfl)
 obtain⟨L,z,q,u,g,O⟩:=afi s.data.toList;have M:=fU s;have t:(dt L z).length≤200000:=by rw[←q]; omega
 have hle:=HS L z;have d:∀ r∈L.map dT,jr r:=fun r y=>by
  obtain⟨p,v,rfl⟩:=di.1 y;exact afQ ha (fun b hb=>by rw[q]; exact Rb L z p v b hb) (jZ (hle.1 p v) t)
 by_cases J:2000<L.length
 ·have B:l7 [.l (L.map dT)]=some [.i 2]:=by
   refine aa.toEq ?_;unfold l7
   (dsimp +instances only[Aa,Ab,Ac,Ad,Ae,Af,Ag])
   exact aa.pos (by rw[dv,aZ,decide_eq_true_eq]; omega) (aa.some rfl)
  have I:nm [.l (L.map dT)]=some [.i 2]:=by
   refine aa.toEq ?_;unfold nm
   (dsimp +instances only[Aa,Ab,Ac,Ad,Ae,Af,Ag])
   exact aa.pos (by rw[dv,aZ,decide_eq_true_eq]; omega) (aa.some rfl)
  exact Rg ha q u g t (by omega) d 2 B I (fun h=>by cases h)
 ·exact Rg ha q u g t (by omega) d _ (HU _ d) (HV _ d) (fun _=>by rw[dv]; omega)
/-! ### d is written -/
def qH:List ByteArray:=[⟨#[]⟩,⟨#[107,49,97,98]⟩,⟨#[111,104,50,97,98,99,47,112]⟩,⟨#[65]⟩]
def ma(r:List G):Prop:=∃(n k:Int) (w:ByteArray) (a:Int),r=[.i n,.i k,.s w,.i a]∧w∈qH
theorem afS:(qH.all fun w=>bN w&&bI w.size 20)=true:=by kernel_rfl
theorem Rh{w:ByteArray}(h:w∈qH):bN w=true∧w.size≤20:=by
 have:=bO.1 afS w h;rw[ar,cK]at this;exact this
theorem ma.to{r:List G}(h:ma r):jr r:=by
 obtain⟨n,k,w,a,e,hw⟩:=h;have:=Rh hw;exact⟨n,k,w,a,e,this.1,by omega⟩
def kJ(k:Int):List UInt8:=lz.getD k.toNat []
def i_(r:List G):Prop:=∃(n k:Int) (w:ByteArray) (a:Int),r=[.i n,.i k,.s w,.i a]∧(0≤n∧n≤1999)∧(1≤k∧k≤6)∧w∈qH∧(-1≤a∧a≤1999)
theorem HX{a u v:Int}(h:cB a u v=true):u≤a∧a≤v:=by simpa[cB,bx]using h
theorem Ri{x:List (List G)}(v:∀ z∈x,ma z)(B:x.length≤2000)(d:nr x=0):∀ z∈x,i_ z:=fun z q=>by
 obtain⟨i,hi,rfl⟩:=List.getElem_of_mem q;unfold nr at d;rw[if_neg (by omega)]at d;have h:=Qv d i hi;have y:x.getD i []=x[i]:=by rw[b_,bd hi]; rfl
 obtain⟨n,k,w,a,e,hw⟩:=v x[i] q;unfold nq at h;rw[y,e]at h;have h:fV n k w a (iE k) (fD x i n)=0:=h;unfold fV at h;cases h1:cB n 0 1999 with
 |false=>rw[h1]at h; cases h
 |true =>
 cases g:cB k 1 6 with
 |false=>rw[h1,g]at h; cases h
 |true =>
 rw[h1,g]at h;simp only[BT,cond_false]at h;cases t:(!af w.size 0) && !iV w with
 |true=>rw[t]at h; cases h
 |false =>
 rw[t]at h;simp only[cond_false]at h;cases u:cB a (-1) 1999 with
 |false=>rw[u]at h; cases h
 |true=>exact⟨n,k,w,a,e,HX h1,HX g,hw,HX u⟩
def fE(r:List G):List (List UInt8):=[eu (gi r 0).int,kJ (gi r 1).int,jW (gi r 2).str.data.toList,eu (gi r 3).int]
theorem afT{k:Int}(h:1≤k∧k≤6):(kJ k).length≤20∧bN (aU (kJ k))=true:=by
 have:k=1∨k=2∨k=3∨k=4∨k=5∨k=6:=by omega
 rcases this with rfl|rfl|rfl|rfl|rfl|rfl<;>exact⟨by decide,by kernel_rfl⟩
theorem Rj{k:Int}(h:1≤k∧k≤6):(gi ((dJ lz).getD k.toNat []) 0).str=aU (kJ k):=by
 have:k=1∨k=2∨k=3∨k=4∨k=5∨k=6:=by omega
 rcases this with rfl|rfl|rfl|rfl|rfl|rfl<;>rfl
theorem Rk{n:Int}(h : -1≤n∧n≤1999):(eu n).length≤20∧kI (eu n):=by
 by_cases h0:0≤n
 ·have := aeS h0 (by omega)
  exact⟨by omega,afL h0⟩
 ·have : n = -1 := by omega
  subst this;have e:eu (-1)=[45,49]:=by
   unfold eu;rw[if_pos (by omega),show (-1:Int).natAbs=1 from rfl,lq (by omega)];rfl
  rw[e];exact⟨by decide,fun b hb=>by revert b; decide⟩
theorem afU{l:List UInt8}(h:l.length≤20):(jW l).length≤20:=by
 cases l with
 |nil=>show [45].length≤20; simp
 |cons b r=>exact h
theorem Rl{r:List G}(h:i_ r):∀ v∈fE r,v.length≤20∧kI v:=by
 obtain⟨n,k,w,a,rfl,q,hk,hw,ha⟩:=h;intro v d;have d:v∈[eu n,kJ k,jW w.data.toList,eu a]:=d;have g:=Rh hw;have t:=fU w;simp only[bS,BU,or_false]at d;rcases d with rfl|rfl|rfl|rfl
 ·exact Rk ⟨by omega,q.2⟩
 ·have := afT hk
  refine⟨this.1,?_⟩;have:=Re this.2
  rwa [eL]at this
 ·exact⟨afU (by omega),afP (Re g.1)⟩
 ·exact Rk ha
theorem tK{r:List G}(h:i_ r):(iT (fE r)).length≤100:=by
 have hi:=Rl h;have e:fE r=[eu (gi r 0).int,kJ (gi r 1).int,jW (gi r 2).str.data.toList,eu (gi r 3).int]:=rfl;have h0:=(hi (eu (gi r 0).int) (by rw[e]; simp)).1;have h1:=(hi (kJ (gi r 1).int) (by rw[e]; simp)).1;have d:=(hi (jW (gi r 2).str.data.toList) (by rw[e]; simp)).1;have g:=(hi (eu (gi r 3).int) (by rw[e]; simp)).1;rw[e];unfold iT;rw[l5,l5,l5,qT];simp only[dV,cw,pA];omega
theorem afV(x:List (List G))(h:∀ z∈x,ma z)(q:nr x=0)(B:x.length≤20):tw [.l x]=some [.s (aU (ga (x.map fE))),.i 0]:=by
 have d:=Ri h (by omega) q;refine aa.toEq ?_;unfold tw
 (dsimp +instances only[Aa,Ab,Ac,Ad,Ae,Af,Ag])
 refine aa.cE (HU x fun z g=>(h z g).to) ?_
 (dsimp +instances only[Aa,Ab,Ac,Ad,Ae,Af,Ag])
 rw[q];refine aa.neg rfl ?_;have r:=Ek (st:=w8) (σ:=Unit) (fun _ i=>[.s (aU (ga ((x.take i).map fE))),.l x,.i (x.length:Int),.i (i:Int)]) x (fun _=>(0,[.s (aU (ga (x.map fE)))])) (fun _ _=>True) () (by omega) trivial
  (fun _ i z _ hi g hm t => by
   have u:=tK (d _ hm);have v:(ga ((x.take i).map fE)).length≤100*(x.take i).length:=xk fun w hw=>tK (d w (nC hw));have y:(x.take i).length≤20:=by rw[jy]; omega
   obtain⟨n,k,w,a,rfl,h1,hk,hw,ha⟩:=d z hm;unfold w8
   (dsimp +instances only[Aa,Ab,Ac,Ad,Ae,Af,Ag])
   simp only[bp,g];refine aa.p (aa.p ?_)
   (dsimp +instances only[Aa,Ab,Ac,Ad,Ae,Af,Ag])
   refine aa.cE (xc n (by omega) (by omega)) ?_;refine aa.cE Q4 ?_
   (dsimp +instances only[Aa,Ab,Ac,Ad,Ae,Af,Ag])
   refine aa.pos (by rw[show (dJ lz).length=7 from rfl,ar,eY,aZ,decide_eq_true_eq,decide_eq_true_eq]; omega) ?_;refine aa.cE (aeR w) ?_;refine aa.cE (xc a (by omega) (by omega)) ?_
   (dsimp +instances only[Aa,Ab,Ac,Ad,Ae,Af,Ag])
   rw[Rj hk];have e:[kE n,aU (kJ k),aU (jW w.data.toList),kE a].map (·.data.toList)=fE [.i n,.i k,.s w,.i a]:=by
    simp only[cY,kV,HD,eL];rfl
   refine aa.cE (aeN [kE n,aU (kJ k),aU (jW w.data.toList),kE a] (by simp) (by rw[e]; omega)) ?_
   (dsimp +instances only[Aa,Ab,Ac,Ad,Ae,Af,Ag])
   rw[e];refine aa.cE (aeO _ _ (by rw[eM,eM]; omega)) ?_
   (dsimp +instances only[Aa,Ab,Ac,Ad,Ae,Af,Ag])
   refine aa.p (aa.some ⟨(),?_,trivial⟩);rw[t,iI,show [[G.i n,G.i k,G.s w,G.i a]].map fE=[fE [G.i n,G.i k,G.s w,G.i a]] from rfl,Nb,←Be];rfl)
  (fun _ _ => by
   unfold w8
   (dsimp +instances only[Aa,Ab,Ac,Ad,Ae,Af,Ag])
   rw[iK];exact aa.n (aa.some rfl))
 refine aa.loop r (by simp) ?_;rintro _ _ ⟨_,_,rfl,rfl⟩
 (dsimp +instances only[Aa,Ab,Ac,Ad,Ae,Af,Ag])
 have u:(ga (x.map fE)).length≤100*x.length:=xk fun w hw=>tK (d w hw);refine aa.cE (aeP _) ?_
 (dsimp +instances only[Aa,Ab,Ac,Ad,Ae,Af,Ag])
 refine aa.neg (by rw[eM,aZ,decide_eq_false_iff_not]; omega) ?_;refine aa.cE (aeQ _) ?_;exact aa.some rfl
theorem Rm(x:List (List G))(d:∀ z∈x,i_ z)(B:x.length≤20):wY [.l x]=some [.s (aU (ga (x.map fE)))]:=by
 refine aa.toEq ?_;unfold wY
 (dsimp +instances only[Aa,Ab,Ac,Ad,Ae,Af,Ag])
 have r:=Ek (st:=wX) (σ:=Unit) (fun _ i=>[.s (aU (ga ((x.take i).map fE))),.l x,.i (x.length:Int),.i (i:Int)]) x (fun _=>(0,[.s (aU (ga (x.map fE)))])) (fun _ _=>True) () (by omega) trivial
  (fun _ i z _ hi h hm q => by
   have t:=tK (d _ hm);have u:(eR (fE z) [32]).length+1≤100:=by simpa[iT]using t
   have v:(ga ((x.take i).map fE)).length≤100*(x.take i).length:=xk fun w hw=>tK (d w (nC hw));have y:(x.take i).length≤20:=by rw[jy]; omega
   have g:(⟨#[10]⟩:ByteArray).size=1:=rfl;obtain⟨n,k,w,a,rfl,h1,hk,hw,ha⟩:=d z hm;unfold wX
   (dsimp +instances only[Aa,Ab,Ac,Ad,Ae,Af,Ag])
   simp only[bp,h];refine aa.p (aa.p ?_)
   (dsimp +instances only[Aa,Ab,Ac,Ad,Ae,Af,Ag])
   refine aa.cE (xc n (by omega) (by omega)) ?_;refine aa.cE Q5 ?_
   (dsimp +instances only[Aa,Ab,Ac,Ad,Ae,Af,Ag])
   refine aa.pos (by rw[show (dJ lz).length=7 from rfl,ar,eY,aZ,decide_eq_true_eq,decide_eq_true_eq]; omega) ?_;refine aa.cE (afN w) ?_;refine aa.cE (xc a (by omega) (by omega)) ?_
   (dsimp +instances only[Aa,Ab,Ac,Ad,Ae,Af,Ag])
   rw[Rj hk];have e:[kE n,aU (kJ k),aU (jW w.data.toList),kE a].map (·.data.toList)=fE [.i n,.i k,.s w,.i a]:=by
    simp only[cY,kV,HD,eL];rfl
   refine aa.cE (afH [kE n,aU (kJ k),aU (jW w.data.toList),kE a] (by simp) (by rw[e]; omega)) ?_
   (dsimp +instances only[Aa,Ab,Ac,Ad,Ae,Af,Ag])
   rw[e];simp only[BY,eM,g];refine aa.pos (by rw[cK]; omega) (aa.pos (by rw[cK]; omega) (aa.p (aa.some ⟨(),?_,trivial⟩)));rw[q,iI,show [[G.i n,G.i k,G.s w,G.i a]].map fE=[fE [G.i n,G.i k,G.s w,G.i a]] from rfl,Nb,←Be];unfold iT;rw[←Be];rfl)
  (fun _ _ => by
   unfold wX
   (dsimp +instances only[Aa,Ab,Ac,Ad,Ae,Af,Ag])
   rw[iK];exact aa.n (aa.some rfl))
 refine aa.loop r (by simp) ?_;rintro _ _ ⟨_,_,rfl,rfl⟩;exact aa.some rfl
theorem Rn(l:List (List G))(n:Nat)(O:n≤20):∀(k i:Nat) (a t:Int) (acc:List (List G)),i+k=n→0≤a→a+20*(k:Int)≤500000→0≤t→t≤3*(i:Int)→(∀ z∈acc,i_ z)→acc.length=i →
  a6 sQ [.l l,.i a,.l acc,.i t,.i (n:Int),.i (i:Int)] (k+1) fun c g=>c=0∧∃ b rows,g=[.l l,.i b,.l rows]∧a≤b∧b≤a+20*k∧(∀ z∈rows,i_ z)∧rows.length=n
 | 0,i,a,t,acc,hi,ha,M,R,N,u,J=>by
  refine a6.stop (x:=0) (aa.toEq ?_) ⟨rfl,a,acc,rfl,by omega,by omega,u,by omega⟩;unfold sQ
  (dsimp +instances only[Aa,Ab,Ac,Ad,Ae,Af,Ag])
  exact aa.neg (by rw[aZ,decide_eq_false_iff_not]; omega) (aa.pos (by simp) (aa.some rfl))
 | k+1,i,a,t,acc,hi,ha,M,R,N,u,J=>by
  have key:aa (sQ [.l l,.i a,.l acc,.i t,.i (n:Int),.i (i:Int)]) fun o=>∃ b r v,o=(none,[.l l,.i b,.l (acc++[r]),.i v,.i (n:Int),.i ((i:Int)+1)])∧a≤b∧b≤a+20∧i_ r∧0≤v∧v≤t+3:=by
   unfold sQ
   (dsimp +instances only[Aa,Ab,Ac,Ad,Ae,Af,Ag])
   refine aa.pos (by rw[aZ,decide_eq_true_eq]; omega) ?_;refine aa.call (nn l a 0 2 ha (by omega) (by omega) (by omega) (by omega)) ?_;rintro _ ⟨v,rfl,hv0,hv1⟩
   (dsimp +instances only[Aa,Ab,Ac,Ad,Ae,Af,Ag])
   refine aa.pos (eG.2 ⟨by omega,by omega⟩) ?_;refine aa.call (nn l _ 1 6 (by omega) (by omega) (by omega) (by omega) (by omega)) ?_;rintro _ ⟨kd,rfl,B,I⟩
   (dsimp +instances only[Aa,Ab,Ac,Ad,Ae,Af,Ag])
   refine aa.test (fun y=>?_) fun y=>?_
   ·refine aa.call (Qg qH l _ _ (by omega) (by omega) (by kernel_rfl) (by kernel_rfl)) ?_
    rintro _ ⟨w,rfl,hw⟩
    (dsimp +instances only[Aa,Ab,Ac,Ad,Ae,Af,Ag])
    refine aa.call (nn l _ 0 9 (by omega) (by omega) (by omega) (by omega) (by omega)) ?_;rintro _ ⟨q,rfl,hq0,hq1⟩
    (dsimp +instances only[Aa,Ab,Ac,Ad,Ae,Af,Ag])
    refine aa.pos (by rw[pC,dq,decide_eq_true_eq]; omega) (aa.pos (eG.2 ⟨by omega,by omega⟩) (aa.pos (eG.2 ⟨by omega,by omega⟩) (aa.pos (by simp) (aa.some ⟨_,_,_,rfl,by omega,by omega,⟨_,_,_,_,rfl,⟨by omega,by omega⟩,⟨B,I⟩,hw,⟨by omega,by omega⟩⟩,by omega,by omega⟩))))
   ·refine aa.pos (by rw[pC,dq,decide_eq_true_eq]; omega) (aa.pos (eG.2 ⟨by omega,by omega⟩) (aa.pos (eG.2 ⟨by omega,by omega⟩) (aa.pos (by simp) (aa.some ⟨_,_,_,rfl,by omega,by omega,⟨_,_,_,_,rfl,⟨by omega,by omega⟩,⟨B,I⟩,cH,⟨by omega,by omega⟩⟩,by omega,by omega⟩))))
  obtain⟨_,h,b,r,v,rfl,h1,h2,y,h4,h5⟩:=key;have U:=Rn l n O k (i+1) b v (acc++[r]) (by omega) (by omega) (by omega) (by omega) (by omega) (by
   intro z d;rcases cG.1 d with d|d
   ·exact u z d
   ·simp at d; exact d▸y) (by simp[J])
  refine a6.next h (U.mono ?_)
  rintro c g ⟨rfl,V,rows,rfl,q1,q2,W,q4⟩;exact⟨rfl,V,rows,rfl,by omega,by omega,W,q4⟩
theorem afW(l:List (List G))(a n:Int)(ha:0≤a)(q:a≤400000)(h0:0≤n)(h1:n≤20) :
  aa (zV [.l l,.i a,.i n]) fun g=>∃ b rows,g=[.l l,.i b,.l rows]∧a≤b∧b≤a+400∧(∀ z∈rows,i_ z)∧(rows.length:Int)=n:=by
 obtain⟨n,rfl⟩:=xQ h0;unfold zV
 (dsimp +instances only[Aa,Ab,Ac,Ad,Ae,Af,Ag])
 have d:=Rn l n (by omega) n 0 a 0 [] (by omega) ha (by omega) (by omega) (by omega) (by simp) rfl;refine aa.loop (d.to (by omega)) rfl ?_;rintro c g ⟨rfl,b,rows,rfl,h,t,k,u⟩
 (dsimp +instances only[Aa,Ab,Ac,Ad,Ae,Af,Ag])
 exact aa.pos (by simp) (aa.some ⟨b,rows,rfl,h,by omega,k,by omega⟩)
theorem Ro(l:List (List G))(n:Nat)(O:n≤20):∀(k i:Nat) (a t:Int) (acc:List (List G)),i+k=n→0≤a→a+20*(k:Int)≤500000→0≤t→t≤3*(i:Int)→(∀ z∈acc,i_ z)→acc.length=i →
  a6 sR [.l l,.i a,.l acc,.i t,.i (n:Int),.i (i:Int)] (k+1) fun c g=>c=0∧∃ b rows,g=[.l l,.i b,.l rows]∧a≤b∧b≤a+20*k∧(∀ z∈rows,i_ z)∧rows.length=n
 | 0,i,a,t,acc,hi,ha,M,R,N,u,J=>by
  refine a6.stop (x:=0) (aa.toEq ?_) ⟨rfl,a,acc,rfl,by omega,by omega,u,by omega⟩;unfold sR
  (dsimp +instances only[Aa,Ab,Ac,Ad,Ae,Af,Ag])
  exact aa.neg (by rw[aZ,decide_eq_false_iff_not]; omega) (aa.pos (by simp) (aa.some rfl))
 | k+1,i,a,t,acc,hi,ha,M,R,N,u,J=>by
  have key:aa (sR [.l l,.i a,.l acc,.i t,.i (n:Int),.i (i:Int)]) fun o=>∃ b r v,o=(none,[.l l,.i b,.l (acc++[r]),.i v,.i (n:Int),.i ((i:Int)+1)])∧a≤b∧b≤a+20∧i_ r∧0≤v∧v≤t+3:=by
   unfold sR
   (dsimp +instances only[Aa,Ab,Ac,Ad,Ae,Af,Ag])
   refine aa.pos (by rw[aZ,decide_eq_true_eq]; omega) ?_;refine aa.call (nn l a 0 2 ha (by omega) (by omega) (by omega) (by omega)) ?_;rintro _ ⟨v,rfl,hv0,hv1⟩
   (dsimp +instances only[Aa,Ab,Ac,Ad,Ae,Af,Ag])
   refine aa.pos (eG.2 ⟨by omega,by omega⟩) ?_;refine aa.call (nn l _ 1 6 (by omega) (by omega) (by omega) (by omega) (by omega)) ?_;rintro _ ⟨kd,rfl,B,I⟩
   (dsimp +instances only[Aa,Ab,Ac,Ad,Ae,Af,Ag])
   refine aa.test (fun y=>?_) fun y=>?_
   ·refine aa.call (Qg qH l _ _ (by omega) (by omega) (by kernel_rfl) (by kernel_rfl)) ?_
    rintro _ ⟨w,rfl,hw⟩
    (dsimp +instances only[Aa,Ab,Ac,Ad,Ae,Af,Ag])
    refine aa.call (nn l _ 0 9 (by omega) (by omega) (by omega) (by omega) (by omega)) ?_;rintro _ ⟨q,rfl,hq0,hq1⟩
    (dsimp +instances only[Aa,Ab,Ac,Ad,Ae,Af,Ag])
    refine aa.pos (by rw[pC,dq,decide_eq_true_eq]; omega) (aa.pos (eG.2 ⟨by omega,by omega⟩) (aa.pos (eG.2 ⟨by omega,by omega⟩) (aa.pos (by simp) (aa.some ⟨_,_,_,rfl,by omega,by omega,⟨_,_,_,_,rfl,⟨by omega,by omega⟩,⟨B,I⟩,hw,⟨by omega,by omega⟩⟩,by omega,by omega⟩))))
   ·refine aa.pos (by rw[pC,dq,decide_eq_true_eq]; omega) (aa.pos (eG.2 ⟨by omega,by omega⟩) (aa.pos (eG.2 ⟨by omega,by omega⟩) (aa.pos (by simp) (aa.some ⟨_,_,_,rfl,by omega,by omega,⟨_,_,_,_,rfl,⟨by omega,by omega⟩,⟨B,I⟩,cH,⟨by omega,by omega⟩⟩,by omega,by omega⟩))))
  obtain⟨_,h,b,r,v,rfl,h1,h2,y,h4,h5⟩:=key;have U:=Ro l n O k (i+1) b v (acc++[r]) (by omega) (by omega) (by omega) (by omega) (by omega) (by
   intro z d;rcases cG.1 d with d|d
   ·exact u z d
   ·simp at d; exact d▸y) (by simp[J])
  refine a6.next h (U.mono ?_)
  rintro c g ⟨rfl,V,rows,rfl,q1,q2,W,q4⟩;exact⟨rfl,V,rows,rfl,by omega,by omega,W,q4⟩
theorem afX(l:List (List G))(a n:Int)(ha:0≤a)(q:a≤400000)(h0:0≤n)(h1:n≤20) :
  aa (zW [.l l,.i a,.i n]) fun g=>∃ b rows,g=[.l l,.i b,.l rows]∧a≤b∧b≤a+400∧(∀ z∈rows,i_ z)∧(rows.length:Int)=n:=by
 obtain⟨n,rfl⟩:=xQ h0;unfold zW
 (dsimp +instances only[Aa,Ab,Ac,Ad,Ae,Af,Ag])
 have d:=Ro l n (by omega) n 0 a 0 [] (by omega) ha (by omega) (by omega) (by omega) (by simp) rfl;refine aa.loop (d.to (by omega)) rfl ?_;rintro c g ⟨rfl,b,rows,rfl,h,t,k,u⟩
 (dsimp +instances only[Aa,Ab,Ac,Ad,Ae,Af,Ag])
 exact aa.pos (by simp) (aa.some ⟨b,rows,rfl,h,by omega,k,by omega⟩)
theorem i_.s{r:List G}(h:i_ r):ma r:=by
 obtain⟨n,k,w,a,e,_,_,hw,_⟩:=h;exact⟨n,k,w,a,e,hw⟩
theorem afY{l:List (List G)}{i:Nat}{r:List G}(h:i<l.length):(l.set i r).getD i []=r:=by
 rw[b_,bk h];rfl
theorem afZ{n k:Int}{w:ByteArray}{a:Int}(d k':Int)(w':ByteArray)(g:Int):a7 aQ (a7 aQ (a7 aQ (a7 aQ [.i n,.i k,.s w,.i a] 0 [.i d]) 1 [.i k']) 2 [.s w']) 3 [.i g]=[.i d,.i k',.s w',.i g]:=rfl
theorem af0(l x:List (List G))(a:Int)(b:Bool)(ha:0≤a)(I:a≤500000)(g:∀ z∈x,ma z)(M:x.length≤20)(hb:b=true→0<x.length) :
  aa (sS [.l l,.i a,.l x,.t b]) fun o=>∃ c y,o=(some 0,[.l l,.i c,.l y])∧a≤c∧c≤a+100∧(∀ z∈y,ma z)∧y.length=x.length:=by
 unfold sS
 (dsimp +instances only[Aa,Ab,Ac,Ad,Ae,Af,Ag])
 cases b with
 |false=>exact aa.neg rfl (aa.pos (by simp) (aa.some ⟨a,x,rfl,by omega,by omega,g,rfl⟩))
 |true =>
 have hb:=hb rfl;refine aa.pos rfl ?_;refine aa.call (oV l a _ ha (by omega) (by omega) (by omega)) ?_;rintro _ ⟨i,rfl,u,J⟩
 (dsimp +instances only[Aa,Ab,Ac,Ad,Ae,Af,Ag])
 obtain⟨i,rfl⟩:=xQ u;have hi:i<x.length:=by omega
 obtain⟨n,k,w,q,e,hw⟩:=g _ (zN hi);refine aa.pos (by rw[ar,eY,aZ,decide_eq_true_eq,decide_eq_true_eq]; omega) ?_;refine aa.call (Qf l _ 0 20 (by omega) (by omega) (by omega) (by omega) (by omega)) ?_;rintro _ ⟨N,rfl,_⟩
 (dsimp +instances only[Aa,Ab,Ac,Ad,Ae,Af,Ag])
 refine aa.call (Qf l _ 1 6 (by omega) (by omega) (by omega) (by omega) (by omega)) ?_;rintro _ ⟨k',rfl,_⟩
 (dsimp +instances only[Aa,Ab,Ac,Ad,Ae,Af,Ag])
 simp only[bp,cR,e]
 (dsimp +instances only[Aa,Ab,Ac,Ad,Ae,Af,Ag])
 refine aa.pos (by rw[decide_eq_true_eq]; exact hi) ?_;refine aa.call (Qd (fun v=>v∈qH) l _ _ (by omega) (by omega) (by simp) (by simp) (fun z d=>?_)) ?_
 ·simp only [bS, BU, or_false] at d
  rcases d with rfl|rfl|rfl|rfl
  ·exact hw
  ·exact cH
  ·exact cI _ cH
  ·exact cI _ (cI _ (cI _ cH))
 rintro _ ⟨w',rfl,B⟩
 (dsimp +instances only[Aa,Ab,Ac,Ad,Ae,Af,Ag])
 refine aa.pos (by rw[decide_eq_true_eq]; exact hi) ?_;refine aa.call (Hz (fun _=>True) l _ _ (by omega) (by omega) (by simp) (by simp) (fun _ _=>trivial)) ?_;rintro _ ⟨q',rfl,_⟩
 (dsimp +instances only[Aa,Ab,Ac,Ad,Ae,Af,Ag])
 have h:∀ r:List G,(x.set i r).length=x.length:=fun r=>kQ;simp only[afY hi,nJ,h,afZ];refine aa.pos (by rw[decide_eq_true_eq]; exact hi) (aa.pos (by rw[decide_eq_true_eq]; exact hi) (aa.pos (by rw[decide_eq_true_eq]; exact hi) (aa.pos (by rw[decide_eq_true_eq]; exact hi) (aa.pos (by simp) (aa.some ⟨_,_,rfl,by omega,by omega,fun z d=>?_,h _⟩)))));rcases List.mem_or_eq_of_mem_set d with d|rfl
 ·exact g z d
 ·exact⟨_,_,_,_,rfl,B⟩
theorem af1(l:List (List G))(a n:Int)(ha:0≤a)(k:a≤400000)(h0:0≤n)(h1:n≤20) :
  aa (zX [.l l,.i a,.i n]) fun g=>∃ b rows,g=[.l l,.i b,.l rows]∧a≤b∧b≤a+600∧(∀ z∈rows,ma z)∧(rows.length:Int)=n:=by
 unfold zX
 (dsimp +instances only[Aa,Ab,Ac,Ad,Ae,Af,Ag])
 refine aa.call (afX l a n ha k h0 h1) ?_;rintro _ ⟨b,x,rfl,U,V,q,W⟩
 (dsimp +instances only[Aa,Ab,Ac,Ad,Ae,Af,Ag])
 have v:∀ z∈x,ma z:=fun z I=>(q z I).s;have fin:∀(d:Int) (t:Bool),b≤d→d≤b+10→(t=true→0<x.length)→∀(B:Bool),B=true→∀(K:Nat→List G→Option (List G)),(∀ c (y:List (List G)),aa (K 0 [.l l,.i c,.l y]) fun g=>g=[.l l,.i c,.l y]) →
   aa (bh B (dD (sS [.l l,.i d,.l x,.t t])) K) fun g=>∃ b rows,g=[.l l,.i b,.l rows]∧a≤b∧b≤a+600∧(∀ z∈rows,ma z)∧(rows.length:Int)=n:=fun d t h2 h3 J B M K N=>by
  subst M;obtain⟨o,ho,c,y,rfl,q1,q2,O,q4⟩:=af0 l x d t (by omega) (by omega) v (by omega) J;refine aa.tail (P:=fun u g=>u=0∧g=[.l l,.i c,.l y]) ⟨_,ho,0,rfl,rfl,rfl⟩ rfl ?_;rintro _ _ ⟨rfl,rfl⟩;obtain⟨_,R,rfl⟩:=N c y;exact⟨_,R,c,y,rfl,by omega,by omega,O,by omega⟩
 refine aa.test (fun h=>?_) fun h=>?_
 ·refine aa.call (Qe l b 6 (by omega) (by omega) (by omega) (by omega)) ?_
  rintro _ ⟨t,rfl⟩
  (dsimp +instances only[Aa,Ab,Ac,Ad,Ae,Af,Ag])
  rw[aZ,decide_eq_true_eq]at h;exact fin (b+1) t (by omega) (by omega) (fun _=>by omega) _ (by simp) _ (fun c y=>by repeat (first|exact aa.some rfl|refine aa.pos (by simp) ?_))
 ·exact fin b false (by omega) (by omega) (fun h=>by cases h) _ (by simp) _ (fun c y=>by repeat (first|exact aa.some rfl|refine aa.pos (by simp) ?_))
theorem af2{x:List (List G)}(d:∀ z∈x,i_ z):kI (ga (x.map fE)):=by
 intro b hb;unfold ga at hb;rw[j5,List.mem_flatten]at hb;obtain⟨l,g,hb⟩:=hb;obtain⟨z,h,rfl⟩:=di.1 g;have hi:=Rl (d z h);exact afO (x:=eu (gi z 0).int) (xs:=[kJ (gi z 1).int,jW (gi z 2).str.data.toList,eu (gi z 3).int]) (fun v k=>(hi v k).2) b hb
theorem af3(l:List (List G))(a:Int)(ha:0≤a)(N:a≤300000) :
  aa (A5 [.l l,.i a]) fun g=>∃ b s,g=[.l l,.i b,.s s]∧bN s=true:=by
 unfold A5
 (dsimp +instances only[Aa,Ab,Ac,Ad,Ae,Af,Ag])
 refine aa.call (nn l a 0 4 (by omega) (by omega) (by omega) (by omega) (by omega)) ?_;rintro _ ⟨n,rfl,t,O⟩
 (dsimp +instances only[Aa,Ab,Ac,Ad,Ae,Af,Ag])
 refine aa.call (afW l _ n (by omega) (by omega) t (by omega)) ?_;rintro _ ⟨p1,x,rfl,R,M,d,U⟩
 (dsimp +instances only[Aa,Ab,Ac,Ad,Ae,Af,Ag])
 have W:(ga (x.map fE)).length≤100*x.length:=xk fun w hw=>tK (d w hw);refine aa.cE (Rm x d (by omega)) ?_
 (dsimp +instances only[Aa,Ab,Ac,Ad,Ae,Af,Ag])
 refine aa.call (aeF 0 2 l p1 _ (by omega) (by omega) (by rfl) (by rfl)) ?_;rintro _ ⟨m,rfl,u,V⟩
 (dsimp +instances only[Aa,Ab,Ac,Ad,Ae,Af,Ag])
 obtain⟨m,rfl⟩:=xQ u;have v:=afK (af2 d);refine aa.loop (P:=fun c g=>c=0∧∃(b:Int) (s:ByteArray),g=[.l l,.i b,.s s]∧bN s=true) ?_ rfl ?_
 ·refine ((jU (σ:=Int × ByteArray) (fun q i=>[.l l,.i q.1,.s q.2,.i (m:Int),.i (i:Int)]) m (fun q=>(0,[.l l,.i q.1,.s q.2])) (fun q i=>0≤q.1∧q.1≤800000+3*i∧bN q.2=true∧q.2.size≤6000+100*i)
   (fun c g=>False) ?_ ?_ m (p1+1,aU (ga (x.map fE))) 0 (by omega) ⟨by simp only; omega,by simp only; omega,v,by rw[eM]; omega⟩).to (by omega)).mono ?_
  ·rintro ⟨b, s⟩ i ⟨h1, y, k, z⟩ hi
   simp only at h1 y k z;unfold A4
   (dsimp +instances only[Aa,Ab,Ac,Ad,Ae,Af,Ag])
   refine aa.p ?_;refine aa.call (afJ l b s _ h1 (by omega) k (by rfl) (by omega) (by decide) (by decide)) ?_;rintro _ ⟨B,s',rfl,h5,h6,I,h8⟩
   (dsimp +instances only[Aa,Ab,Ac,Ad,Ae,Af,Ag])
   refine aa.pos (eG.2 ⟨by omega,by omega⟩) (aa.some (.inl ⟨(B,s'),rfl,?_⟩));exact⟨by simp only; omega,by simp only; omega,I,by simp only; omega⟩
  ·rintro ⟨b, s⟩ _
   unfold A4
   (dsimp +instances only[Aa,Ab,Ac,Ad,Ae,Af,Ag])
   exact aa.n (aa.some rfl)
  ·rintro c g (⟨⟨b, s⟩, h, rfl, rfl⟩ | h)
   ·exact⟨rfl,b,s,rfl,h.2.2.1⟩
   ·exact h.elim
 ·rintro c g ⟨rfl, b, s, rfl, J⟩
  exact aa.some ⟨b,s,rfl,J⟩
theorem af4:Em aQ jr:=⟨fun _ h=>h.eta⟩
theorem af5(a:List (List G))(ha:∀ z∈a,jr z)(d:a.length<100000):AK [.l a,.l a]=some [.t true]:=by
 have h:=Ya af4 a a ha ha d;rw[MY (by rfl)]at h;exact h
theorem af6(q:tv []=some [.t true])(rows:List (List G)):Ba [.l rows]=some [.t true]:=by
 refine aa.toEq ?_;unfold Ba
 (dsimp +instances only[Aa,Ab,Ac,Ad,Ae,Af,Ag])
 refine aa.call (nn rows 0 0 6 (by omega) (by omega) (by omega) (by omega) (by omega)) ?_;rintro _ ⟨n,rfl,v,N⟩
 (dsimp +instances only[Aa,Ab,Ac,Ad,Ae,Af,Ag])
 refine aa.call (af1 rows _ n (by omega) (by omega) v (by omega)) ?_;rintro _ ⟨p1,x,rfl,O,M,g,U⟩
 (dsimp +instances only[Aa,Ab,Ac,Ad,Ae,Af,Ag])
 refine aa.call (af3 rows p1 (by omega) (by omega)) ?_;rintro _ ⟨W,s,rfl,y⟩
 (dsimp +instances only[Aa,Ab,Ac,Ad,Ae,Af,Ag])
 obtain⟨R,k,e,B,V,h1,u⟩:=afR s y;have eq:=af5 R B (by omega);have h:∀ z∈x,jr z:=fun z I=>(g z I).to;by_cases d:nr x=0
 ·refine aa.call (aa.eq (afV x g d (by omega))) ?_
  rintro _ rfl;refine aa.cE (HV x h) ?_
  (dsimp +instances only[Aa,Ab,Ac,Ad,Ae,Af,Ag])
  rw[d];refine aa.pos rfl ?_;refine aa.cE (Rm x (Ri g (by omega) d) (by omega)) ?_;refine aa.cE h1 ?_;refine aa.cE u ?_
  (dsimp +instances only[Aa,Ab,Ac,Ad,Ae,Af,Ag])
  refine aa.pos rfl (aa.pos (by simp) ?_);refine aa.cE eq ?_;refine aa.pos rfl (aa.pos (by simp) (aa.pos (by simp) ?_));refine aa.cE q ?_;exact aa.some rfl
 ·have J:tw [.l x]=some [.s (⟨#[]⟩:ByteArray),.i (nr x)]:=by
   refine aa.toEq ?_;unfold tw
   (dsimp +instances only[Aa,Ab,Ac,Ad,Ae,Af,Ag])
   refine aa.cE (HU x h) ?_
   (dsimp +instances only[Aa,Ab,Ac,Ad,Ae,Af,Ag])
   exact aa.pos (by simpa using d) (aa.some rfl)
  refine aa.cE J ?_;refine aa.cE (HV x h) ?_
  (dsimp +instances only[Aa,Ab,Ac,Ad,Ae,Af,Ag])
  refine aa.neg (by simpa using d) ?_;refine aa.cE h1 ?_;refine aa.cE u ?_
  (dsimp +instances only[Aa,Ab,Ac,Ad,Ae,Af,Ag])
  refine aa.pos (by simp) (aa.pos (by simp) ?_);refine aa.cE eq ?_;refine aa.pos rfl (aa.pos (by simp) (aa.pos (by simp) ?_));refine aa.cE q ?_;exact aa.some rfl
structure eP (F:Nat→Nat→Int) (n m:Nat) (ok:Nat→Nat→Bool) (w:Nat→Nat→Int):Prop where
 kK:∀ i k,n≤i∨m≤k→F i k=0
 step:∀ i k,i<n→k<m→F i k=if ok i k=true then max (max (F (i+1) k) (F i (k+1))) (w i k+F (i+1) (k+1)) else max (F (i+1) k) (F i (k+1))
structure Fair (n m:Nat) (ok:Nat→Nat→Bool) (w:Nat→Nat→Int):Prop where
 pos:∀ i k,i<n→k<m→ok i k=true→0<w i k
 af7:∀ i p k q,i<p→p<n→k<q→q<m→ok i q=true→ok p k=true→ok i k=true∧ok p q=true∧w i q+w p k≤w i k+w p q
section
variable {F:Nat→Nat→Int} {n m:Nat} {ok:Nat→Nat→Bool} {w:Nat→Nat→Int}
theorem eP.flip(h:eP F n m ok w):eP (fun k i=>F i k) m n (fun k i=>ok i k) (fun k i=>w i k):=by
 refine⟨fun k i hk=>h.kK i k hk.symm,fun k i hk hi=>?_⟩;have:=h.step i k hi hk;rw[this];split<;>omega
theorem Fair.flip(h:Fair n m ok w):Fair m n (fun k i=>ok i k) (fun k i=>w i k):=by
 refine⟨fun k i hk hi ho=>h.pos i k hi hk ho,fun k q i p d t g u h1 v=>?_⟩;obtain⟨a,b,c⟩:=h.af7 i p k q g u d t v h1;exact⟨a,b,by omega⟩
theorem eP.down(h:eP F n m ok w)(i k:Nat):F (i+1) k≤F i k:=by
 by_cases he:n≤i∨m≤k
 ·rw [h.kK i k he, h.kK (i + 1) k (by omega)]
  exact SZ _
 ·rw [h.step i k (by omega) (by omega)]
  split<;>omega
theorem eP.right(h:eP F n m ok w)(i k:Nat):F i (k+1)≤F i k:=h.flip.down k i
theorem eP.HY(h:eP F n m ok w)(i k:Nat):∀ d,F (i+d) k≤F i k
 |0=>SZ _
 |d+1=>S0 (h.down (i+d) k) (h.HY i k d)
theorem eP.mono(h:eP F n m ok w){i p k q:Nat}(h1:i≤p)(g:k≤q):F p q≤F i k:=by
 obtain⟨d,rfl⟩:=ain h1;obtain⟨e,rfl⟩:=ain g;exact S0 (h.HY i (k+e) d) (h.flip.HY k i e)
theorem eP.take(h:eP F n m ok w){i p k q:Nat}(h1:i≤p)(d:k≤q)(g:p<n)(t:q<m)(ho:ok p q=true):w p q+F (p+1) (q+1)≤F i k:=by
 refine S0 ?_ (h.mono h1 d);rw[h.step p q g t,if_pos ho];omega
theorem eP.HZ(h:eP F n m ok w)(i k:Nat):0≤F i k:=by
 have h1:=h.mono (i:=i) (p:=i+n) (k:=k) (q:=k) (by omega) (aH _);rw[h.kK (i+n) k (.inl (by omega))]at h1;exact h1
theorem eP.row(h:eP F n m ok w){i:Nat}(hi:i<n):∀(s k:Nat),m-k≤s→F i k=F (i+1) k∨∃ q,k≤q∧q<m∧ok i q=true∧F i k=w i q+F (i+1) (q+1)
 | s,k,u=>by
  by_cases hk:k<m
  ·cases s with
   |zero=>omega
   | succ s =>
    have h0:=h.step i k hi hk;have h1:=h.down i k;have v:=h.right (i+1) k;by_cases ho:ok i k=true
    ·rw [if_pos ho] at h0
     by_cases e:F i k=w i k+F (i+1) (k+1)
     ·exact .inr ⟨k,aH _,hk,ho,e⟩
     ·by_cases d : F i k = F (i + 1) k
      ·exact .inl d
      ·have t : F i k = F i (k + 1) := by omega
       rcases h.row hi s (k+1) (by omega)with g|⟨q,g1,g2,g3,g4⟩
       ·exact .inl (by omega)
       ·exact .inr ⟨q,by omega,g2,g3,by omega⟩
    ·rw [if_neg ho] at h0
     by_cases d:F i k=F (i+1) k
     ·exact .inl d
     ·have t : F i k = F i (k + 1) := by omega
      rcases h.row hi s (k+1) (by omega)with g|⟨q,g1,g2,g3,g4⟩
      ·exact .inl (by omega)
      ·exact .inr ⟨q,by omega,g2,g3,by omega⟩
  ·exact .inl (by rw[h.kK i k (.inr (by omega)),h.kK (i+1) k (.inr (by omega))])
def gz(P:Nat→Bool):Nat→Nat→Option Nat
 |_,0=>none
 |q,t+1=>bif P q then some q else gz P (q+1) t
theorem Bp{P:Nat→Bool}:∀{t q x:Nat},gz P q t=some x→q≤x∧x<q+t∧P x=true∧∀ y,q≤y→y<x→P y=false
 |0,_,_,h=>by cases h
 | t+1,q,x,h=>by
  unfold gz at h;cases g:P q with
  | true =>
   rw[g]at h;cases h;exact⟨aH _,by omega,g,fun y h1 k=>by omega⟩
  | false =>
   rw[g]at h;obtain⟨a,b,c,d⟩:=Bp (t:=t) h;exact⟨by omega,by omega,c,fun y h1 k=>by
    by_cases e:y=q
    ·subst e; exact g
    ·exact d y (by omega) k⟩
theorem Rp{P:Nat→Bool}:∀{t q:Nat},gz P q t=none→∀ y,q≤y→y<q+t→P y=false
 |0,q,_,y,h1,g=>by omega
 | t+1,q,h,y,h1,g=>by
  unfold gz at h;cases d:P q with
  |true=>rw[d]at h; cases h
  | false =>
   rw[d]at h;by_cases e:y=q
   ·subst e; exact d
   ·exact Rp (t:=t) h y (by omega) (by omega)
theorem af8{P:Nat→Bool}{t q x:Nat}(h1:q≤x)(u:x<q+t)(k:P x=true)(v:∀ y,q≤y→y<x→P y=false):gz P q t=some x:=by
 cases h:gz P q t with
 |none=>rw[Rp h x h1 u]at k; cases k
 | some z =>
  obtain⟨a,b,c,d⟩:=Bp h;rcases Nat.lt_trichotomy z x with g|g|g
  ·rw[v z a g]at c; cases c
  ·rw[g]
  ·rw[d x h1 g]at k; cases k
def gS(F:Nat→Nat→Int)(ok:Nat→Nat→Bool)(w:Nat→Nat→Int)(v:Int)(i q:Nat):Bool:=ok i q&&(w i q+F (i+1) (q+1)==v)
theorem H4{v:Int}{i q:Nat}:gS F ok w v i q=true↔ok i q=true∧w i q+F (i+1) (q+1)=v:=by
 unfold gS;rw[ar,beq_iff_eq]
def gT(F:Nat→Nat→Int)(m:Nat)(ok:Nat→Nat→Bool)(w:Nat→Nat→Int):Nat→Nat→Nat→List (Nat × Nat)
 |0,_,_=>[]
 | t+1,i,f=>match gz (gS F ok w (F i f) i) f (m-f) with
  |some q=>(i,q)::gT F m ok w t (i+1) (q+1)
  |none=>gT F m ok w t (i+1) f
theorem Bq{t i f q:Nat} (h:gz (gS F ok w (F i f) i) f (m-f)=some q):gT F m ok w (t+1) i f=(i,q)::gT F m ok w t (i+1) (q+1):=by
 rw[gT,h]
theorem H5{t i f:Nat} (h:gz (gS F ok w (F i f) i) f (m-f)=none):gT F m ok w (t+1) i f=gT F m ok w t (i+1) f:=by
 rw[gT,h]
theorem Br:∀(t i f:Nat),∀ x∈gT F m ok w t i f,i≤x.1∧x.1<i+t∧f≤x.2∧x.2<m∧ok x.1 x.2=true
 |0,_,_,x,h=>by cases h
 | t+1,i,f,x,h=>by
  cases g:gz (gS F ok w (F i f) i) f (m-f)with
  | none =>
   rw[H5 g]at h;obtain⟨a,b,c,d,e⟩:=Br t (i+1) f x h;exact⟨by omega,by omega,c,d,e⟩
  | some q =>
   rw[Bq g]at h;obtain⟨k,v,u,_⟩:=Bp g;rcases bS.1 h with rfl|h
   ·exact⟨aH _,by simp,k,by simp; omega,(H4.1 u).1⟩
   ·obtain ⟨a, b, c, d, e⟩ := Br t (i + 1) (q + 1) x h
    exact⟨by omega,by omega,by omega,d,e⟩
theorem H6:∀(t i f:Nat),(gT F m ok w t i f).Pairwise fun x y=>x.1<y.1∧x.2<y.2
 |0,_,_=>.nil
 | t+1,i,f=>by
  cases d:gz (gS F ok w (F i f) i) f (m-f)with
  |none=>rw[H5 d]; exact H6 t (i+1) f
  | some q =>
   rw[Bq d];refine .cons (fun y g=>?_) (H6 t (i+1) (q+1));obtain⟨a,_,c,_,_⟩:=Br t (i+1) (q+1) y g;exact⟨by simp; omega,by simp; omega⟩
end
/-! ### g d, as a function -/
def lA(n m:Nat)(ok:Nat→Nat→Bool)(w:Nat→Nat→Int)(i k:Nat):Int :=
 if h:i<n∧k<m then
  if ok i k=true then max (max (lA n m ok w (i+1) k) (lA n m ok w i (k+1))) (w i k+lA n m ok w (i+1) (k+1)) else max (lA n m ok w (i+1) k) (lA n m ok w i (k+1))
 else 0
termination_by (n-i)+(m-k)
theorem Rq(n m:Nat)(ok:Nat→Nat→Bool)(w:Nat→Nat→Int):eP (lA n m ok w) n m ok w :=
 ⟨fun i k h => by rw [lA, dif_neg (by omega)], fun i k hi hk => by
  conv=>lhs; rw[lA]
  rw[dif_pos ⟨hi,hk⟩]⟩
theorem eP.le{F:Nat→Nat→Int}{n m:Nat}{ok:Nat→Nat→Bool}{w:Nat→Nat→Int}(h:eP F n m ok w){W:Int}(d:0≤W)(hw:∀ i k,w i k≤W):∀(t i k:Nat),n-i=t→F i k≤W*(t:Int)
 |0,i,k,u=>by rw[h.kK i k (.inl (by omega))]; simp
 | t+1,i,k,u=>by
  have e:W*((t+1:Nat):Int)=W*(t:Int)+W:=by rw[Int.natCast_succ,Int.mul_add,Int.mul_one]
  rw[e];rcases h.row (i:=i) (by omega) (m-k) k (aH _)with g|⟨q,_,_,_,g⟩
  ·have := h.le d hw t (i + 1) k (by omega)
   omega
  ·have := h.le d hw t (i + 1) (q + 1) (by omega)
   have:=hw i q;omega
/-! ### d -/
def kL(r:List G):Int:=(gi r 0).int
def nt(r:List G):Int:=(gi r 1).int
def aN(r:List G):ByteArray:=(gi r 2).str
def H7(r:List G):ByteArray:=(gi r 3).str
def gA(r:List G):Prop:=be [.int .i64,.int .i64,.str,.str,.int .i64,.int .i64,.str,.str] r=r ∧ -1000000000000≤kL r∧kL r≤1000000000000
def me(p q:List G):Int:=if kL q-kL p>kL p-kL q then kL q-kL p else kL p-kL q
def o_(off:Int)(p q:List G):Bool:=((aN p).toList==(aN q).toList)&&((nt p==nt q)&&aG (me p q) off)
theorem Bs{p q:List G}(d:gA p)(g:gA q):0≤me p q∧me p q≤2000000000000:=by
 obtain⟨_,h1,h⟩:=d;obtain⟨_,k,t⟩:=g;unfold me;split<;>omega
theorem H8{p q:List G}(d:gA p)(g:gA q):s_ [.l [p],.l [q]]=some [.i (me p q)]:=by
 obtain⟨_,h1,h⟩:=d;obtain⟨_,k,t⟩:=g;unfold kL at h1 h k t;refine aa.toEq ?_;unfold s_ me kL
 (dsimp +instances only[Aa,Ab,Ac,Ad,Ae,Af,Ag])
 exact aa.pos (eG.2 ⟨by omega,by omega⟩) (aa.pos (eG.2 ⟨by omega,by omega⟩) (aa.some rfl))
theorem H9(off:Int){p q:List G}(d:gA p)(g:gA q):ta [.l [p],.l [q],.i off]=some [.t (o_ off p q)]:=by
 refine aa.toEq ?_;unfold ta o_
 (dsimp +instances only[Aa,Ab,Ac,Ad,Ae,Af,Ag])
 refine aa.test (fun h=>?_) fun h=>?_
 ·have h : ((aN p).toList == (aN q).toList) = true := h
  rw[h];refine aa.test (fun h=>?_) fun h=>?_
  ·have h : (nt p == nt q) = true := h
   rw[h,d.1,g.1];refine aa.cE (H8 d g) ?_;exact aa.some rfl
  ·have h : (nt p == nt q) = false := h
   rw[h];exact aa.some rfl
 ·have h : ((aN p).toList == (aN q).toList) = false := h
  rw[h];exact aa.some rfl
/-! ### g lists of numbers of d -/
structure JC (a b:List (List G)) (X Y:List Nat):Prop where
 ha:∀ z∈a,gA z
 hb:∀ z∈b,gA z
 hX:∀ i∈X,i<a.length
 hY:∀ i∈Y,i<b.length
 na:a.length≤100000
 nb:b.length≤100000
 nX:X.length≤1000
 nY:Y.length≤1000
def bt(X:List Nat):List (List G):=X.map fun(i:Nat)=>[G.i (i:Int)]
theorem mf(X:List Nat):(bt X).length=X.length:=dv _
theorem tL{X:List Nat}{i:Nat}(hi:i<X.length):(bt X).getD i []=[.i ((X.getD i 0:Nat):Int)]:=by
 unfold bt;rw[b_,bR,bd hi,b_,bd hi];rfl
theorem tM{α:Type}{l:List α}{i:Nat}{z:α}(h:i<l.length):l.getD i z∈l:=by
 rw[b_,bd h];exact iJ h
def mg(a:List (List G))(X:List Nat)(i:Nat):List G:=a.getD (X.getD i 0) []
def dU(a b:List (List G))(X Y:List Nat)(off:Int)(i k:Nat):Bool:=o_ off (mg a X i) (mg b Y k)
def wJ(a b:List (List G))(X Y:List Nat)(i k:Nat):Int:=10000000000-me (mg a X i) (mg b Y k)
theorem JC.Bt{a b:List (List G)}{X Y:List Nat}(J:JC a b X Y){i:Nat}(hi:i<X.length):X.getD i 0<a.length∧gA (mg a X i):=by
 have h:=J.hX _ (tM (z:=0) hi);exact⟨h,J.ha _ (tM h)⟩
theorem JC.Bu{a b:List (List G)}{X Y:List Nat}(J:JC a b X Y){i:Nat}(hi:i<Y.length):Y.getD i 0<b.length∧gA (mg b Y i):=by
 have h:=J.hY _ (tM (z:=0) hi);exact⟨h,J.hb _ (tM h)⟩
theorem af9{a b:List (List G)}{X Y:List Nat}(J:JC a b X Y)(off:Int)(h:List (List G)){i k:Nat}(hi:i<X.length)(hk:k<Y.length) :
  wM [.l a,.l b,.l (bt X),.l (bt Y),.i off,.l h,.i (i:Int),.i (k:Int)]=some [.l a,.l b,.l (bt X),.l (bt Y),.i off,.l h,.i (wJ a b X Y i k),.t (dU a b X Y off i k)]:=by
 obtain⟨h1,d⟩:=J.Bt hi;obtain⟨y,g⟩:=J.Bu hk;have v:=Bs d g;refine aa.toEq ?_;unfold wM
 (dsimp +instances only[Aa,Ab,Ac,Ad,Ae,Af,Ag])
 simp only[bp,tL hi,tL hk,mf]
 (dsimp +instances only[Aa,Ab,Ac,Ad,Ae,Af,Ag])
 simp only[bp];refine aa.p (aa.p (aa.p (aa.p ?_)));have q:a.getD (X.getD i 0) []=mg a X i:=rfl;have u:b.getD (Y.getD k 0) []=mg b Y k:=rfl;rw[q,u,d.1,g.1];refine aa.cE (H8 d g) ?_
 (dsimp +instances only[Aa,Ab,Ac,Ad,Ae,Af,Ag])
 refine aa.pos (eG.2 ⟨by omega,by omega⟩) ?_;refine aa.cE (H9 off d g) ?_
 (dsimp +instances only[Aa,Ab,Ac,Ad,Ae,Af,Ag])
 refine aa.pos ?_ (aa.some rfl);simp
theorem Rr{a b:List (List G)}{X Y:List Nat}(J:JC a b X Y)(off:Int)(h:List (List G)){i k:Nat}(hi:i<X.length)(hk:k<Y.length) :
  AU [.l [[.l a,.l b,.l (bt X),.l (bt Y),.i off,.l h]],.i (i:Int),.i (k:Int)]=some [.i (wJ a b X Y i k),.t (dU a b X Y off i k)]:=by
 obtain⟨h1,d⟩:=J.Bt hi;obtain⟨y,g⟩:=J.Bu hk;have v:=Bs d g;refine aa.toEq ?_;unfold AU
 (dsimp +instances only[Aa,Ab,Ac,Ad,Ae,Af,Ag])
 simp only[bp,tL hi,tL hk,mf]
 (dsimp +instances only[Aa,Ab,Ac,Ad,Ae,Af,Ag])
 simp only[bp];refine aa.p (aa.p (aa.p (aa.p ?_)));have q:a.getD (X.getD i 0) []=mg a X i:=rfl;have u:b.getD (Y.getD k 0) []=mg b Y k:=rfl;rw[q,u,d.1,g.1];refine aa.cE (H8 d g) ?_
 (dsimp +instances only[Aa,Ab,Ac,Ad,Ae,Af,Ag])
 refine aa.pos (eG.2 ⟨by omega,by omega⟩) ?_;refine aa.cE (H9 off d g) ?_;exact aa.some rfl
/-! ### d table -/
def dK(F:Nat→Nat→Int)(m i t:Nat):List (List G):=(er (m+1)).map fun j=>[G.i (if t≤j then F i j else 0)]
def dF(F:Nat→Nat→Int)(n m i:Nat):List (List G):=(er (n+1)).map fun p=>[G.l (if i≤p then dK F m p 0 else [])]
theorem pb(F:Nat→Nat→Int)(m i t:Nat):(dK F m i t).length=m+1:=by unfold dK; rw[dv,qP]
theorem tN(F:Nat→Nat→Int)(n m i:Nat):(dF F n m i).length=n+1:=by unfold dF; rw[dv,qP]
theorem xl{F:Nat→Nat→Int}{m i t j:Nat}(d:j≤m):(dK F m i t).getD j []=[.i (if t≤j then F i j else 0)]:=by
 unfold dK;rw[b_,bR,uc (by omega)];rfl
theorem H_{F:Nat→Nat→Int}{n m i p:Nat}(d:p≤n):(dF F n m i).getD p []=[.l (if i≤p then dK F m p 0 else [])]:=by
 unfold dF;rw[b_,bR,uc (by omega)];rfl
theorem af_{F:Nat→Nat→Int}{m i t:Nat}:(dK F m i (t+1)).set t [.i (F i t)]=dK F m i t:=by
 apply kP;intro j;unfold dK;rw[dS,bR,bR,dv,qP];by_cases d:j<m+1
 ·rw [uc d]
  by_cases e:t=j
  ·subst e
   rw[if_pos rfl,if_pos d];simp
  ·rw [if_neg e]
   simp only[dL];by_cases h:t≤j
   ·rw[if_pos h,if_pos (by omega)]
   ·rw[if_neg h,if_neg (by omega)]
 ·rw [nz (by simp; omega)]
  by_cases e:t=j
  ·subst e
   rw[if_pos rfl,if_neg d];rfl
  ·rw [if_neg e]
   rfl
theorem af'{F:Nat→Nat→Int}{m i:Nat}(h:F i m=0):dK F m i m=bU (m+1) [.i 0]:=by
 rw[aio];refine⟨pb F m i m,fun x d=>?_⟩;unfold dK at d;obtain⟨j,g,rfl⟩:=di.1 d;rw[gF]at g;by_cases e:m≤j
 ·rw[if_pos e,show j=m from by omega,h]
 ·rw[if_neg e]
theorem aga{F:Nat→Nat→Int}{m i:Nat}(h:∀ k,F i k=0):dK F m i 0=bU (m+1) [.i 0]:=by
 rw[aio];refine⟨pb F m i 0,fun x d=>?_⟩;unfold dK at d;obtain⟨j,g,rfl⟩:=di.1 d;rw[if_pos (dB _),h]
theorem agb{F:Nat→Nat→Int}{n m i:Nat}:(dF F n m (i+1)).set i [.l (dK F m i 0)]=dF F n m i:=by
 apply kP;intro j;unfold dF;rw[dS,bR,bR,dv,qP];by_cases d:j<n+1
 ·rw [uc d]
  by_cases e:i=j
  ·subst e
   rw[if_pos rfl,if_pos d];simp
  ·rw [if_neg e]
   simp only[dL];by_cases h:i≤j
   ·rw[if_pos h,if_pos (by omega)]
   ·rw[if_neg h,if_neg (by omega)]
 ·rw [nz (by simp; omega)]
  by_cases e:i=j
  ·subst e
   rw[if_pos rfl,if_neg d];rfl
  ·rw [if_neg e]
   rfl
theorem agc{F:Nat→Nat→Int}{n m:Nat}(h:∀ k,F n k=0):(bU (n+1) ([.l []]:List G)).set n [.l (bU (m+1) [.i 0])]=dF F n m n:=by
 apply kP;intro j;unfold dF;rw[dS,bR,List.getElem?_replicate,BP];by_cases d:j<n+1
 ·rw [uc d]
  by_cases e:n=j
  ·subst e
   rw[if_pos rfl,if_pos d,dL,if_pos (aH _),aga h]
  ·rw[if_neg e,if_pos d,dL,if_neg (by omega)]
 ·rw [nz (by simp; omega)]
  by_cases e:n=j
  ·subst e
   rw[if_pos rfl,if_neg d];rfl
  ·rw [if_neg e, if_neg d]
   rfl
theorem tO(k:Kd)(r:List G)(v:G):a7 [k] r 0 [v]=[v]:=by
 simp[a7,n5]
theorem Rs{a b x y d row:List (List G)}{off:Int}{i k:Nat}(hk:k≤100000) :
  wO [.l a,.l b,.l x,.l y,.i off,.l d,.l row,.i (i:Int),.i (k:Int)]=some (some 0,[.l a,.l b,.l x,.l y,.i off,.l d,.l row,.i (i:Int),.i ((k:Int)-1)]):=by
 refine aa.toEq ?_;unfold wO
 (dsimp +instances only[Aa,Ab,Ac,Ad,Ae,Af,Ag])
 exact aa.pos (eG.2 ⟨by omega,by omega⟩) (aa.pos (by simp) (aa.some rfl))
theorem Rt{a b:List (List G)}{X Y:List Nat}(J:JC a b X Y)(off:Int){F:Nat→Nat→Int}(d:eP F X.length Y.length (dU a b X Y off) (wJ a b X Y)){i:Nat}(hi:i<X.length):∀ t:Nat,t≤Y.length →
  a6 wP [.l a,.l b,.l (bt X),.l (bt Y),.i off,.l (dF F X.length Y.length (i+1)),.l (dK F Y.length i t),.i (i:Int),.i ((t:Int)-1)] (t+1) fun c g=>c=0∧g=[.l a,.l b,.l (bt X),.l (bt Y),.i off,.l (dF F X.length Y.length (i+1)),.l (dK F Y.length i 0),.i (i:Int)]
 | 0,_=>by
  refine a6.stop (x:=0) (aa.toEq ?_) ⟨rfl,rfl⟩;unfold wP
  (dsimp +instances only[Aa,Ab,Ac,Ad,Ae,Af,Ag])
  exact aa.neg (by rw[bx]; decide) (aa.pos (by simp) (aa.some rfl))
 | t+1,ht=>by
  have nX:=J.nX;have nY:=J.nY;have hW:∀ i k,F i k≤10000000000*((X.length-i:Nat):Int):=fun i k=>d.le (W:=10000000000) (by omega) (fun i k=>by
   unfold wJ me;split<;>omega) _ i k rfl
  have b1:=d.HZ (i+1) t;have b2:=d.HZ (i+1) (t+1);have b3:=hW (i+1) (t+1);have hwo : -2000000000000≤wJ a b X Y i t∧wJ a b X Y i t≤10000000000:=by
   have:=Bs (J.Bt hi).2 (J.Bu (show t<Y.length by omega)).2;unfold wJ;omega
  have ih:=Rt J off d hi t (by omega);have e0:((t+1:Nat):Int)-1=(t:Int):=by omega
  rw[e0];refine a6.next (aa.toEq ?_) ih
  have e1:((i:Int)+1).toNat=i+1:=by omega
  have e2:((t:Int)+1).toNat=t+1:=by omega
  have U:(dF F X.length Y.length (i+1)).getD (i+1) []=[.l (dK F Y.length (i+1) 0)]:=by rw[H_ (by omega),if_pos (aH _)]
  have V:(dK F Y.length (i+1) 0).getD t []=[.i (F (i+1) t)]:=by rw[xl (by omega),if_pos (dB _)]
  have B:(dK F Y.length (i+1) 0).getD (t+1) []=[.i (F (i+1) (t+1))]:=by rw[xl (by omega),if_pos (dB _)]
  have I:(dK F Y.length i (t+1)).getD (t+1) []=[.i (F i (t+1))]:=by rw[xl (by omega),if_pos (aH _)]
  have q:=d.step i t hi (by omega);have y:∀ v,v=F i t→(dK F Y.length i (t+1)).set t [.i v]=dK F Y.length i t:=fun v hv=>by rw[hv,af_]
  have z:∀ v:Int,((dK F Y.length i (t+1)).set t [.i v]).getD t []=[.i v]:=fun v=>by
   rw[b_,bk (by rw[pb]; omega)];rfl
  have M:=tN F X.length Y.length (i+1);have N:=pb F Y.length i (t+1);have O:=pb F Y.length (i+1) 0;generalize hRR:dK F Y.length i (t+1)=R at I y z N⊢;unfold wP
  (dsimp +instances only[Aa,Ab,Ac,Ad,Ae,Af,Ag])
  simp only[bp,e1,e2,cR,U]
  (dsimp +instances only[Aa,Ab,Ac,Ad,Ae,Af,Ag])
  simp only[V,B,I,tO,M,N,O,kQ,z,nJ]
  (dsimp +instances only[Aa,Ab,Ac,Ad,Ae,Af,Ag])
  refine aa.p (aa.p (aa.p (aa.p (aa.p (aa.p (aa.p (aa.p (aa.p (aa.p ?_)))))))));refine aa.vN (aa.eq (af9 J off _ hi (show t<Y.length by omega))) (by simp) ?_;rintro _ rfl
  (dsimp +instances only[Aa,Ab,Ac,Ad,Ae,Af,Ag])
  simp only[U]
  (dsimp +instances only[Aa,Ab,Ac,Ad,Ae,Af,Ag])
  simp only[B,M,O]
  (dsimp +instances only[Aa,Ab,Ac,Ad,Ae,Af,Ag])
  refine aa.test (fun h=>?_) fun h=>?_
  ·rw [if_pos h] at q
   refine aa.p (aa.p (aa.p (aa.p (aa.p (aa.p (aa.p (aa.pos (eG.2 ⟨by omega,by omega⟩) (aa.p (aa.p ?_)))))))));refine aa.tail (P:=fun u g=>u=0∧g=[.l a,.l b,.l (bt X),.l (bt Y),.i off,.l (dF F X.length Y.length (i+1)),.l (dK F Y.length i t),.i (i:Int),.i ((t:Int)-1)]) ⟨_,Rs (by omega),0,rfl,?_,?_⟩ (by simp) ?_
   ·rfl
   ·rw [y _ ?_]
    rw[q];split<;>split<;>omega
   ·rintro _ _ ⟨rfl, rfl⟩
    (dsimp +instances only[Aa,Ab,Ac,Ad,Ae,Af,Ag])
    exact aa.pos (by simp) (aa.some rfl)
  ·rw [if_neg (by rw [h]; decide)] at q
   refine aa.tail (P:=fun u g=>u=0∧g=[.l a,.l b,.l (bt X),.l (bt Y),.i off,.l (dF F X.length Y.length (i+1)),.l (dK F Y.length i t),.i (i:Int),.i ((t:Int)-1)]) ⟨_,Rs (by omega),0,rfl,?_,?_⟩ (by simp) ?_
   ·rfl
   ·rw [y _ ?_]
    rw[q];split<;>omega
   ·rintro _ _ ⟨rfl, rfl⟩
    (dsimp +instances only[Aa,Ab,Ac,Ad,Ae,Af,Ag])
    exact aa.pos (by simp) (aa.some rfl)
theorem Ru{a b:List (List G)}{X Y:List Nat}(J:JC a b X Y)(off:Int){F:Nat→Nat→Int}(d:eP F X.length Y.length (dU a b X Y off) (wJ a b X Y)):∀ t:Nat,t≤X.length →
  a6 wQ [.l a,.l b,.l (bt X),.l (bt Y),.i off,.l (dF F X.length Y.length t),.i ((t:Int)-1)] (t+1) fun c g=>c=0∧g=[.l a,.l b,.l (bt X),.l (bt Y),.i off,.l (dF F X.length Y.length 0)]
 | 0,_=>by
  refine a6.stop (x:=0) (aa.toEq ?_) ⟨rfl,rfl⟩;unfold wQ
  (dsimp +instances only[Aa,Ab,Ac,Ad,Ae,Af,Ag])
  exact aa.neg (by rw[bx]; decide) (aa.pos (by simp) (aa.some rfl))
 | t+1,y=>by
  have nX:=J.nX;have nY:=J.nY;have q:=Ru J off d t (by omega);have u:((t+1:Nat):Int)-1=(t:Int):=by omega
  rw[u];refine a6.next (aa.toEq ?_) q
  have v:((Y.length:Int)+1).toNat=Y.length+1:=by omega
  have h:(bU (Y.length+1) ([.i 0]:List G))=dK F Y.length t Y.length:=(af' (d.kK t Y.length (.inr (aH _)))).symm;have k:=Rt J off d (show t<X.length by omega) Y.length (aH _);unfold wQ
  (dsimp +instances only[Aa,Ab,Ac,Ad,Ae,Af,Ag])
  simp only[mf,v,h];refine aa.p (aa.p (aa.p (aa.p ?_)));refine aa.loop (k.to (by omega)) (by simp[pb]) ?_;rintro _ _ ⟨rfl,rfl⟩
  (dsimp +instances only[Aa,Ab,Ac,Ad,Ae,Af,Ag])
  simp only[bp,cR,tO,tN];refine aa.p (aa.pos (by simp; omega) (aa.p (aa.pos (by simp[tN]) (aa.some ?_))));rw[agb]
theorem agd{a b:List (List G)}{X Y:List Nat}(J:JC a b X Y)(off:Int){F:Nat→Nat→Int}(d:eP F X.length Y.length (dU a b X Y off) (wJ a b X Y)) :
  AT [.l a,.l b,.l (bt X),.l (bt Y),.i off,.l []]=some [.l a,.l b,.l (bt X),.l (bt Y),.i off,.l (dF F X.length Y.length 0)]:=by
 have nX:=J.nX;have nY:=J.nY;have h:((X.length:Int)+1).toNat=X.length+1:=by omega
 have q:((Y.length:Int)+1).toNat=Y.length+1:=by omega
 have g:(bU (X.length+1) ([.l []]:List G)).set X.length [.l (bU (Y.length+1) [.i 0])]=dF F X.length Y.length X.length:=agc fun k=>d.kK X.length k (.inl (aH _));refine aa.toEq ?_;unfold AT
 (dsimp +instances only[Aa,Ab,Ac,Ad,Ae,Af,Ag])
 simp only[mf,h,q,cR,tO,g,BP,tN];refine aa.p (aa.p (aa.p (aa.p (aa.p (aa.pos (by simp) (aa.p ?_))))));refine aa.loop ((Ru J off d X.length (aH _)).to (by omega)) (by simp) ?_;rintro _ _ ⟨rfl,rfl⟩
 (dsimp +instances only[Aa,Ab,Ac,Ad,Ae,Af,Ag])
 exact aa.pos (by simp) (aa.some rfl)
def pc(X Y:List Nat)(p:Nat × Nat):List G:=[.i ((X.getD p.1 0:Nat):Int),.i ((Y.getD p.2 0:Nat):Int)]
def Rv(X Y:List Nat)(out:List (List G))(i:Nat):Option Nat→List (List G)
 |some q=>out++[pc X Y (i,q)]
 |none=>out
def Rw(f:Nat):Option Nat→Nat
 |some q=>q+1
 |none=>f
theorem Ia{a b d out:List (List G)}{X Y:List Nat}(off:Int){f i k n:Nat}(hi:i<X.length)(hk:k<Y.length)(nY:Y.length≤1000)(ho:out.length≤100000)(t:Bool) :
  tb [.l a,.l b,.l (bt X),.l (bt Y),.i off,.l d,.l out,.i (f:Int),.i (i:Int),.i (k:Int),.i (n:Int),.i (i:Int),.t t] =
   bif t then some (some 0,[.l a,.l b,.l (bt X),.l (bt Y),.i off,.l d,.l (out++[pc X Y (i,k)]),.i ((k+1:Nat):Int),.i (n:Int),.i (i:Int)])
   else some (some 1,[.l a,.l b,.l (bt X),.l (bt Y),.i off,.l d,.l out,.i (f:Int),.i (i:Int),.i (k:Int),.i (n:Int),.i (i:Int)]):=by
 cases t with
 | false =>
  refine aa.toEq ?_;unfold tb
  (dsimp +instances only[Aa,Ab,Ac,Ad,Ae,Af,Ag])
  exact aa.neg rfl (aa.pos (by simp) (aa.some rfl))
 | true =>
  refine aa.toEq ?_;unfold tb
  (dsimp +instances only[Aa,Ab,Ac,Ad,Ae,Af,Ag])
  simp only[bp,tL hi,tL hk,mf]
  (dsimp +instances only[Aa,Ab,Ac,Ad,Ae,Af,Ag])
  exact aa.pos rfl (aa.p (aa.p (aa.pos (by simp; omega) (aa.p (aa.pos (by simp) (aa.some rfl))))))
section
variable {a b:List (List G)} {X Y:List Nat} {F:Nat→Nat→Int}
theorem Rx(J:JC a b X Y)(off:Int)(v:eP F X.length Y.length (dU a b X Y off) (wJ a b X Y))(out:List (List G))(ho:out.length≤100000){f i:Nat}(hi:i<X.length)(U:f≤Y.length):∀ t k:Nat,k+t=Y.length →
  a6 qv [.l a,.l b,.l (bt X),.l (bt Y),.i off,.l (dF F X.length Y.length 0),.l out,.i (f:Int),.i (i:Int),.i (k:Int),.i (X.length:Int),.i (i:Int)] (t+1)
   fun c g=>c=0∧g=[.l a,.l b,.l (bt X),.l (bt Y),.i off,.l (dF F X.length Y.length 0),.l (Rv X Y out i (gz (gS F (dU a b X Y off) (wJ a b X Y) (F i f) i) k t)),.i (Rw f (gz (gS F (dU a b X Y off) (wJ a b X Y) (F i f) i) k t):Int),.i (X.length:Int),.i (i:Int)]
 | 0,k,hk=>by
  refine a6.stop (x:=0) (aa.toEq ?_) ⟨rfl,rfl⟩;have nY:=J.nY;unfold qv
  (dsimp +instances only[Aa,Ab,Ac,Ad,Ae,Af,Ag])
  simp only[mf];exact aa.n (aa.pos (by simp) (aa.some rfl))
 | t+1,k,hk=>by
  have nX:=J.nX;have nY:=J.nY;have q:k<Y.length:=by omega
  have V:∀ i k,F i k≤10000000000*((X.length-i:Nat):Int):=fun i k=>v.le (W:=10000000000) (by omega) (fun i k=>by
   unfold wJ me;split<;>omega) _ i k rfl
  have b2:=v.HZ (i+1) (k+1);have b3:=V (i+1) (k+1);have hwo : -2000000000000≤wJ a b X Y i k∧wJ a b X Y i k≤10000000000:=by
   have:=Bs (J.Bt hi).2 (J.Bu q).2;unfold wJ;omega
  have O:((i:Int)+1).toNat=i+1:=by omega
  have R:((k:Int)+1).toNat=k+1:=by omega
  have z:(dF F X.length Y.length 0).getD (i+1) []=[.l (dK F Y.length (i+1) 0)]:=by rw[H_ (by omega),if_pos (dB _)]
  have B:(dF F X.length Y.length 0).getD i []=[.l (dK F Y.length i 0)]:=by rw[H_ (by omega),if_pos (dB _)]
  have I:(dK F Y.length (i+1) 0).getD (k+1) []=[.i (F (i+1) (k+1))]:=by rw[xl (by omega),if_pos (dB _)]
  have M:(dK F Y.length i 0).getD f []=[.i (F i f)]:=by rw[xl (by omega),if_pos (dB _)]
  have N:∀ c:Bool,gS F (dU a b X Y off) (wJ a b X Y) (F i f) i k=c→gz (gS F (dU a b X Y off) (wJ a b X Y) (F i f) i) k (t+1)=bif c then some k else gz (gS F (dU a b X Y off) (wJ a b X Y) (F i f) i) (k+1) t:=fun c hc=>by rw[←hc]; rfl
  have go:gS F (dU a b X Y off) (wJ a b X Y) (F i f) i k=false→aa (qv [.l a,.l b,.l (bt X),.l (bt Y),.i off,.l (dF F X.length Y.length 0),.l out,.i (f:Int),.i (i:Int),.i (k:Int),.i (X.length:Int),.i (i:Int)])
    (fun o=>o=(none,[.l a,.l b,.l (bt X),.l (bt Y),.i off,.l (dF F X.length Y.length 0),.l out,.i (f:Int),.i (i:Int),.i ((k+1:Nat):Int),.i (X.length:Int),.i (i:Int)])):=fun d=>by
   unfold qv
   (dsimp +instances only[Aa,Ab,Ac,Ad,Ae,Af,Ag])
   simp only[mf];refine aa.p ?_;refine aa.cE (Rr J off _ hi q) ?_
   (dsimp +instances only[Aa,Ab,Ac,Ad,Ae,Af,Ag])
   simp only[bp,O,R,z,B]
   (dsimp +instances only[Aa,Ab,Ac,Ad,Ae,Af,Ag])
   simp only[I,M,tN,pb]
   (dsimp +instances only[Aa,Ab,Ac,Ad,Ae,Af,Ag])
   refine aa.test (fun h=>?_) fun h=>?_
   ·refine aa.p (aa.p (aa.p (aa.p (aa.pos (eG.2 ⟨by omega, by omega⟩) (aa.p (aa.p ?_))))))
    have y:(wJ a b X Y i k+F (i+1) (k+1)==F i f)=false:=by
     unfold gS at d
     rwa [h,dq]at d
    rw[y];refine aa.tail (P:=fun u g=>u=1∧g=[.l a,.l b,.l (bt X),.l (bt Y),.i off,.l (dF F X.length Y.length 0),.l out,.i (f:Int),.i (i:Int),.i (k:Int),.i (X.length:Int),.i (i:Int)]) ⟨_,Ia off hi q nY ho false,1,rfl,rfl,rfl⟩ (by simp) ?_;rintro _ _ ⟨rfl,rfl⟩
    (dsimp +instances only[Aa,Ab,Ac,Ad,Ae,Af,Ag])
    exact aa.neg rfl (aa.p (aa.pos (by simp) (aa.some rfl)))
   ·refine aa.tail (P := fun u g => u = 1 ∧ g = [.l a, .l b, .l (bt X), .l (bt Y), .i off, .l (dF F X.length Y.length 0), .l out, .i (f : Int), .i (i : Int), .i (k : Int), .i (X.length : Int), .i (i : Int)]) ⟨_, Ia off hi q nY ho false, 1, rfl, rfl, rfl⟩ (by simp) ?_
    rintro _ _ ⟨rfl,rfl⟩
    (dsimp +instances only[Aa,Ab,Ac,Ad,Ae,Af,Ag])
    exact aa.neg rfl (aa.p (aa.pos (by simp) (aa.some rfl)))
  cases d:gS F (dU a b X Y off) (wJ a b X Y) (F i f) i k with
  | false =>
   rw[N false d,cond_false];exact a6.next (aa.toEq (go d)) (Rx J off v out ho hi U t (k+1) (by omega))
  | true =>
   rw[N true d,cond_true];obtain⟨o1,o2⟩:=H4.1 d;refine a6.stop (x:=0) (aa.toEq ?_) ⟨rfl,rfl⟩;unfold qv
   (dsimp +instances only[Aa,Ab,Ac,Ad,Ae,Af,Ag])
   simp only[mf];refine aa.p ?_;refine aa.cE (Rr J off _ hi q) ?_
   (dsimp +instances only[Aa,Ab,Ac,Ad,Ae,Af,Ag])
   simp only[bp,O,R,z,B]
   (dsimp +instances only[Aa,Ab,Ac,Ad,Ae,Af,Ag])
   simp only[I,M,tN,pb]
   (dsimp +instances only[Aa,Ab,Ac,Ad,Ae,Af,Ag])
   refine aa.pos o1 ?_;refine aa.p (aa.p (aa.p (aa.p (aa.pos (eG.2 ⟨by omega,by omega⟩) (aa.p (aa.p ?_))))));have y:(wJ a b X Y i k+F (i+1) (k+1)==F i f)=true:=by rw[beq_iff_eq]; exact o2
   rw[y];refine aa.tail (P:=fun u g=>u=0∧g=[.l a,.l b,.l (bt X),.l (bt Y),.i off,.l (dF F X.length Y.length 0),.l (out++[pc X Y (i,k)]),.i ((k+1:Nat):Int),.i (X.length:Int),.i (i:Int)]) ⟨_,Ia off hi q nY ho true,0,rfl,rfl,rfl⟩ (by simp) ?_;rintro _ _ ⟨rfl,rfl⟩
   (dsimp +instances only[Aa,Ab,Ac,Ad,Ae,Af,Ag])
   exact aa.pos rfl (aa.pos (by simp) (aa.some rfl))
theorem Ib(J:JC a b X Y)(off:Int)(h:eP F X.length Y.length (dU a b X Y off) (wJ a b X Y)):∀(t i f:Nat) (out:List (List G)),i+t=X.length→f≤Y.length→out.length+t≤100000 →
  a6 tc [.l a,.l b,.l (bt X),.l (bt Y),.i off,.l (dF F X.length Y.length 0),.l out,.i (f:Int),.i (X.length:Int),.i (i:Int)] (t+1)
   fun c g=>c=0∧g=[.l a,.l b,.l (bt X),.l (bt Y),.i off,.l (dF F X.length Y.length 0),.l (out++(gT F Y.length (dU a b X Y off) (wJ a b X Y) t i f).map (pc X Y))]
 | 0,i,f,out,hi,k,ho=>by
  have e:out++(gT F Y.length (dU a b X Y off) (wJ a b X Y) 0 i f).map (pc X Y)=out:=by rw[gT,kV,dx]
  rw[e];refine a6.stop (x:=0) (aa.toEq ?_) ⟨rfl,rfl⟩;unfold tc
  (dsimp +instances only[Aa,Ab,Ac,Ad,Ae,Af,Ag])
  exact aa.n (aa.pos (by simp) (aa.some rfl))
 | t+1,i,f,out,hi,k,ho=>by
  have nX:=J.nX;have nY:=J.nY;have u:=Rx J off h out (by omega) (f:=f) (i:=i) (by omega) k (Y.length-f) f (by omega);have step:∀ q,gz (gS F (dU a b X Y off) (wJ a b X Y) (F i f) i) f (Y.length-f)=q→aa (tc [.l a,.l b,.l (bt X),.l (bt Y),.i off,.l (dF F X.length Y.length 0),.l out,.i (f:Int),.i (X.length:Int),.i (i:Int)])
    (fun o=>o=(none,[.l a,.l b,.l (bt X),.l (bt Y),.i off,.l (dF F X.length Y.length 0),.l (Rv X Y out i q),.i (Rw f q:Int),.i (X.length:Int),.i ((i+1:Nat):Int)])):=fun q d=>by
   rw[d]at u;unfold tc
   (dsimp +instances only[Aa,Ab,Ac,Ad,Ae,Af,Ag])
   refine aa.p ?_;refine aa.loop (u.to (by omega)) (by simp) ?_;rintro _ _ ⟨rfl,rfl⟩
   (dsimp +instances only[Aa,Ab,Ac,Ad,Ae,Af,Ag])
   exact aa.p (aa.pos (by simp) (aa.some rfl))
  cases d:gz (gS F (dU a b X Y off) (wJ a b X Y) (F i f) i) f (Y.length-f)with
  | none =>
   have:=Ib J off h t (i+1) f out (by omega) k (by omega);rw[H5 d];exact a6.next (aa.toEq (step none d)) this
  | some q =>
   obtain⟨v,y,_,_⟩:=Bp d;have:=Ib J off h t (i+1) (q+1) (out++[pc X Y (i,q)]) (by omega) (by omega) (by simp; omega);rw[Bq d,cY];rw[List.append_assoc]at this;exact a6.next (aa.toEq (step (some q) d)) this
theorem age(J:JC a b X Y)(off:Int)(d:eP F X.length Y.length (dU a b X Y off) (wJ a b X Y)) :
  AW [.l a,.l b,.l (bt X),.l (bt Y),.i off,.l []]=some [.l a,.l b,.l (bt X),.l (bt Y),.i off,.l (dF F X.length Y.length 0),.l ((gT F Y.length (dU a b X Y off) (wJ a b X Y) X.length 0 0).map (pc X Y))]:=by
 have nX:=J.nX;refine aa.toEq ?_;unfold AW
 (dsimp +instances only[Aa,Ab,Ac,Ad,Ae,Af,Ag])
 refine aa.cE (agd J off d) ?_
 (dsimp +instances only[Aa,Ab,Ac,Ad,Ae,Af,Ag])
 simp only[mf];have h:=Ib J off d X.length 0 0 [] (by omega) (dB _) (by simp; omega);rw[mq]at h;refine aa.loop (h.to (by omega)) (by first|rfl|simp) ?_;rintro _ _ ⟨rfl,rfl⟩
 (dsimp +instances only[Aa,Ab,Ac,Ad,Ae,Af,Ag])
 exact aa.pos (by simp) (aa.some rfl)
end
abbrev GK:=ByteArray × Int
def du(k:GK):List G:=[.s k.1,.i k.2]
theorem agf(k:GK):bL [.str,.int .i64] (du k) (du k)=true:=by
 show ((k.1.toList==k.1.toList)&&((k.2==k.2)&&true))=true
 simp
theorem agh{k k':GK}(h:k≠k'):bL [.str,.int .i64] (du k) (du k')=false:=by
 show ((k.1.toList==k'.1.toList)&&((k.2==k'.2)&&true))=false
 cases h1:k.1.toList==k'.1.toList with
 |false=>rfl
 | true =>
  cases d:k.2==k'.2 with
  |false=>rfl
  |true=>exact(h (Prod.ext (JV (eq_of_beq h1)) (eq_of_beq d))).elim
def jt(i:Nat)(e:GK × List Nat):List G:=[.l [du e.1],.l [[.l (bt e.2)]],.i (i:Int),.t true]
def bg:Nat→List (GK × List Nat)→List (List G)
 |_,[]=>[]
 |i,e::L=>jt i e::bg (i+1) L
theorem xm:∀(i:Nat) (L:List (GK × List Nat)),(bg i L).length=L.length
 |_,[]=>rfl
 |i,_::L=>by simp[bg,xm (i+1) L]
theorem tP:∀(i:Nat) (A B:List (GK × List Nat)),bg i (A++B)=bg i A++bg (i+A.length) B
 |i,[],B=>by simp[bg]
 | i,e::A,B=>by
  simp only[kO,bg,tP (i+1) A B,cw];rw[show i+1+A.length=i+(A.length+1) from by omega]
def kM(k:GK)(v:Nat):List (GK × List Nat)→List (GK × List Nat)
 | []=>[(k,[v])]
 |e::L=>if e.1=k then (e.1,e.2++[v])::L else e::kM k v L
theorem Bv(k:GK):∀ L:List (GK × List Nat),(∀ e∈L,e.1≠k)∨∃ A vs B,L=A++(k,vs)::B∧∀ e∈A,e.1≠k
 | []=>.inl fun e h=>by cases h
 | e::L=>by
  by_cases he:e.1=k
  ·exact .inr ⟨[],e.2,L,by rw[←he]; rfl,fun e h=>by cases h⟩
  ·rcases Bv k L with h | ⟨A, vs, B, rfl, h⟩
   ·exact .inl fun x d=>by
     rcases bS.1 d with rfl|d
     ·exact he
     ·exact h x d
   ·exact .inr ⟨e::A,vs,B,rfl,fun x d=>by
     rcases bS.1 d with rfl|d
     ·exact he
     ·exact h x d⟩
theorem Bw{k:GK}(v:Nat):∀{L:List (GK × List Nat)},(∀ e∈L,e.1≠k)→kM k v L=L++[(k,[v])]
 | [],_=>rfl
 | e::L,h=>by
  rw[kM,if_neg (h e cH),Bw v fun x d=>h x (cI _ d)];rfl
theorem Bx{k:GK}(v:Nat)(vs:List Nat)(B:List (GK × List Nat)):∀{A:List (GK × List Nat)},(∀ e∈A,e.1≠k)→kM k v (A++(k,vs)::B)=A++(k,vs++[v])::B
 | [],_=>by rw[mq,kM,if_pos rfl,mq]
 | e::A,h=>by
  rw[kO,kM,if_neg (h e cH),Bx v vs B fun x d=>h x (cI _ d)];rfl
theorem Ic(k:GK)(R:List (List G)):∀(A:List (GK × List Nat)) (i j:Nat),(∀ e∈A,e.1≠k)→ch [.str,.int .i64] (du k) (bg i A++R) j=ch [.str,.int .i64] (du k) R (j+A.length)
 | [],_,_,_=>rfl
 | e::A,i,j,h=>by
  rw[bg,kO,ch,show (gi (jt i e) 0).row=du e.1 from rfl,agh (Ne.symm (h e cH)),cond_false,Ic k R A (i+1) (j+1) fun x d=>h x (cI _ d),cw];congr 1;omega
theorem Ry{k:GK}{L:List (GK × List Nat)}(h:∀ e∈L,e.1≠k)(i j:Nat):ch [.str,.int .i64] (du k) (bg i L) j=none:=by
 have:=Ic k [] L i j h;rw[dx]at this;exact this
theorem Rz{k:GK}{A:List (GK × List Nat)}(h:∀ e∈A,e.1≠k)(i:Nat)(r:List G)(d:(gi r 0).row=du k)(R:List (List G)):ch [.str,.int .i64] (du k) (bg i A++r::R) 0=some (A.length,r):=by
 rw[Ic k (r::R) A i 0 h,ch,d,agf,cond_true,cR]
theorem RA(R:List (List G)):∀(A:List (GK × List Nat)) (i j c:Nat),i+A.length≤c→fi (c:Int) (bg i A++R) j=fi (c:Int) R (j+A.length)
 | [],_,_,_,_=>rfl
 | e::A,i,j,c,h=>by
  rw[cw]at h;have hb:(((gi (jt i e) 2).int.toNat:Int)==(c:Int))=false:=by
   show (((i:Int).toNat:Int)==(c:Int))=false
   rw[bp,beq_eq_false_iff_ne];omega
  rw[bg,kO,fi,hb,cond_false,RA R A (i+1) (j+1) c (by omega),cw];congr 1;omega
theorem RB(A:List (GK × List Nat))(r:List G)(R:List (List G))(d:(gi r 2).int=(A.length:Int)):fi (A.length:Int) (bg 0 A++r::R) 0=some (A.length,r):=by
 rw[RA (r::R) A 0 0 A.length (by omega),fi,d,bp,show ((A.length:Int)==(A.length:Int))=true from by simp,cond_true,cR]
theorem xn{α:Type}(p:List α)(x y:α)(q:List α)(n:Nat)(h:p.length=n):(p++x::q).set n y=p++y::q:=by
 subst h;rw[List.set_append_right _ _ (aH _),Nat.sub_self,List.set_cons_zero]
def pd(L:List (GK × List Nat)):Nat:=(L.map fun e=>e.2.length).sum
theorem agi{L:List (GK × List Nat)}{e:GK × List Nat}(h:e∈L):e.2.length≤pd L:=by
 induction L with
 |nil=>cases h
 | cons x L d =>
  unfold pd at d⊢;rw[cY,S2];rcases bS.1 h with rfl|h
  ·omega
  ·have := d h
   omega
theorem RC(k:GK)(v:Nat):∀ L:List (GK × List Nat),pd (kM k v L)=pd L+1
 | []=>rfl
 | e::L=>by
  have d:=RC k v L;rw[kM];split
  ·unfold pd
   simp;omega
  ·unfold pd at d ⊢
   rw[cY,S2,cY,S2,d];omega
theorem agj(L:List (GK × List Nat))(k:GK)(v:Nat) :
  ob [.str,.int .i64] (bg 0 L) (du k)=true∧(gK [.str,.int .i64] (bg 0 L) (du k)).length≤pd L ∧
   rY (lT [.str,.int .i64] (bg 0 L) (du k) L.length) (lS [.str,.int .i64] (bg 0 L) (du k) L.length:Nat)=true ∧
   rX (lT [.str,.int .i64] (bg 0 L) (du k) L.length) (lS [.str,.int .i64] (bg 0 L) (du k) L.length:Nat) (gK [.str,.int .i64] (bg 0 L) (du k)++[[.i (v:Int)]])=bg 0 (kM k v L) ∧
   gx [.str,.int .i64] (bg 0 L) (du k) L.length=(kM k v L).length:=by
 rcases Bv k L with h1|⟨A,vs,B,rfl,y⟩
 ·have d := Ry h1 0 0
  have g:gK [.str,.int .i64] (bg 0 L) (du k)=[]:=by unfold gK; rw[d]
  have h:lT [.str,.int .i64] (bg 0 L) (du k) L.length=bg 0 L++[[.l [du k],.l [[.l []]],.i (L.length:Int),.t false]]:=by unfold lT; rw[d]
  have q:lS [.str,.int .i64] (bg 0 L) (du k) L.length=L.length:=by unfold lS; rw[d]
  have u:=RB L [.l [du k],.l [[.l []]],.i (L.length:Int),.t false] [] rfl;refine⟨by unfold ob; rw[d],by rw[g]; simp,?_,?_,?_⟩
  ·rw [h, q]
   unfold rY;rw[u];rfl
  ·rw [h, q, g, Bw v h1, tP]
   unfold rX;rw[u];simp only[];rw[xn _ _ _ _ _ (xm 0 L),cR];rfl
  ·rw [Bw v h1]
   unfold gx dP;rw[d];simp
 ·have d:ch [.str,.int .i64] (du k) (bg 0 (A++(k,vs)::B)) 0=some (A.length,jt A.length (k,vs)):=by
   rw[tP,bg,cR];exact Rz y 0 (jt A.length (k,vs)) rfl _
  have g:gK [.str,.int .i64] (bg 0 (A++(k,vs)::B)) (du k)=bt vs:=by unfold gK; rw[d]; rfl
  have h:lT [.str,.int .i64] (bg 0 (A++(k,vs)::B)) (du k) (A++(k,vs)::B).length=bg 0 A++[.l [du k],.l [[.l (bt vs)]],.i (A.length:Int),.t false]::bg (A.length+1) B:=by
   unfold lT;rw[d,tP,bg,cR];exact xn _ _ _ _ _ (xm 0 A)
  have q:lS [.str,.int .i64] (bg 0 (A++(k,vs)::B)) (du k) (A++(k,vs)::B).length=A.length:=by
   unfold lS;rw[d];show ((A.length:Int).toNat)=A.length
   exact bp _
  have u:=RB A [.l [du k],.l [[.l (bt vs)]],.i (A.length:Int),.t false] (bg (A.length+1) B) rfl;refine⟨by unfold ob; rw[d]; rfl,by rw[g,mf]; exact agi (e:=(k,vs)) (by simp),?_,?_,?_⟩
  ·rw [h, q]
   unfold rY;rw[u];rfl
  ·rw [h, q, g, Bx v vs B y, tP, bg, cR]
   unfold rX;rw[u];simp only[];rw[xn _ _ _ _ _ (xm 0 A)];have z:bt vs++[[G.i (v:Int)]]=bt (vs++[v]):=by unfold bt; rw[iI]; rfl
   rw[z];rfl
  ·rw [Bx v vs B y]
   unfold gx dP;rw[d];simp
/-! ### d of a log -/
def fo(r:List G):GK:=(aN r,nt r)
def kN(l:List (List G))(s:ByteArray)(i:Nat):Bool:=(H7 (l.getD i [])).toList==s.toList
def nu(l:List (List G))(s:ByteArray)(L:List (GK × List Nat))(i:Nat):List (GK × List Nat):=bif kN l s i then kM (fo (l.getD i [])) i L else L
def mh(l:List (List G))(s:ByteArray)(n:Nat):List (GK × List Nat):=(er n).foldl (nu l s) []
theorem RD(l:List (List G))(s:ByteArray)(n:Nat):mh l s (n+1)=nu l s (mh l s n) n:=by
 unfold mh;rw[SH,List.foldl_append];rfl
def fP(l:List (List G))(s:ByteArray)(k:GK)(n:Nat):List Nat:=(er n).filter fun i=>kN l s i&&decide (fo (l.getD i [])=k)
theorem Ie(l:List (List G))(s:ByteArray)(k:GK)(n:Nat):fP l s k (n+1)=fP l s k n++if kN l s n=true∧fo (l.getD n [])=k then [n] else []:=by
 unfold fP;rw[SH,aih];congr 1;by_cases h1:kN l s n=true
 ·by_cases d : fo (l.getD n []) = k
  ·rw[if_pos ⟨h1,d⟩,BW,if_pos (by rw[h1,dq,decide_eq_true_eq]; exact d),S3]
  ·rw[if_neg fun e=>d e.2,BW,if_neg (by rw[h1,dq,decide_eq_true_eq]; exact d),S3]
 ·rw[if_neg fun e=>h1 e.1,BW,if_neg (by rw[ar]; exact fun e=>h1 e.1),S3]
structure GI (l:List (List G)) (s:ByteArray) (n:Nat) (L:List (GK × List Nat)):Prop where
 If:pd L≤n
 len:L.length≤n
 nd:(L.map (·.1)).Nodup
 qI:∀ e∈L,e.2=fP l s e.1 n∧e.2≠[]
 all:∀ k,fP l s k n≠[]→∃ e∈L,e.1=k
theorem GI.zero(l:List (List G))(s:ByteArray):GI l s 0 []:=⟨aH _,aH _,by simp,by simp,fun k h=>(h rfl).elim⟩
theorem GI.step{l:List (List G)}{s:ByteArray}{n:Nat}{L:List (GK × List Nat)}(h:GI l s n L):GI l s (n+1) (nu l s L n):=by
 unfold nu;cases hw:kN l s n with
 | false =>
  have e:∀ k,fP l s k (n+1)=fP l s k n:=fun k=>by rw[Ie,if_neg (by rw[hw]; simp),dx]
  exact⟨S4 h.If,S4 h.len,h.nd,fun x d=>by rw[e]; exact h.qI x d,fun k hk=>by rw[e]at hk; exact h.all k hk⟩
 | true =>
  rw[cond_true];have u:fP l s (fo (l.getD n [])) (n+1)=fP l s (fo (l.getD n [])) n++[n]:=by rw[Ie,if_pos ⟨hw,rfl⟩]
  have q:∀ k,fo (l.getD n [])≠k→fP l s k (n+1)=fP l s k n:=fun k hk=>by rw[Ie,if_neg (fun e=>hk e.2),dx]
  have v:=RC (fo (l.getD n [])) n L;have N:=h.If;have I:=h.len;rcases Bv (fo (l.getD n [])) L with h1|⟨A,vs,B,rfl,z⟩
  ·rw [Bw n h1] at v ⊢
   refine⟨by omega,by simp; omega,?_,fun x d=>?_,fun k hk=>?_⟩
   ·rw [iI, aip]
    refine⟨h.nd,by simp,fun a ha b hb=>?_⟩;obtain⟨e,he,rfl⟩:=di.1 ha;simp at hb;subst hb;exact h1 e he
   ·rcases cG.1 d with d | d
    ·rw [q x.1 (Ne.symm (h1 x d))]
     exact h.qI x d
    ·have d := ib.1 d
     subst d;show [n]=fP l s (fo (l.getD n [])) (n+1)∧[n]≠[]
     rw[u];have:fP l s (fo (l.getD n [])) n=[]:=by
      cases J:fP l s (fo (l.getD n [])) n with
      |nil=>rfl
      | cons y O =>
       obtain⟨e,he,hk⟩:=h.all (fo (l.getD n [])) (by rw[J]; simp);exact(h1 e he hk).elim
     rw[this];simp
   ·by_cases e : fo (l.getD n []) = k
    ·exact⟨_,ud _ cH,e⟩
    ·rw [q k e] at hk
     obtain⟨x,d,g⟩:=h.all k hk;exact⟨x,nM _ d,g⟩
  ·rw [Bx n vs B z] at v ⊢
   have t:=h.nd;rw[iI,cY]at t;have M:∀ e∈B,e.1≠fo (l.getD n []):=fun e he hk=>by
    have:=(aip.1 t).2.1;rw[List.nodup_cons]at this;exact this.1 (hk▸di.2 ⟨e,he,rfl⟩)
   refine⟨by omega,by simp at I⊢; omega,?_,fun x d=>?_,fun k hk=>?_⟩
   ·rw [iI, cY]
    exact t
   ·rcases cG.1 d with d | d
    ·rw [q x.1 (Ne.symm (z x d))]
     exact h.qI x (nM _ d)
    ·rcases bS.1 d with rfl | d
     ·have := h.qI (fo (l.getD n []), vs) (by simp)
      simp only at this⊢;rw[u,←this.1];simp
     ·rw [q x.1 (Ne.symm (M x d))]
      exact h.qI x (ud _ (cI _ d))
   ·by_cases e : fo (l.getD n []) = k
    ·exact⟨_,ud _ cH,e⟩
    ·rw [q k e] at hk
     obtain⟨x,d,g⟩:=h.all k hk;rcases cG.1 d with d|d
     ·exact⟨x,nM _ d,g⟩
     ·rcases bS.1 d with rfl | d
      ·exact(e g).elim
      ·exact⟨x,ud _ (cI _ d),g⟩
theorem GI.to(l:List (List G))(s:ByteArray):∀ n,GI l s n (mh l s n)
 |0=>GI.zero l s
 | n+1=>by
  rw[RD];exact(GI.to l s n).step
def fQ(l:List (List G))(s:ByteArray):List (GK × List Nat):=mh l s l.length
theorem agk(l:List (List G))(y:l.length≤100000)(s:ByteArray) :
  iS s9 [.l [],.i 0,.s s,.l l,.i (l.length:Int),.i 0] fun c g=>c=0∧g=[.l (bg 0 (fQ l s)),.i ((fQ l s).length:Int)]:=by
 have r:=Ek (st:=s9) (σ:=List (GK × List Nat)) (fun L i=>[.l (bg 0 L),.i (L.length:Int),.s s,.l l,.i (l.length:Int),.i (i:Int)]) l (fun L=>(0,[.l (bg 0 L),.i (L.length:Int)]))
  (fun L i=>L=mh l s i) [] (by omega) rfl
  (fun L i z d hi q hm B => by
   have t:=GI.to l s i;rw[←d]at t;have I:=t.If;have k:nu l s L i=mh l s (i+1):=by rw[RD,d]
   obtain⟨u,a2,a3,a4,a5⟩:=agj L (fo z) i;unfold s9
   (dsimp +instances only[Aa,Ab,Ac,Ad,Ae,Af,Ag])
   simp only[bp,q];refine aa.p (aa.p ?_);have v:([.s (gi z 2).str,.i (gi z 1).int]:List G)=du (fo z):=rfl;rw[v,a4,a5];refine aa.test (fun h=>?_) fun h=>?_
   ·have e:nu l s L i=kM (fo z) i L:=by
     unfold nu kN;rw[q,show ((H7 z).toList==s.toList)=true from h,cond_true]
    rw[e]at k;exact aa.pos u (aa.pos (by simp; omega) (aa.pos (by rw[a3]; simp) (aa.p (aa.some ⟨_,rfl,k⟩))))
   ·have e:nu l s L i=L:=by
     unfold nu kN;rw[q,show ((H7 z).toList==s.toList)=false from h,cond_false]
    rw[e]at k;exact aa.p (aa.some ⟨L,rfl,k⟩))
  (fun L d => by
   unfold s9
   (dsimp +instances only[Aa,Ab,Ac,Ad,Ae,Af,Ag])
   simp only[bp];exact aa.n (aa.some rfl))
 refine r.mono ?_;rintro c g ⟨L,d,rfl,rfl⟩;exact⟨rfl,by rw[d]; rfl⟩
theorem RE:∀(i:Nat) (L:List (GK × List Nat)),zn (bg i L)=true
 |_,[]=>rfl
 | i,e::L=>by
  have:=RE (i+1) L;unfold zn at this⊢;rw[bg,iG,this];rfl
theorem RF(l:List (List G))(d:l.length≤100000)(s:ByteArray):wL [.l l,.s s]=some [.l (bg 0 (fQ l s)),.i ((fQ l s).length:Int)]:=by
 refine aa.toEq ?_;unfold wL
 (dsimp +instances only[Aa,Ab,Ac,Ad,Ae,Af,Ag])
 refine aa.loop (agk l d s) (by first|rfl|simp) ?_;rintro _ _ ⟨rfl,rfl⟩
 (dsimp +instances only[Aa,Ab,Ac,Ad,Ae,Af,Ag])
 simp only[bp];exact aa.pos (by rw[RE]; rfl) (aa.some rfl)
theorem agl(l:List (List G))(s:ByteArray)(k:GK):dI [.str,.int .i64] (bg 0 (fQ l s)) (du k) [.l []]=[.l (bt (fP l s k l.length))]:=by
 have g:=GI.to l s l.length;show dI [.str,.int .i64] (bg 0 (mh l s l.length)) (du k) [.l []]=_
 rcases Bv k (mh l s l.length)with h1|⟨A,vs,B,he,h⟩
 ·have:fP l s k l.length=[]:=by
   cases d:fP l s k l.length with
   |nil=>rfl
   | cons y t =>
    obtain⟨e,he,hk⟩:=g.all k (by rw[d]; simp);exact(h1 e he hk).elim
  unfold dI;rw[Ry h1,this];rfl
 ·have q:ch [.str,.int .i64] (du k) (bg 0 (mh l s l.length)) 0=some (A.length,jt A.length (k,vs)):=by
   rw[he,tP,bg,cR];exact Rz h 0 (jt A.length (k,vs)) rfl _
  have d:=g.qI (k,vs) (by rw[he]; simp);unfold dI;rw[q];show [G.l (bt vs)]=_
  rw[show vs=fP l s k l.length from d.1]
end
end Go.Proofs.iU
