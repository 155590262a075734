/-
 What is proved here: what the methods of the stream give on data. No condition.
-/
import Derived.Test.YtljobbkidfdbhaaGreatDoorML4
import Derived.Test.YtljobbkidfdbhaaGreatDoorME
set_option linter.all false
open Bool renaming and_eq_true→ax,true_and→qj,eq_iff_iff→oN,not_not→ae_
open Go.ByteArray renaming toList_eq→wU
open Go.Lib renaming compareBytes→gH
open Int renaming toNat_natCast→a_,tdiv→nq,tmod→jt,tmod_lt_of_pos→ae6,tmod_eq_emod_of_nonneg→ae7,mul_nonneg→ae8,le_refl→tu,le_trans→Hv
open List renaming length_cons→cw,append_nil→cO,length_map→dJ,mem_map→dD,getElem?_map→bZ,getElem?_eq_getElem→bI,getElem?_eq_none→lW,getElem?_set→dR,all_eq_true→cM,getD_eq_getElem?_getD→cf,mem_cons→bW,map_cons→du,cons_append→lZ,ext_getElem?→jR,length_append→fb,mem_append→cS,nil_append→lb,replicate→bM,length_range→ta,mem_cons_self→cW,mem_cons_of_mem→c9,length_replicate→wF,map_append→kA,range→dv,mem_append_left→ql,not_mem_nil→tk,getElem?_range→tn,getElem_mem→nm,mem_append_right→wO,filter_cons→AU,range_succ→AX,any_append→AY,length_filter_le→Q6,filter_append→Q7,filter_nil→Hu,foldl_append→Q8,eq_replicate_iff→afa,sum_cons→Q9,nodup_append→afb
open Nat renaming le_refl→aB,zero_le→er,zero_add→cP,ble→c_,ble_eq→qn,exists_eq_add_of_le→ae',le_succ_of_le→Q_
open Option renaming map_some→eJ
open UInt8 renaming le_antisymm→Q4,not_lt→wT,lt_irrefl→Q5,lt_trans→ae9
namespace Go.Proofs.fW
open Go Go.AL Go.Proofs
noncomputable section
theorem F4(x n:Int)(h0:1≤n)(h1:n≤1099511627776):aa (r8 [.i x,.i n]) fun g=>∃ v,g=[.i v]∧0≤v∧v<n:=by
 unfold r8
 (dsimp +instances only[Aa,Ab,Ac,Ad,Ae,Af,Ag])
 have ha:=ae6 x (by omega:0<n);have hb:=Int.lt_tmod_of_pos x (by omega:0<n)
 (repeat first|refine aa.p ?_|refine aa.n ?_)
 refine aa.test (fun h=>?_) fun h=>?_
 ·simp only [dm, decide_eq_true_eq] at h
  (repeat first|refine aa.p ?_|refine aa.n ?_)
  exact aa.some ⟨_,rfl,by omega,by omega⟩
 ·simp only [dm, decide_eq_false_iff_not] at h
  exact aa.some ⟨_,rfl,by omega,by omega⟩
theorem v7(l:List (List G))(a n:Int)(ha:0≤a)(J:a≤1000000)(h0:1≤n)(h1:n≤1099511627776) :
  aa (oh [.l l,.i a,.i n]) fun g=>∃ v,g=[.l l,.i (a+1),.i v]∧0≤v∧v<n:=by
 unfold oh
 (dsimp +instances only[Aa,Ab,Ac,Ad,Ae,Af,Ag])
 have y:a+1-1=a:=by omega
 simp only[y];by_cases M:l.length=0
 ·(repeat first|refine aa.p ?_|refine aa.n ?_)
  refine aa.call (F4 _ n h0 h1) ?_;rintro _ ⟨v,rfl,d,h⟩
  (dsimp +instances only[Aa,Ab,Ac,Ad,Ae,Af,Ag])
  exact aa.some ⟨v,rfl,d,h⟩
 ·have B : (0 : Int) < (l.length : Int) := by omega
  have d0:0≤nq a l.length:=Int.tdiv_nonneg ha (by omega);have d1:nq a l.length≤a:=by
   rw[Int.tdiv_eq_ediv_of_nonneg ha];exact Int.ediv_le_self _ ha
  have m0:0≤jt a l.length:=by
   rw[ae7 ha];exact Int.emod_nonneg _ (by omega)
  have m1:jt a l.length<l.length:=ae6 a B;have m2:jt a l.length≤a:=by
   rw[ae7 ha];have:=Int.mul_ediv_add_emod a l.length;have k:0≤(l.length:Int)*(a / l.length):=ae8 (by omega) (Int.ediv_nonneg ha (by omega));omega
  generalize N:nq a l.length=q at *;generalize O:jt a l.length=r at *;have p0:0≤q*(7919+r):=ae8 d0 (by omega);have p1:q*(7919+r)≤1000000*2000000:=Int.mul_le_mul (by omega) (by omega) (by omega) (by omega);generalize U:q*(7919+r)=z at *
  (repeat first|refine aa.p ?_|refine aa.n ?_)
  refine aa.call (F4 _ 1073741824 (by omega) (by omega)) ?_;rintro _ ⟨u,rfl,d,h⟩
  (dsimp +instances only[Aa,Ab,Ac,Ad,Ae,Af,Ag])
  (repeat first|refine aa.p ?_|refine aa.n ?_)
  refine aa.call (F4 _ n h0 h1) ?_;rintro _ ⟨v,rfl,k,I⟩
  (dsimp +instances only[Aa,Ab,Ac,Ad,Ae,Af,Ag])
  exact aa.some ⟨v,rfl,k,I⟩
theorem O_(l:List (List G))(a lo hi:Int)(ha:0≤a)(d:a≤1000000)(h0:lo≤hi)(h1 : -1000000000≤lo)(h:hi≤1000000000) :
  aa (vA [.l l,.i a,.i lo,.i hi]) fun g=>∃ v,g=[.l l,.i (a+1),.i v]∧lo≤v∧v≤hi:=by
 unfold vA
 (dsimp +instances only[Aa,Ab,Ac,Ad,Ae,Af,Ag])
 (repeat first|refine aa.p ?_|refine aa.n ?_)
 refine aa.call (v7 l a _ ha d (by omega) (by omega)) ?_;rintro _ ⟨v,rfl,k,q⟩
 (dsimp +instances only[Aa,Ab,Ac,Ad,Ae,Af,Ag])
 (repeat first|refine aa.p ?_|refine aa.n ?_)
 exact aa.some ⟨_,rfl,by omega,by omega⟩
theorem O'{l:List (List G)}{v:Int}(h0:0≤v)(h1:v<l.length):l.getD v.toNat []∈l:=by
 have:v.toNat<l.length:=by omega
 rw[cf,bI this];exact nm this
theorem acd(P:Int→Prop)(l:List (List G))(a:Int)(xs:List (List G))(ha:0≤a)(d:a≤1000000)(h0:1≤xs.length)(h1:xs.length≤1000000)(h:∀ x∈xs,P (gi x 0).int) :
  aa (pW [.l l,.i a,.l xs]) fun g=>∃ v,g=[.l l,.i (a+1),.i v]∧P v:=by
 unfold pW
 (dsimp +instances only[Aa,Ab,Ac,Ad,Ae,Af,Ag])
 refine aa.call (v7 l a _ ha d (by omega) (by omega)) ?_;rintro _ ⟨v,rfl,k,q⟩
 (dsimp +instances only[Aa,Ab,Ac,Ad,Ae,Af,Ag])
 (repeat first|refine aa.p ?_|refine aa.n ?_)
 exact aa.some ⟨_,rfl,h _ (O' k q)⟩
theorem ace(P:ByteArray→Prop)(l:List (List G))(a:Int)(xs:List (List G))(ha:0≤a)(d:a≤1000000)(h0:1≤xs.length)(h1:xs.length≤1000000)(h:∀ x∈xs,P (gi x 0).str) :
  aa (lH [.l l,.i a,.l xs]) fun g=>∃ v,g=[.l l,.i (a+1),.s v]∧P v:=by
 unfold lH
 (dsimp +instances only[Aa,Ab,Ac,Ad,Ae,Af,Ag])
 refine aa.call (v7 l a _ ha d (by omega) (by omega)) ?_;rintro _ ⟨v,rfl,k,q⟩
 (dsimp +instances only[Aa,Ab,Ac,Ad,Ae,Af,Ag])
 (repeat first|refine aa.p ?_|refine aa.n ?_)
 exact aa.some ⟨_,rfl,h _ (O' k q)⟩
theorem acf(l:List (List G))(a n:Int)(ha:0≤a)(d:a≤1000000)(h0:1≤n)(h1:n≤1000000) :
  aa (zD [.l l,.i a,.i n]) fun g=>∃ b,g=[.l l,.i (a+1),.t b]:=by
 unfold zD
 (dsimp +instances only[Aa,Ab,Ac,Ad,Ae,Af,Ag])
 refine aa.call (v7 l a _ ha d (by omega) (by omega)) ?_;rintro _ ⟨v,rfl,h,k⟩;exact aa.some ⟨_,rfl⟩
def ow(L:List ByteArray)(s:ByteArray):Bool:=L.any fun x=>pR x s
theorem z8{L:List ByteArray}{s:ByteArray}(h:ow L s=true):s∈L:=by
 obtain⟨x,d,he⟩:=List.any_eq_true.1 h;exact LF he▸d
theorem F5(lo hi:Int)(l:List (List G))(a:Int)(xs:List (List G))(ha:0≤a)(d:a≤1000000)(h0:(c_ 1 xs.length&&c_ xs.length 1000000)=true) (h:(xs.all fun x=>be lo (gi x 0).int&&be (gi x 0).int hi)=true) :
  aa (pW [.l l,.i a,.l xs]) fun g=>∃ v,g=[.l l,.i (a+1),.i v]∧lo≤v∧v≤hi:=by
 simp only[ax,qn]at h0;refine acd (fun v=>lo≤v∧v≤hi) l a xs ha d h0.1 h0.2 fun x k=>?_;have:=cM.1 h x k;simpa only[eu,ax,decide_eq_true_eq]using this
theorem sL(L:List ByteArray)(l:List (List G))(a:Int)(xs:List (List G))(ha:0≤a)(d:a≤1000000)(h0:(c_ 1 xs.length&&c_ xs.length 1000000)=true) (h:(xs.all fun x=>ow L (gi x 0).str)=true) :
  aa (lH [.l l,.i a,.l xs]) fun g=>∃ v,g=[.l l,.i (a+1),.s v]∧v∈L:=by
 simp only[ax,qn]at h0;exact ace (fun v=>v∈L) l a xs ha d h0.1 h0.2 fun x k=>z8 (cM.1 h x k)
def calls:List ByteArray:=[⟨#[]⟩,⟨#[107,49]⟩,⟨#[75,49,65,66]⟩,⟨#[107,49,97,98,47]⟩,⟨#[49,97]⟩,⟨#[107,49,97,98,47,109,109,47,112]⟩,⟨#[107,49,97,98]⟩,⟨#[107,49,97,97]⟩,⟨#[107,49,97,98,47,52]⟩,
 ⟨#[111,104,50,97,98,99]⟩,⟨#[111,104,50,97,98,100]⟩,⟨#[119,49,97,119]⟩,⟨#[110,49,109,109]⟩,⟨#[103,51,120,121,122,47,112]⟩,⟨#[119,49,97,120]⟩]
def kZ:List ByteArray:=[⟨#[]⟩,⟨#[66]⟩,⟨#[98,50,48]⟩,⟨#[98,52,48]⟩]
def names:List ByteArray:=[⟨#[]⟩,⟨#[65]⟩,⟨#[49]⟩,⟨#[102,105,110]⟩,⟨#[117,115,97]⟩,⟨#[120]⟩]
def small(n:Int):Prop := -2000000000000≤n∧n≤2000000000000
def dy(r:List G):Prop:=∃(t m:Int) (b c:ByteArray) (s h:Int) (x y:ByteArray),r=[.i t,.i m,.s b,.s c,.i s,.i h,.s x,.s y]∧small t∧small m∧small s∧small h∧b∈kZ∧c∈calls∧x∈names∧y∈names
def tight(n:Int):Prop := -1900000000000≤n∧n≤1900000000000
def z_(n:Int):Prop := -1900000000000≤n∧(n≤345000000000∨(345686399999<n∧n≤1900000000000))
def Pa(r:List G):Prop:=∃(t m:Int) (b c:ByteArray) (s h:Int) (x y:ByteArray),r=[.i t,.i m,.s b,.s c,.i s,.i h,.s x,.s y]∧z_ t∧tight m∧tight s∧tight h∧b∈kZ∧c∈calls∧x∈names∧y∈names
theorem tight.to{n:Int}(h:tight n):small n:=⟨by have:=h.1; omega,by have:=h.2; omega⟩
theorem z_.to{n:Int}(h:z_ n):small n:=by
 unfold z_ at h;exact⟨by omega,by omega⟩
theorem Pa.to{r:List G}(h:Pa r):dy r:=by
 obtain⟨t,m,b,c,s,h,x,y,e,h1,d,g,k,q⟩:=h;exact⟨t,m,b,c,s,h,x,y,e,h1.to,d.to,g.to,k.to,q⟩
theorem dy.eta{r:List G}(h:dy r):aH [.int .i64,.int .i64,.str,.str,.int .i64,.int .i64,.str,.str] r=r:=by
 obtain⟨t,m,b,c,s,h,x,y,rfl,_⟩:=h;rfl
def eA(a b:Int):Int:=if a<b then -1 else if b<a then 1 else 0
theorem Pb:∀{a b:List UInt8},gH a b=0→a=b
 | [],[],_=>rfl
 | [],_::_,h=>by simp[gH]at h
 |_::_,[],h=>by simp[gH]at h
 | x::a,y::b,h=>by
  unfold gH at h;split at h
  ·cases h
  ·split at h
   ·cases h
   ·rename_i h1 d
    rw[Pb h,Q4 (wT.1 d) (wT.1 h1)]
theorem Pc:∀ a:List UInt8,gH a a=0
 | []=>rfl
 |x::a=>by simp[gH,Pc a]
theorem F6(a b:ByteArray):(a.toList==b.toList)=decide (df a b=0):=by
 rw[wU,wU,oN,decide_eq_true_eq,beq_iff_eq];constructor
 ·intro h
  unfold df;rw[h];exact Pc _
 ·exact fun h=>Pb h
def v8(a b c d:Int):Int:=if a≠0 then a else if b≠0 then b else if c≠0 then c else d
def dO(r s:List G):Int:=v8 (eA (gi r 0).int (gi s 0).int) (df (gi r 3).str (gi s 3).str) (df (gi r 2).str (gi s 2).str) (eA (gi r 1).int (gi s 1).int)
theorem sign_eq(a b:Int):vB [.i (a-b)]=some [.i (eA a b)]:=by
 refine aa.toEq ?_;unfold vB eA
 (dsimp +instances only[Aa,Ab,Ac,Ad,Ae,Af,Ag])
 by_cases h1:a<b
 ·(repeat first|refine aa.p ?_|refine aa.n ?_)
  exact aa.some (by simp[h1])
 ·by_cases d : b < a
  ·(repeat first|refine aa.p ?_|refine aa.n ?_)
   exact aa.some (by simp[h1,d])
  ·(repeat first|refine aa.p ?_|refine aa.n ?_)
   exact aa.some (by simp[h1,d])
theorem Pd{r s:List G}(q:dy r)(u:dy s):r9 [.l [r],.l [s]]=some [.i (dO r s)]:=by
 obtain⟨t,m,b,c,_,_,_,_,rfl,I,hm,_⟩:=q;obtain⟨t',m',d,g,_,_,_,_,rfl,y,B,_⟩:=u;unfold small at *;refine aa.toEq ?_;unfold r9 dO v8
 (dsimp +instances only[Aa,Ab,Ac,Ad,Ae,Af,Ag])
 simp only[F6];by_cases v:t=t'
 ·subst v
  have z:eA t t=0:=by simp[eA]
  simp only[z]
  (repeat first|refine aa.p ?_|refine aa.n ?_)
  by_cases h:df c g=0
  ·simp only [h]
   (repeat first|refine aa.p ?_|refine aa.n ?_)
   by_cases k:df b d=0
   ·simp only [k]
    (repeat first|refine aa.p ?_|refine aa.n ?_)
    refine aa.cE (sign_eq m m') ?_
    (dsimp +instances only[Aa,Ab,Ac,Ad,Ae,Af,Ag])
    exact aa.some (by simp)
   ·refine aa.pos (by simpa using k) (aa.call (aa.eq (rfl : fM [.s b, .s d] = some [.i (df b d)])) ?_)
    rintro _ rfl
    (dsimp +instances only[Aa,Ab,Ac,Ad,Ae,Af,Ag])
    exact aa.some (by simp[k])
  ·refine aa.pos (by simpa using h) (aa.call (aa.eq (rfl : fM [.s c, .s g] = some [.i (df c g)])) ?_)
   rintro _ rfl
   (dsimp +instances only[Aa,Ab,Ac,Ad,Ae,Af,Ag])
   exact aa.some (by simp[h])
 ·(repeat first|refine aa.p ?_|refine aa.n ?_)
  refine aa.cE (sign_eq t t') ?_
  (dsimp +instances only[Aa,Ab,Ac,Ad,Ae,Af,Ag])
  have z:eA t t'≠0:=by
   unfold eA;split
   ·omega
   ·split<;>omega
  exact aa.some (by simp[z])
theorem v_(a b:Int):mN [.i a,.i b]=some [.i (eA a b)]:=by
 refine aa.toEq ?_;unfold mN zq eA
 (dsimp +instances only[Aa,Ab,Ac,Ad,Ae,Af,Ag])
 simp only[bne_self_eq_false];refine aa.call ⟨_,rfl,rfl⟩ ?_;rintro _ rfl;refine aa.call ⟨_,rfl,rfl⟩ ?_;rintro _ rfl
 (dsimp +instances only[Aa,Ab,Ac,Ad,Ae,Af,Ag])
 (repeat first|refine aa.p ?_|refine aa.n ?_)
 by_cases h1:a<b
 ·(repeat first|refine aa.p ?_|refine aa.n ?_)
  exact aa.some (by simp[h1])
 ·by_cases d : b < a
  ·(repeat first|refine aa.p ?_|refine aa.n ?_)
   exact aa.some (by simp[h1,d])
  ·(repeat first|refine aa.p ?_|refine aa.n ?_)
   exact aa.some (by simp[h1,d])
def lK:List (List G)→Int
 | []=>0
 |x::q=>if (gi x 0).int≠0 then (gi x 0).int else lK q
theorem F7:∀(q p:List (List G)),p.length+q.length<100000 →
  aX rY [.i 0,.l (p++q),.i ((p.length+q.length:Nat):Int),.i (p.length:Int)] (q.length+1) fun c g=>c≤1∧g=[.i (lK q)]
 | [],p,d=>by
  refine aX.stop (x:=1) (aa.toEq ?_) ⟨by omega,rfl⟩;unfold rY
  (dsimp +instances only[Aa,Ab,Ac,Ad,Ae,Af,Ag])
  (repeat first|refine aa.p ?_|refine aa.n ?_)
  exact aa.some rfl
 | y::q,p,d=>by
  simp only[cw]at d;have g1:(p++y::q).getD (p.length:Int).toNat []=y:=kf _ _ _ _ _ (by simp);have hlen:(p++y::q).length=p.length+q.length+1:=by simp; omega
  by_cases he:(gi y 0).int=0
  ·have h := F7 q (p ++ [y]) (by simp; omega)
   have e:lK (y::q)=lK q:=by simp[lK,he]
   rw[e];refine aX.next (aa.toEq ?_) h
   unfold rY
   (dsimp +instances only[Aa,Ab,Ac,Ad,Ae,Af,Ag])
   simp only[g1,hlen,cw]
   (repeat first|refine aa.p ?_|refine aa.n ?_)
   refine aa.some ?_;simp;omega
  ·refine aX.stop (x := 0) (aa.toEq ?_) ⟨by omega, rfl⟩
   unfold rY
   (dsimp +instances only[Aa,Ab,Ac,Ad,Ae,Af,Ag])
   simp only[g1,hlen,cw]
   (repeat first|refine aa.p ?_|refine aa.n ?_)
   refine aa.some ?_;simp[lK,he]
theorem or_eq(a b c d:Int):lG [.l [[.i a],[.i b],[.i c],[.i d]]]=some [.i (v8 a b c d)]:=by
 refine aa.toEq ?_;unfold lG
 (dsimp +instances only[Aa,Ab,Ac,Ad,Ae,Af,Ag])
 have h:=F7 [[.i a],[.i b],[.i c],[.i d]] [] (by simp);refine aa.loop (h.to (by simp)) (by(first|rfl|assumption|(simp only[ao,sl]<;>omega))) ?_;rintro x g ⟨v,rfl⟩;have e:lK [[.i a],[.i b],[.i c],[.i d]]=v8 a b c d:=by
  simp only[lK,v8]
  (dsimp +instances only[Aa,Ab,Ac,Ad,Ae,Af,Ag])
  by_cases h1:a=0<;>by_cases k:b=0<;>by_cases q:c=0<;>by_cases u:d=0<;>simp[h1,k,q,u]
 rw[e]
 (dsimp +instances only[Aa,Ab,Ac,Ad,Ae,Af,Ag])
 exact aa.test (fun _=>aa.some rfl) fun _=>aa.some rfl
theorem acg{r s:List G}(h:dy r)(k:dy s):zt [.l [r],.l [s]]=some [.i (dO r s)]:=by
 obtain⟨t,m,b,c,_,_,_,_,rfl,v,hm,_⟩:=h;obtain⟨t',m',d,g,_,_,_,_,rfl,q,u,_⟩:=k;refine aa.toEq ?_;unfold zt
 (dsimp +instances only[Aa,Ab,Ac,Ad,Ae,Af,Ag])
 refine aa.cE (v_ t t') ?_;refine aa.cE (rfl:fM [.s c,.s g]=some [.i (df c g)]) ?_;refine aa.cE (rfl:fM [.s b,.s d]=some [.i (df b d)]) ?_;refine aa.cE (v_ m m') ?_
 (dsimp +instances only[Aa,Ab,Ac,Ad,Ae,Af,Ag])
 refine aa.cE (or_eq _ _ _ _) ?_;exact aa.some rfl
theorem ach:rT [.int .i64,.int .i64,.str,.str,.int .i64,.int .i64,.str,.str] r9 dy dO:=⟨fun _ _ d g=>Pd d g,fun _ h=>h.eta⟩
def cL(v lo hi:Int):Bool:=be lo v&&be v hi
theorem ox(v lo hi:Int):jg [.i v,.i lo,.i hi]=some [.t (!cL v lo hi)]:=by
 unfold jg cL
 (dsimp +instances only[Aa,Ab,Ac,Ad,Ae,Af,Ag])
 have h1:aj v lo = !be lo v:=by rw[dm,eu,oN]; simp
 have d:aj hi v = !be v hi:=by rw[dm,eu,oN]; simp
 rw[h1,d];cases be lo v<;>cases be v hi<;>rfl
def lL(s:ByteArray):Bool:=ow [⟨#[98,50,48]⟩,⟨#[98,52,48]⟩,⟨#[102,105,110]⟩,⟨#[117,115,97]⟩,⟨#[120]⟩] s
def mQ(s:ByteArray):Bool:=ow [⟨#[]⟩] s||lL s
def ji(s:ByteArray):Bool:=(gi ((pV [.s s]).getD []) 0).bool
theorem Pe{s:ByteArray}(h:s∈kZ∨s∈names):og [.s s]=some [.t (lL s)]:=by
 simp only[kZ,names,bW,tk,or_false]at h;rcases h with(rfl|rfl|rfl|rfl)|(rfl|rfl|rfl|rfl|rfl|rfl)<;>kernel_rfl
theorem Pf{s:ByteArray}(h:s∈names):vt [.s s]=some [.t (mQ s)]:=by
 simp only[names,bW,tk,or_false]at h;rcases h with(rfl|rfl|rfl|rfl|rfl|rfl)<;>kernel_rfl
theorem Ah{s:ByteArray}(h:s∈calls):pV [.s s]=some [.t (ji s)]:=by
 simp only[calls,bW,tk,or_false]at h;rcases h with(rfl|rfl|rfl|rfl|rfl|rfl|rfl|rfl|rfl|rfl|rfl|rfl|rfl|rfl|rfl)<;>kernel_rfl
def fX(r:List G):Int :=
 bif !cL (gi r 0).int 0 345686399999 then 1 else bif !cL (gi r 1).int 1 3 then 4 else bif !lL (gi r 2).str then 5 else bif !ji (gi r 3).str then 3 else
 bif !cL (gi r 4).int 0 99999 then 1 else bif !cL (gi r 5).int 0 99999 then 1 else bif !mQ (gi r 6).str then 5 else bif !mQ (gi r 7).str then 5 else 0
theorem aci{r:List G}(d:dy r):zp [.l [r]]=some [.i (fX r)]:=by
 obtain⟨t,m,b,c,s,h,x,y,rfl,_,_,_,_,hb,g,k,q⟩:=d;unfold zp pU rX fX
 (dsimp +instances only[Aa,Ab,Ac,Ad,Ae,Af,Ag])
 have u:=Pe (.inl hb);have v:=Pf k;have B:=Pf q;have I:=Ah g;rw[ox t,ox m];rw[u,I,ox s,ox h,v,B];generalize cL t 0 345686399999=b1;generalize cL m 1 3=J;generalize lL b=M;generalize ji c=N;generalize cL s 0 99999=O;generalize cL h 0 99999=U;generalize mQ x=V;generalize mQ y=W;cases b1<;>cases J<;>cases M<;>cases N<;>cases O<;>cases U<;>cases V<;>cases W<;>rfl
def pZ(K:List Kd)(C D:List G→Option (List G))(d:List G):Option (Option Nat × List G) :=
 (bif (aj (gi d 3).int (gi d 2).int) then (bif ((az (gi d 3).int)&&(aj (gi d 3).int (((gi d 1).rows.length:Nat):Int))) then (aA (C [.l [(aH K ((gi d 1).rows.getD (((gi d 3).int).toNat) []))]]) fun g1=>(bif ((gi g1 0).int != 0) then some (some 0,[.i (gi g1 0).int]) else (bif (aj 0 (gi d 3).int) then (bif (ao ((gi d 3).int-1)) then (bif ((az ((gi d 3).int-1))&&(aj ((gi d 3).int-1) (((gi d 0).rows.length:Nat):Int))) then (aA (D [.l [(aH K ((gi d 0).rows.getD (((gi d 3).int-1).toNat) []))],.l [(aH K ((gi d 1).rows.getD (((gi d 3).int).toNat) []))]]) fun g2=>(bif (be 0 (gi g2 0).int) then some (some 0,[.i 7]) else (bif (ao ((gi d 3).int+1)) then some (none,[.l (gi d 0).rows,.l (gi d 1).rows,.i (gi d 2).int,.i ((gi d 3).int+1)]) else none))) else none) else none) else (bif (ao ((gi d 3).int+1)) then some (none,[.l (gi d 0).rows,.l (gi d 1).rows,.i (gi d 2).int,.i ((gi d 3).int+1)]) else none)))) else none) else some (some 1,[]))
def Pg(K:List Kd)(C D:List G→Option (List G))(d:List G):Option (List G) :=
 (bif (aj 2000 (((gi d 0).rows.length:Nat):Int)) then some [.i 2] else (aN true (bT (pZ K C D) [.l (gi d 0).rows,.l (gi d 0).rows,.i (((gi d 0).rows.length:Nat):Int),.i 0]) fun g g3=>(bif Nat.beq g 0 then some [.i (gi g3 0).int] else some [.i 0])))
def eR:Option (List G)→List (List G)→Int
 |_,[]=>0
 |none,x::q=>if fX x≠0 then fX x else eR (some x) q
 |some y,x::q=>if fX x≠0 then fX x else if 0≤dO y x then 7 else eR (some x) q
def gB(l:List (List G)):Int:=if 2000<l.length then 2 else eR none l
section
variable {C D:List G→Option (List G)} (hC:∀ r,dy r→C [.l [r]]=some [.i (fX r)]) (hD:∀ r s,dy r→dy s→D [.l [r],.l [s]]=some [.i (dO r s)])
include hC hD
theorem Ph:∀(q p:List (List G)),(∀ z∈p++q,dy z)→p.length+q.length<100000 →
  aX (pZ [.int .i64,.int .i64,.str,.str,.int .i64,.int .i64,.str,.str] C D) [.l (p++q),.l (p++q),.i ((p.length+q.length:Nat):Int),.i (p.length:Int)] (q.length+1) fun c g=>(c=0∧g=[.i (eR p.getLast? q)])∨c=1∧eR p.getLast? q=0
 | [],p,u,I=>by
  refine aX.stop (x:=1) (d':=[]) (aa.toEq ?_) (.inr ⟨rfl,by unfold eR; rfl⟩);unfold pZ
  (dsimp +instances only[Aa,Ab,Ac,Ad,Ae,Af,Ag])
  (repeat first|refine aa.p ?_|refine aa.n ?_)
  exact aa.some rfl
 | x::q,p,u,I=>by
  simp only[cw]at I;have d:dy x:=u x (by simp);have g1:(p++x::q).getD (p.length:Int).toNat []=x:=kf _ _ _ _ _ (by simp);have hlen:(p++x::q).length=p.length+q.length+1:=by simp; omega
  by_cases h:fX x=0
  ·have B := Ph q (p ++ [x]) (by simpa using u) (by simp; omega)
   rw[List.getLast?_concat]at B;rcases List.eq_nil_or_concat p with rfl|⟨k,y,rfl⟩
   ·have e : eR ([] : List (List G)).getLast? (x :: q) = eR (some x) q := by simp [eR, h]
    rw[e];refine aX.next (aa.toEq ?_) B
    unfold pZ
    (dsimp +instances only[Aa,Ab,Ac,Ad,Ae,Af,Ag])
    simp only[g1,hlen,cw,d.eta]
    (repeat first|refine aa.p ?_|refine aa.n ?_)
    refine aa.cE (hC x d) ?_
    (dsimp +instances only[Aa,Ab,Ac,Ad,Ae,Af,Ag])
    simp only[h]
    (repeat first|refine aa.p ?_|refine aa.n ?_)
    refine aa.some ?_;simp;omega
   ·rw [List.concat_eq_append] at *
    have v:dy y:=u y (by simp);have g2:((k++[y])++x::q).getD (((k++[y]).length:Int)-1).toNat []=y:=by
     have e:(k++[y])++x::q=k++y::x::q:=by simp
     rw[e]; exact kf _ _ _ _ _ (by simp)
    have M:(k++[y]).length=k.length+1:=by simp
    have J:(k++[y]).getLast? = some y:=by simp
    rw[J];by_cases ho:0≤dO y x
    ·refine aX.stop (x := 0) (d' := [.i 7]) (aa.toEq ?_) (.inl ⟨rfl, by simp [eR, h, ho]⟩)
     unfold pZ
     (dsimp +instances only[Aa,Ab,Ac,Ad,Ae,Af,Ag])
     simp only[g1,g2,hlen,cw,d.eta,v.eta]
     (repeat first|refine aa.p ?_|refine aa.n ?_)
     refine aa.cE (hC x d) ?_
     (dsimp +instances only[Aa,Ab,Ac,Ad,Ae,Af,Ag])
     simp only[h]
     (repeat first|refine aa.p ?_|refine aa.n ?_)
     refine aa.cE (hD y x v d) ?_
     (dsimp +instances only[Aa,Ab,Ac,Ad,Ae,Af,Ag])
     (repeat first|refine aa.p ?_|refine aa.n ?_)
     exact aa.some rfl
    ·have e : eR (some y) (x :: q) = eR (some x) q := by simp [eR, h, ho]
     rw[e];refine aX.next (aa.toEq ?_) B
     unfold pZ
     (dsimp +instances only[Aa,Ab,Ac,Ad,Ae,Af,Ag])
     simp only[g1,g2,hlen,cw,d.eta,v.eta]
     (repeat first|refine aa.p ?_|refine aa.n ?_)
     refine aa.cE (hC x d) ?_
     (dsimp +instances only[Aa,Ab,Ac,Ad,Ae,Af,Ag])
     simp only[h]
     (repeat first|refine aa.p ?_|refine aa.n ?_)
     refine aa.cE (hD y x v d) ?_
     (dsimp +instances only[Aa,Ab,Ac,Ad,Ae,Af,Ag])
     (repeat first|refine aa.p ?_|refine aa.n ?_)
     refine aa.some ?_;simp;omega
  ·refine aX.stop (x := 0) (d' := [.i (fX x)]) (aa.toEq ?_) (.inl ⟨rfl, by cases N : p.getLast? <;> simp [eR, h]⟩)
   unfold pZ
   (dsimp +instances only[Aa,Ab,Ac,Ad,Ae,Af,Ag])
   simp only[g1,hlen,cw,d.eta]
   (repeat first|refine aa.p ?_|refine aa.n ?_)
   refine aa.cE (hC x d) ?_
   (dsimp +instances only[Aa,Ab,Ac,Ad,Ae,Af,Ag])
   refine aa.pos (by simpa using h) (aa.some rfl)
theorem acj(l:List (List G))(d:∀ z∈l,dy z)(k:l.length<100000):Pg [.int .i64,.int .i64,.str,.str,.int .i64,.int .i64,.str,.str] C D [.l l]=some [.i (gB l)]:=by
 refine aa.toEq ?_;unfold Pg gB
 (dsimp +instances only[Aa,Ab,Ac,Ad,Ae,Af,Ag])
 by_cases h:2000<l.length
 ·(repeat first|refine aa.p ?_|refine aa.n ?_)
  exact aa.some (by simp[h])
 ·(repeat first|refine aa.p ?_|refine aa.n ?_)
  have h1:=Ph hC hD l [] (by simpa using d) (by simpa using k);have h0:((0:Nat):Int)=0:=rfl;simp only[lb,List.length_nil,cP,h0]at h1;refine aa.loop (h1.to (by omega)) (by(first|rfl|assumption|(simp only[ao,sl]<;>omega))) ?_;rintro c g (⟨rfl,rfl⟩|⟨rfl,q⟩)
  ·(dsimp +instances only [Aa,Ab,Ac,Ad,Ae,Af,Ag])
   (repeat first|refine aa.p ?_|refine aa.n ?_)
   refine aa.some ?_;rw[if_neg h];rfl
  ·(repeat first|refine aa.p ?_|refine aa.n ?_)
   refine aa.some ?_;rw[if_neg h];exact congrArg (fun z=>[G.i z]) q.symm
end
theorem F8(l:List (List G))(d:∀ z∈l,dy z)(g:l.length<100000):zu [.l l]=some [.i (gB l)] :=
 acj (fun _ h=>aci h) (fun _ _ h h'=>acg h h') l d g
end
end Go.Proofs.fW

namespace Go.Proofs.fW
open Go Go.AL Go.Proofs
noncomputable section
def Pj:List (List G)→Bool
 | []=>false
 | [_]=>false
 |x::y::q=>dO x y==0||Pj (y::q)
def afs(m:List (List G)):List G:=bif Pj m then [.l [],.i 13] else bif Nat.blt 2000 m.length then [.l [],.i 2] else [.l m,.i 0]
end
end Go.Proofs.fW

namespace Go.Proofs.fW
open Go Go.AL Go.Proofs
noncomputable section
structure aft (s:List (List G) × List (List G)) (i:Nat):Prop where
 l1:s.1.length≤i
 l2:s.2.length≤i
 r1:∀ r∈s.1,∃ a b,r=[.i a,.i b]∧0≤b∧b≤i+1
 r2:∀ r∈s.2,∃ a,r=[.i a]
def p6(r:List G):Prop:=∃(t m:Int) (b c:ByteArray) (s h:Int) (x y:ByteArray),r=[.i t,.i m,.s b,.s c,.i s,.i h,.s x,.s y]
theorem dy.row{r:List G}(h:dy r):p6 r:=by
 obtain⟨t,m,b,c,s,h,x,y,e,_⟩:=h;exact⟨t,m,b,c,s,h,x,y,e⟩
theorem p6.eta{r:List G}(h:p6 r):aH [.int .i64,.int .i64,.str,.str,.int .i64,.int .i64,.str,.str] r=r:=by
 obtain⟨t,m,b,c,s,h,x,y,rfl⟩:=h;rfl
theorem p6.put{r:List G}(h:p6 r)(n:Int):p6 (bf [.int .i64,.int .i64,.str,.str,.int .i64,.int .i64,.str,.str] r 4 [.i n]):=by
 obtain⟨t,m,b,c,s,h,x,y,rfl⟩:=h;exact⟨t,m,b,c,n,h,x,y,rfl⟩
/-! ### d -/
def Ai(s:ByteArray):ByteArray:=(gi ((vu [.s s]).getD []) 0).str
theorem Pk{s:ByteArray}(h:s∈calls):vu [.s s]=some [.s (Ai s)]:=by
 simp only[calls,bW,tk,or_false]at h;rcases h with(rfl|rfl|rfl|rfl|rfl|rfl|rfl|rfl|rfl|rfl|rfl|rfl|rfl|rfl|rfl)<;>kernel_rfl
abbrev K3:List Kd:=[.str,.str,.int .i64]
def wk(y:List G):List G:=[.s (Ai (gi y 3).str),.s (gi y 2).str,.i (gi y 1).int]
def kg(l:List (List G))(i:Nat):Bool:=(l.take i).any fun y=>aR K3 (wk (l.getD i [])) (wk y)
def jO(l:List (List G)):Nat→List (List G)
 |0=>[]
 |i+1=>jO l i++bif kg l i then [[.i (i:Int)]] else []
theorem F9(l:List (List G)):∀ i,(jO l i).length≤i
 |0=>aB _
 | i+1=>by
  have:=F9 l i;simp only[jO,fb];cases kg l i<;>simp<;>omega
theorem ack(l:List (List G))(hC:∀ z∈l,dy z)(N:l.length<90000):zw [.l l]=some [.l (jO l l.length)]:=by
 refine aa.toEq ?_;unfold zw
 (dsimp +instances only[Aa,Ab,Ac,Ad,Ae,Af,Ag])
 have r:=za (st:=vw) (σ:=List (List G) × Nat × List (List G)) (fun s i=>[.l s.1,.i (s.2.1:Int),.l s.2.2,.l l,.i (l.length:Int),.i (i:Int)]) l (fun s=>(0,[.l s.2.2]))
  (fun s i=>(∀ key,(gi (aw K3 s.1 key [.t false]) 0).bool=(l.take i).any fun y=>aR K3 key (wk y))∧s.2.2=jO l i) ([],0,[]) (by omega) ⟨fun key=>by simp[Dn]; rfl,rfl⟩
  (fun s i x v hi B hm J => by
   obtain⟨I,d⟩:=v;have q:(gi x 3).str∈calls:=by
    obtain⟨t,m,b,c,s,h,O,U,rfl,_,_,_,_,_,q,_⟩:=hC x hm;exact q
   have M:=F9 l i;rw[←d]at M;have hk:(gi (aw K3 s.1 [.s (Ai (gi x 3).str),.s (gi x 2).str,.i (gi x 1).int] [.t false]) 0).bool=kg l i:=by
    rw[I];unfold kg;rw[B];rfl
   unfold vw
   (dsimp +instances only[Aa,Ab,Ac,Ad,Ae,Af,Ag])
   simp only[a_,B];refine aa.p (aa.p ?_);refine aa.cE (Pk q) ?_
   (dsimp +instances only[Aa,Ab,Ac,Ad,Ae,Af,Ag])
   have u:∀ key,(gi (aw K3 (aI K3 s.1 (wk x) [.t true] s.2.1) key [.t false]) 0).bool=(l.take (i+1)).any fun y=>aR K3 key (wk y):=fun key=>by
    rw[vj,J,AY,←I key];cases hk:aR K3 key (wk x)<;>simp[hk,Aa,Ag]
   refine aa.test (fun h=>?_) fun h=>?_
   ·have hb : kg l i = true := hk ▸ h
    (repeat first|refine aa.p ?_|refine aa.n ?_)
    exact aa.some ⟨(aI K3 s.1 (wk x) [.t true] s.2.1,bl K3 s.1 (wk x) s.2.1,s.2.2++[[.i (i:Int)]]),rfl,u,by simp only[jO,hb,d,cond_true]⟩
   ·have hb : kg l i = false := hk ▸ h
    (repeat first|refine aa.p ?_|refine aa.n ?_)
    exact aa.some ⟨(aI K3 s.1 (wk x) [.t true] s.2.1,bl K3 s.1 (wk x) s.2.1,s.2.2),rfl,u,by simp only[jO,hb,d,cond_false,cO]⟩)
  (fun s v => by
   unfold vw
   (dsimp +instances only[Aa,Ab,Ac,Ad,Ae,Af,Ag])
   (repeat first|refine aa.p ?_|refine aa.n ?_)
   exact aa.some rfl)
 refine aa.loop r rfl ?_;rintro c g ⟨⟨m,k,out⟩,⟨_,rfl⟩,rfl,rfl⟩
 (dsimp +instances only[Aa,Ab,Ac,Ad,Ae,Af,Ag])
 (repeat first|refine aa.p ?_|refine aa.n ?_)
 exact aa.some rfl
def has(a b t:Int):Bool:=be a t&&aj t b
def okW(a b:Int):Bool:=cL a 0 b&&be b 345686400000
/-! ### d -/
structure afu (s:List (List G) × Int) (i:Nat):Prop where
 len:s.1.length≤i
 rows:∀ r∈s.1,∃ a b,r=[.i a,.i b]
 at0:0≤s.2
 at1:s.2≤345686400000
/-! ### d -/
structure afx (s:List (List G)) (n i:Nat):Prop where
 len:s.length=n
 rows:∀ r∈s,∃ v,r=[.i v]∧0≤v∧v≤i
def Aj(r:List G):Prop:=∃ a b,r=[.i a,.i b]
structure afy (R T N D P O:List (List G)):Prop where
 r:∀ x∈R,Aj x
 rl:R.length<100000
 t:T.length<100000
 n:∀ x∈N,p6 x
 nl:N.length<100000
 d:D.length<90000
 p:∀ x∈P,Aj x
 pl:P.length<100000
 o:O.length<90000
def wf(a b:Int):Int:=bif okW a b then 0 else 1
theorem Pl:∀ a b:List UInt8,gH b a = - gH a b
 | [],[]=>rfl
 | [],_::_=>rfl
 |_::_,[]=>rfl
 | a::xs,b::g=>by
  simp only[gH];have k:=Pl xs g;by_cases h1:a<b
  ·have d : ¬ b < a := fun h => Q5 a (ae9 h1 h)
   simp[h1,d]
  ·by_cases d : b < a
   ·simp[h1,d]
   ·simp[h1,d,k]
theorem Pm:∀{a b c:List UInt8},gH a b<0→gH b c<0→gH a c<0
 | [],[],_,h,_=>by simp[gH]at h
 | [],_::_,[],_,h=>by simp[gH]at h
 | [],_::_,_::_,_,_=>by simp[gH]
 |_::_,[],_,h,_=>by simp[gH]at h
 |_::_,_::_,[],_,h=>by simp[gH]at h
 | a::xs,b::B,c::I,h1,d=>by
  simp only[gH]at h1 d⊢;by_cases g:a<b
  ·by_cases k : b < c
   ·rw [if_pos (ae9 g k)]
    omega
   ·by_cases u : c < b
    ·rw [if_neg k, if_pos u] at d
     omega
    ·have e : b = c := Q4 (wT.1 u) (wT.1 k)
     subst e;rw[if_pos g];omega
  ·by_cases v : b < a
   ·rw [if_neg g, if_pos v] at h1
    omega
   ·have e : a = b := Q4 (wT.1 v) (wT.1 g)
    subst e;rw[if_neg (Q5 a),if_neg (Q5 a)]at h1;by_cases q:a<c
    ·rw [if_pos q]
     omega
    ·by_cases y : c < a
     ·rw [if_neg q, if_pos y] at d
      omega
     ·rw [if_neg q, if_neg y] at d ⊢
      exact Pm h1 d
theorem acm{a b:ByteArray}(h:(a.toList==b.toList)=true):a=b:=by
 rw[wU,wU,beq_iff_eq]at h;exact ByteArray.ext (Array.toList_inj.1 h)
theorem p7{a b:ByteArray}:df a b=0↔a=b:=by
 have h:=F6 a b;constructor
 ·intro e
  rw[decide_eq_true (p:=df a b=0) e]at h;exact acm h
 ·rintro rfl
  have d:(a.toList==a.toList)=true:=by simp
  rw[d]at h;exact of_decide_eq_true h.symm
theorem acn{a b:Int}:eA a b=0↔a=b:=by
 unfold eA;constructor
 ·intro h
  split at h
  ·omega
  ·split at h<;>omega
 ·rintro rfl
  simp
theorem sM{a b:Int}:eA a b<0↔a<b:=by
 unfold eA;constructor
 ·intro h
  split at h
  ·assumption
  ·split at h<;>omega
 ·intro h
  rw[if_pos h];omega
theorem F_(a b:ByteArray):(a.toList==b.toList)=decide (a=b):=by
 rw[F6,oN,decide_eq_true_eq,decide_eq_true_eq];exact p7
structure p8 {α:Type} (c:α→α→Int):Prop where
 flip:∀ a b,c b a = - c a b
 eq:∀ a b,c a b=0→a=b
 tr:∀ a b d,c a b<0→c b d<0→c a d<0
theorem Ak:p8 eA:=⟨fun a b=>by unfold eA; split<;>split<;>first|omega|(split<;>omega)|skip,fun a b h=>acn.1 h,fun a b d h1 g=>sM.2 (Int.lt_trans (sM.1 h1) (sM.1 g))⟩
theorem Al:p8 df:=⟨fun a b=>Pl _ _,fun a b h=>p7.1 h,fun a b d h1 g=>Pm h1 g⟩
theorem p8.le{α:Type}{c:α→α→Int}(h:p8 c)(a b d:α)(h1:c a b≤0)(g:c b d≤0):c a d≤0:=by
 by_cases k:c a b=0
 ·rw [h.eq a b k]
  exact g
 ·by_cases q : c b d = 0
  ·rw [← h.eq b d q]
   exact h1
  ·have := h.tr a b d (by omega) (by omega)
   omega
theorem p8.refl{α:Type}{c:α→α→Int}(h:p8 c)(a:α):c a a=0:=by
 have:=h.flip a a;omega
def fy(a b:Int):Int:=if a≠0 then a else b
theorem F'{α:Type}{c:α→α→Int}(h:p8 c)(a b d:α)(x y z:Int)(h1:fy (c a b) x<0)(g:fy (c b d) y<0)(u:x<0→y<0→z<0):fy (c a d) z<0:=by
 unfold fy at *;by_cases q:c a b=0
 ·have e := h.eq a b q
  subst e;rw[if_neg (by simpa using q)]at h1;by_cases k:c a d=0
  ·rw [if_neg (by simpa using k)] at g ⊢
   exact u h1 g
  ·rw [if_pos k] at g ⊢
   exact g
 ·rw [if_pos q] at h1
  by_cases k:c b d=0
  ·have e := h.eq b d k
   subst e;rw[if_pos q];exact h1
  ·rw [if_pos k] at g
   have:=h.tr a b d (by omega) (by omega);rw[if_pos (by omega)];omega
theorem aco{c:List G→List G→Int}(g:∀ a b,c b a = - c a b)(k:∀ a b d,c a b≤0→c b d≤0→c a d≤0):eZ (bY c) (fun _=>True):=by
 have lt:∀ r s,bY c r s=decide (c r s<0):=fun r s=>by unfold bY; rw[dm]
 refine⟨fun a b d _ _ _ h1 q=>?_,fun a b _ _ h=>?_⟩
 ·rw [lt, decide_eq_false_iff_not] at *
  have:=k d b a (by have:=g d b; omega) (by have:=g b a; omega);have:=g a d;omega
 ·rw [lt, decide_eq_true_eq] at h
  rw[lt,decide_eq_false_iff_not];have:=g a b;omega
/-! ### d g h checked row by row -/
def fw(step:Nat→Int):Nat→Int
 |0=>0
 |i+1=>if fw step i≠0 then fw step i else step i
theorem Pn{step:Nat→Int}{i:Nat}(h:fw step i≠0):∀ k,fw step (i+k)=fw step i
 |0=>rfl
 | k+1=>by
  have d:=Pn h k;show (if fw step (i+k)≠0 then fw step (i+k) else step (i+k))=fw step i
  rw[d,if_pos h]
theorem acp{st:List G→Option (Option Nat × List G)}(mk:Nat→List G)(n:Nat)(step:Nat→Int)(d:List G)(y:n<999999)
  (u:∀ i,i<n→aa (st (mk i)) fun o=>(step i=0∧o=(none,mk (i+1)))∨(step i≠0∧o=(some 0,[.i (step i)])))
  (v:aa (st (mk n)) fun o=>o=(some 1,d)) :
  jN st (mk 0) fun c g=>(c=1∧fw step n=0∧g=d)∨(c=0∧g=[.i (fw step n)]∧fw step n≠0):=by
 refine((Dl (σ:=Unit) (fun _ i=>mk i) n (fun _=>(1,d)) (fun _ i=>fw step i=0) (fun c g=>c=0∧g=[.i (fw step n)]∧fw step n≠0) ?_ (fun _ _=>v) n () 0 (by omega) rfl).to (by omega)).mono ?_
 ·rintro _ i k hi
  refine(u i hi).mono ?_;rintro _ (⟨h0,rfl⟩|⟨h1,rfl⟩)
  ·refine .inl ⟨(), rfl, ?_⟩
   show (if fw step i≠0 then fw step i else step i)=0
   rw[if_neg (by simpa using k)];exact h0
  ·have e:fw step (i+1)=step i:=by
    show (if fw step i≠0 then fw step i else step i)=step i
    rw[if_neg (by simpa using k)]
   have q:fw step n=step i:=by
    have:=Pn (step:=step) (i:=i+1) (by rw[e]; exact h1) (n-(i+1));rw[show i+1+(n-(i+1))=n by omega,e]at this;exact this
   exact .inr ⟨0,_,rfl,rfl,by rw[q],by rw[q]; exact h1⟩
 ·rintro c g (⟨_, h, rfl, rfl⟩ | h)
  ·exact .inl ⟨rfl,h,rfl⟩
  ·exact .inr h
def gC(r:List G):Prop:=∃(t k m:Int) (c b:ByteArray),r=[.i t,.i k,.i m,.s c,.s b]∧small t∧small k∧small m∧c∈calls∧b∈kZ
theorem gC.eta{r:List G}(h:gC r):aH dH r=r:=by
 obtain⟨t,k,m,c,b,rfl,_⟩:=h;rfl
def sN(r s:List G):Int:=fy (eA (gi r 0).int (gi s 0).int) (fy (df (gi r 3).str (gi s 3).str) (fy (df (gi r 4).str (gi s 4).str) (fy (eA (gi r 2).int (gi s 2).int) (eA (gi r 1).int (gi s 1).int))))
theorem acq(a b c d e:Int):lG [.l [[.i a],[.i b],[.i c],[.i d],[.i e]]]=some [.i (fy a (fy b (fy c (fy d e))))]:=by
 refine aa.toEq ?_;unfold lG
 (dsimp +instances only[Aa,Ab,Ac,Ad,Ae,Af,Ag])
 have h:=F7 [[.i a],[.i b],[.i c],[.i d],[.i e]] [] (by simp);refine aa.loop (h.to (by simp)) (by(first|rfl|assumption|(simp only[ao,sl]<;>omega))) ?_;rintro x g ⟨B,rfl⟩;have q:lK [[.i a],[.i b],[.i c],[.i d],[.i e]]=fy a (fy b (fy c (fy d e))):=by
  simp only[lK,fy]
  (dsimp +instances only[Aa,Ab,Ac,Ad,Ae,Af,Ag])
  by_cases h1:a=0<;>by_cases k:b=0<;>by_cases u:c=0<;>by_cases v:d=0<;>by_cases y:e=0<;>simp[h1,k,u,v,y]
 rw[q]
 (dsimp +instances only[Aa,Ab,Ac,Ad,Ae,Af,Ag])
 exact aa.test (fun _=>aa.some rfl) fun _=>aa.some rfl
theorem acr(r s:List G):zU [.l [r],.l [s]]=some [.i (sN r s)]:=by
 refine aa.toEq ?_;unfold zU sN
 (dsimp +instances only[Aa,Ab,Ac,Ad,Ae,Af,Ag])
 refine aa.cE (v_ _ _) ?_;refine aa.cE (rfl:fM [.s (gi r 3).str,.s (gi s 3).str]=some [.i (df (gi r 3).str (gi s 3).str)]) ?_;refine aa.cE (rfl:fM [.s (gi r 4).str,.s (gi s 4).str]=some [.i (df (gi r 4).str (gi s 4).str)]) ?_;refine aa.cE (v_ _ _) ?_;refine aa.cE (v_ _ _) ?_
 (dsimp +instances only[Aa,Ab,Ac,Ad,Ae,Af,Ag])
 refine aa.cE (acq _ _ _ _ _) ?_;exact aa.some rfl
/-! ### h is d with g -/
def wa(x:List G):Int :=
 bif !cL (gi x 0).int 0 345686399999 then 1 else bif !cL (gi x 1).int 1 3 then 4 else bif !cL (gi x 2).int 1 3 then 4 else bif !ji (gi x 3).str then 3 else bif !lL (gi x 4).str then 5 else 0
def gD(rows:List (List G))(i:Nat):Int :=
 if wa (rows.getD i [])≠0 then wa (rows.getD i []) else if 0<i∧0≤sN (rows.getD (i-1) []) (rows.getD i []) then 7 else 0
def mR(rows:List (List G)):Int:=if 3000<rows.length then 2 else fw (gD rows) rows.length
theorem Po(t:Int):pU [.i t]=some [.t (cL t 0 345686399999)]:=by
 unfold pU
 (dsimp +instances only[Aa,Ab,Ac,Ad,Ae,Af,Ag])
 rw[ox];show some [G.t (!(!cL t 0 345686399999))]=_
 rw[ae_]
theorem acs(t:Int):rX [.i t]=some [.t (cL t 1 3)]:=by
 unfold rX
 (dsimp +instances only[Aa,Ab,Ac,Ad,Ae,Af,Ag])
 rw[ox];show some [G.t (!(!cL t 1 3))]=_
 rw[ae_]
theorem acu(rows:List (List G))(u:∀ z∈rows,gC z)(N:rows.length≤3000)(i:Nat)(hi:i<rows.length) :
  aa (vR [.l rows,.l rows,.i (rows.length:Int),.i (i:Int)]) fun o=>(gD rows i=0∧o=(none,[.l rows,.l rows,.i (rows.length:Int),.i ((i+1:Nat):Int)]))∨(gD rows i≠0∧o=(some 0,[.i (gD rows i)])):=by
 obtain⟨t,k,m,c,b,g,O,hk,hm,v,hb⟩:=u _ (pK hi);have hC:gC (rows.getD i []):=u _ (pK hi);have d:wa (rows.getD i [])=bif !cL t 0 345686399999 then 1 else bif !cL k 1 3 then 4 else bif !cL m 1 3 then 4 else bif !ji c then 3 else bif !lL b then 5 else 0:=by
  rw[g];rfl
 unfold vR
 (dsimp +instances only[Aa,Ab,Ac,Ad,Ae,Af,Ag])
 simp only[a_,hC.eta];have f0:(gi (rows.getD i []) 0).int=t:=by rw[g]; rfl
 have f1:(gi (rows.getD i []) 1).int=k:=by rw[g]; rfl
 have f2:(gi (rows.getD i []) 2).int=m:=by rw[g]; rfl
 have f3:(gi (rows.getD i []) 3).str=c:=by rw[g]; rfl
 have f4:(gi (rows.getD i []) 4).str=b:=by rw[g]; rfl
 simp only[f0,f1,f2,f3,f4];refine aa.p (aa.p ?_);refine aa.cE (Po t) ?_
 (dsimp +instances only[Aa,Ab,Ac,Ad,Ae,Af,Ag])
 refine aa.test (fun h=>?_) fun h0=>?_
 ·have e:gD rows i=1:=by
   unfold gD;rw[d,h];rfl
  rw[e];exact aa.some (.inr ⟨by omega,rfl⟩)
 rw[h0,cond_false]at d;refine aa.cE (ox k 1 3) ?_
 (dsimp +instances only[Aa,Ab,Ac,Ad,Ae,Af,Ag])
 refine aa.test (fun h=>?_) fun h1=>?_
 ·have e:gD rows i=4:=by
   unfold gD;rw[d,h];rfl
  rw[e];exact aa.some (.inr ⟨by omega,rfl⟩)
 rw[h1,cond_false]at d;refine aa.cE (acs m) ?_
 (dsimp +instances only[Aa,Ab,Ac,Ad,Ae,Af,Ag])
 refine aa.test (fun h=>?_) fun y=>?_
 ·have e:gD rows i=4:=by
   unfold gD;rw[d,h];rfl
  rw[e];exact aa.some (.inr ⟨by omega,rfl⟩)
 rw[y,cond_false]at d;refine aa.cE (Ah v) ?_
 (dsimp +instances only[Aa,Ab,Ac,Ad,Ae,Af,Ag])
 refine aa.test (fun h=>?_) fun B=>?_
 ·have e:gD rows i=3:=by
   unfold gD;rw[d,h];rfl
  rw[e];exact aa.some (.inr ⟨by omega,rfl⟩)
 rw[B,cond_false]at d;refine aa.cE (Pe (.inl hb)) ?_
 (dsimp +instances only[Aa,Ab,Ac,Ad,Ae,Af,Ag])
 refine aa.test (fun h=>?_) fun I=>?_
 ·have e:gD rows i=5:=by
   unfold gD;rw[d,h];rfl
  rw[e];exact aa.some (.inr ⟨by omega,rfl⟩)
 rw[I,cond_false]at d;have e:gD rows i=if 0<i∧0≤sN (rows.getD (i-1) []) (rows.getD i []) then 7 else 0:=by
  unfold gD;rw[d,if_neg (by simp)]
 refine aa.test (fun h=>?_) fun h=>?_
 ·simp only [dm, decide_eq_true_eq] at h
  have J:((i:Int)-1).toNat=i-1:=by omega
  have M:gC (rows.getD (i-1) []):=u _ (pK (by omega));simp only[J,M.eta];refine aa.p (aa.p ?_);refine aa.cE (acr _ _) ?_
  (dsimp +instances only[Aa,Ab,Ac,Ad,Ae,Af,Ag])
  refine aa.test (fun q=>?_) fun q=>?_
  ·simp only [eu, decide_eq_true_eq] at q
   rw[if_pos ⟨by omega,q⟩]at e;rw[e];exact aa.some (.inr ⟨by omega,rfl⟩)
  ·simp only [eu, decide_eq_false_iff_not] at q
   rw[if_neg (fun h'=>q h'.2)]at e;refine aa.p (aa.some (.inl ⟨e,rfl⟩))
 ·simp only [dm, decide_eq_false_iff_not] at h
  rw[if_neg (by omega)]at e;refine aa.p (aa.some (.inl ⟨e,rfl⟩))
theorem acv(rows:List (List G))(g:∀ z∈rows,gC z):zV [.l rows]=some [.i (mR rows)]:=by
 refine aa.toEq ?_;unfold zV mR
 (dsimp +instances only[Aa,Ab,Ac,Ad,Ae,Af,Ag])
 by_cases d:3000<rows.length
 ·refine aa.p ?_
  rw[if_pos d];exact aa.some rfl
 ·refine aa.n ?_
  rw[if_neg d];refine aa.loop (acp (fun i=>[.l rows,.l rows,.i (rows.length:Int),.i (i:Int)]) rows.length (gD rows) [] (by omega) (acu rows g (by omega)) ?_) rfl ?_
  ·unfold vR
   (dsimp +instances only[Aa,Ab,Ac,Ad,Ae,Af,Ag])
   (repeat first|refine aa.p ?_|refine aa.n ?_)
   exact aa.some rfl
  ·rintro _ _ (⟨rfl, h, rfl⟩ | ⟨rfl, rfl, _⟩)
   ·rw [h]
    exact aa.some rfl
   ·exact aa.some rfl
/-! ### d -/
/-! ### d g h -/
theorem gC.call{r:List G}(h:gC r):(gi r 3).str∈calls:=by
 obtain⟨t,k,m,c,b,rfl,_,_,_,d,_⟩:=h;exact d
def dP(y:List G):List G:=[.s (Ai (gi y 3).str),.s (gi y 4).str,.i (gi y 2).int]
theorem Pp{c:List G}(d:gC c):vT [.l [c]]=some [.l [dP c]]:=by
 refine aa.toEq ?_;unfold vT
 (dsimp +instances only[Aa,Ab,Ac,Ad,Ae,Af,Ag])
 refine aa.cE (Pk d.call) ?_;exact aa.some rfl
def iO(at_:Int)(out:List (List G))(x:List G):Bool:=be (gi x 0).int at_&&((gi x 1).int==2 && !(out.any fun o=>aR K3 (dP x) (dP o)))
def cR(at_:Int)(l:List (List G)):Nat→List (List G)
 |0=>[]
 |i+1=>cR at_ l i++bif iO at_ (cR at_ l i) (l.getD i []) then [l.getD i []] else []
theorem wb(at_:Int)(l:List (List G)):∀ i,(cR at_ l i).length≤i
 |0=>aB _
 | i+1=>by
  have:=wb at_ l i;simp only[cR,fb];cases iO at_ (cR at_ l i) (l.getD i [])<;>simp<;>omega
theorem Pq(at_:Int)(l:List (List G)):∀ i,i≤l.length→∀ r∈cR at_ l i,r∈l
 |0,_,r,h=>by cases h
 | i+1,hi,r,h=>by
  simp only[cR]at h;rcases cS.1 h with h|h
  ·exact Pq at_ l i (by omega) r h
  ·cases hb : iO at_ (cR at_ l i) (l.getD i []) with
   |true=>rw[hb]at h; simp at h; rw[h]; exact pK (by omega)
   |false=>rw[hb]at h; simp at h
theorem Pr(l:List (List G))(at_:Int)(hC:∀ z∈l,gC z)(O:l.length<90000):vV [.l l,.i at_]=some [.l (cR at_ l l.length)]:=by
 refine aa.toEq ?_;unfold vV
 (dsimp +instances only[Aa,Ab,Ac,Ad,Ae,Af,Ag])
 have r:=za (st:=vU) (σ:=List (List G) × Nat × List (List G)) (fun s i=>[.l s.1,.i (s.2.1:Int),.l s.2.2,.i at_,.l l,.i (l.length:Int),.i (i:Int)]) l (fun s=>(0,[.l s.2.2]))
  (fun s i=>(∀ key,(gi (aw K3 s.1 key [.t false]) 0).bool=(cR at_ l i).any fun y=>aR K3 key (dP y))∧s.2.2=cR at_ l i) ([],0,[]) (by omega) ⟨fun key=>by simp[Dn,cR]; rfl,rfl⟩
  (fun s i x J hi h hm U => by
   obtain⟨I,q⟩:=J;have M:=hC x hm;have N:=wb at_ l i;rw[←q]at N;have hk:(gi (aw K3 s.1 (dP x) [.t false]) 0).bool=(s.2.2).any fun o=>aR K3 (dP x) (dP o):=by
    rw[I,←q]
   have V:aH K3 (dP x)=dP x:=rfl;unfold vU
   (dsimp +instances only[Aa,Ab,Ac,Ad,Ae,Af,Ag])
   simp only[a_,h,M.eta];refine aa.p (aa.p ?_);refine aa.cE (Pp M) ?_
   (dsimp +instances only[Aa,Ab,Ac,Ad,Ae,Af,Ag])
   have no:iO at_ (cR at_ l i) (l.getD i [])=false→(∀ key,(gi (aw K3 s.1 key [.t false]) 0).bool=(cR at_ l (i+1)).any fun y=>aR K3 key (dP y))∧s.2.2=cR at_ l (i+1):=fun hb=>by
    simp only[cR,hb,cond_false,cO];exact⟨I,q⟩
   refine aa.test (fun h1=>?_) fun h1=>?_
   ·refine aa.test (fun u => ?_) fun u => ?_
    ·refine aa.test (fun d => ?_) fun d => ?_
     ·have v:(gi (aw K3 s.1 (dP x) [.t false]) 0).bool=false:=by
       have d:=d;rw[Bool.not_eq_true']at d;exact d
      have hb:iO at_ (cR at_ l i) (l.getD i [])=true:=by
       unfold iO;rw[h,h1,u,←q,←hk,v];rfl
      have B:=hb;rw[h]at B
      (repeat first|refine aa.p ?_|refine aa.n ?_)
      refine aa.some ⟨(aI K3 s.1 (dP x) [.t true] s.2.1,bl K3 s.1 (dP x) s.2.1,s.2.2++[x]),rfl,fun key=>?_,by simp only[cR,h,B,q,cond_true]⟩;rw[vj];simp only[cR,h,B,cond_true,AY,←I key];cases hk:aR K3 key (dP x)<;>simp[hk,Aa,Ag]
     ·have v:(gi (aw K3 s.1 (dP x) [.t false]) 0).bool=true:=by
       have d:=d;rw[Bool.not_eq_false']at d;exact d
      have hb:iO at_ (cR at_ l i) (l.getD i [])=false:=by
       unfold iO;rw[h,h1,u,←q,←hk,v];rfl
      (repeat first|refine aa.p ?_|refine aa.n ?_)
      exact aa.some ⟨s,rfl,no hb⟩
    ·have hb:iO at_ (cR at_ l i) (l.getD i [])=false:=by
      unfold iO;rw[h,h1,u];rfl
     (repeat first|refine aa.p ?_|refine aa.n ?_)
     exact aa.some ⟨s,rfl,no hb⟩
   ·have hb:iO at_ (cR at_ l i) (l.getD i [])=false:=by
     unfold iO;rw[h,h1];rfl
    (repeat first|refine aa.p ?_|refine aa.n ?_)
    exact aa.some ⟨s,rfl,no hb⟩)
  (fun s J => by
   unfold vU
   (dsimp +instances only[Aa,Ab,Ac,Ad,Ae,Af,Ag])
   (repeat first|refine aa.p ?_|refine aa.n ?_)
   exact aa.some rfl)
 refine aa.loop r rfl ?_;rintro c g ⟨⟨m,k,out⟩,⟨_,rfl⟩,rfl,rfl⟩
 (dsimp +instances only[Aa,Ab,Ac,Ad,Ae,Af,Ag])
 (repeat first|refine aa.p ?_|refine aa.n ?_)
 exact aa.some rfl
/-! ### d of two kinds: g h last -/
section
variable {α:Type} (S R:α→Bool)
end
theorem gC.afz{r:List G}(h:gC r):(gi r 4).str∈kZ:=by
 obtain⟨t,k,m,c,b,rfl,_,_,_,_,hb⟩:=h;exact hb
/-! ### d by name -/
theorem Ps(l:List (List G))(at_:Int)(hC:∀ z∈l,gC z):vS [.l l,.i at_]=some [.i (bif mR l != 0 then mR l else bif !cL at_ 0 345686399999 then 1 else 0)]:=by
 refine aa.toEq ?_;unfold vS
 (dsimp +instances only[Aa,Ab,Ac,Ad,Ae,Af,Ag])
 refine aa.cE (acv l hC) ?_
 (dsimp +instances only[Aa,Ab,Ac,Ad,Ae,Af,Ag])
 refine aa.test (fun h=>?_) fun h=>?_
 ·rw [h]
  exact aa.some rfl
 ·rw [h]
  refine aa.cE (Po at_) ?_
  (dsimp +instances only[Aa,Ab,Ac,Ad,Ae,Af,Ag])
  cases cL at_ 0 345686399999<;>exact aa.some rfl
/-! ### d law -/
def lM(at_:Int)(l:List (List G)):List (List G):=cR at_ l l.length
theorem acw(l:List (List G))(at_:Int)(hC:∀ z∈l,gC z)(d:l.length≤3000)(e:Int)(he:(bif mR l != 0 then mR l else bif !cL at_ 0 345686399999 then 1 else 0)=e) :
  zW [.l l,.i at_]=some (bif e != 0 then [.l [],.i e] else [.l (lM at_ l),.i 0]):=by
 refine aa.toEq ?_;unfold zW
 (dsimp +instances only[Aa,Ab,Ac,Ad,Ae,Af,Ag])
 refine aa.cE (Ps l at_ hC) ?_
 (dsimp +instances only[Aa,Ab,Ac,Ad,Ae,Af,Ag])
 rw[he];refine aa.test (fun h=>?_) fun h=>?_
 ·rw [h]
  exact aa.some rfl
 ·rw [h]
  refine aa.cE (Pr l at_ hC (by omega)) ?_;exact aa.some rfl
theorem Pt{step:Nat→Int}:∀{n:Nat},(∀ i,i<n→step i=0)→fw step n=0
 |0,_=>rfl
 | n+1,h=>by
  show (if fw step n≠0 then fw step n else step n)=0
  rw[Pt fun i hi=>h i (by omega)];simpa using h n (by omega)
/-! ### d g h right lN -/
/-! ### Aj parts of a list -/
/-! ### g is d stays h -/
/-! ### h is k d is g -/
def kh(a k:List G):List G:=(gi ((sJ [.l [a],.l [k]]).getD []) 0).row
structure p9 where
 m:List (List G)
 k:Nat
 since:Int
def fY(a:List G)(s:p9)(x:List G):p9 :=
 ⟨aI K3 s.m (kh a (dP x)) [.t true] s.k,bl K3 s.m (kh a (dP x)) s.k,if (gi a 3).int≤((aI K3 s.m (kh a (dP x)) [.t true] s.k).length:Int)∧s.since<0 then (gi x 0).int else s.since⟩
def ki(a:List G)(s:p9)(l:List (List G)):p9:=l.foldl (fY a) s
def jP:p9:=⟨[],0,-1⟩
theorem Ga(key v:List G)(c:Nat):∀ rows:List (List G),(aI K3 rows key v c).length≤rows.length+1
 | []=>by rw[Dp]; simp
 | r::rs=>by
  rw[Dq];have:=Ga key v c rs;cases aR K3 key (gi r 0).row<;>simp<;>omega
theorem Gb(a:List G):∀(l:List (List G)) (s:p9),(ki a s l).m.length≤s.m.length+l.length
 | [],s=>by simp[ki]
 | x::l,s=>by
  have h1:=Gb a l (fY a s x);have g:=Ga (kh a (dP x)) [.t true] s.k s.m;have d:(fY a s x).m=aI K3 s.m (kh a (dP x)) [.t true] s.k:=rfl;rw[d]at h1;show (ki a (fY a s x) l).m.length≤_
  simp only[cw];omega
/-! ### d is written of it -/
def we:ByteArray:=⟨#[47]⟩
def Pu:List ByteArray:=[⟨#[97]⟩,⟨#[97,97]⟩,⟨#[97,98]⟩,⟨#[97,99]⟩,⟨#[]⟩,⟨#[122]⟩]
def Pv:List ByteArray:=[⟨#[]⟩,⟨#[98,50,48]⟩,⟨#[66]⟩]
def sO(r:List G):Prop:=∃(k b:ByteArray) (c n:Int),r=[.s k,.s b,.i c,.i n]∧k∈Pu∧b∈Pv∧small c∧small n
theorem sO.eta{r:List G}(h:sO r):aH [.str,.str,.int .i64,.int .i64] r=r:=by
 obtain⟨k,b,c,n,rfl,_⟩:=h;rfl
/-! ### d stream -/
/-! ### h is g with d -/
/-! ### g h d counts -/
theorem acx{a:List G}(ha:sO a)(x:List G):sJ [.l [a],.l [dP x]]=some [.l [kh a (dP x)]]∧aH K3 (kh a (dP x))=kh a (dP x):=by
 obtain⟨d,b,c,n,rfl,_⟩:=ha;have key:aa (sJ [.l [[.s d,.s b,.i c,.i n]],.l [dP x]]) fun g=>∃ k,g=[.l [k]]∧aH K3 k=k:=by
  unfold sJ
  (dsimp +instances only[Aa,Ab,Ac,Ad,Ae,Af,Ag])
  refine aa.test (fun _=>aa.test (fun _=>aa.some ⟨_,rfl,rfl⟩) fun _=>aa.test (fun _=>aa.some ⟨_,rfl,rfl⟩) fun _=>aa.some ⟨_,rfl,rfl⟩) fun _=>?_;refine aa.test (fun _=>aa.test (fun _=>aa.some ⟨_,rfl,rfl⟩) fun _=>aa.test (fun _=>aa.some ⟨_,rfl,rfl⟩) fun _=>aa.some ⟨_,rfl,rfl⟩) fun _=>?_;exact aa.test (fun _=>aa.some ⟨_,rfl,rfl⟩) fun _=>aa.test (fun _=>aa.some ⟨_,rfl,rfl⟩) fun _=>aa.some ⟨_,rfl,rfl⟩
 obtain⟨g,h,k,rfl,hk⟩:=key;have e:kh [.s d,.s b,.i c,.i n] (dP x)=k:=by
  unfold kh;rw[h];rfl
 rw[e];exact⟨h,hk⟩
def ir(a x:List G):Bool:=((gi a 1).str.toList==(⟨#[]⟩:ByteArray).toList)||((gi x 4).str.toList==(gi a 1).str.toList)
theorem acy{a:List G}(ha:sO a)(l:List (List G))(hC:∀ z∈l,gC z)(hn:l.length<90000) :
  z6 [.l [a],.l l]=some [.i ((ki a jP (l.filter (ir a))).m.length:Int),.i (ki a jP (l.filter (ir a))).since]:=by
 refine aa.toEq ?_;obtain⟨d,b,c,n,q,hk⟩:=ha;have ha:sO a:=⟨d,b,c,n,q,hk⟩
 have e0:(gi a 0).str=d:=by rw[q]; rfl
 have V:(gi a 1).str=b:=by rw[q]; rfl
 have e2:(gi a 2).int=c:=by rw[q]; rfl
 have I:(gi a 3).int=n:=by rw[q]; rfl
 unfold z6
 (dsimp +instances only[Aa,Ab,Ac,Ad,Ae,Af,Ag])
 simp only[e0,V,e2,I];have r:=za (st:=vY) (σ:=p9) (fun s i=>[.s d,.s b,.i c,.i n,.l s.m,.i (s.k:Int),.i s.since,.l l,.i (l.length:Int),.i (i:Int)]) l (fun s=>(0,[.l s.m,.i (s.k:Int),.i s.since]))
  (fun s i=>s=ki a jP ((l.take i).filter (ir a))) jP (by omega) rfl
  (fun s i x u hi hx hm W => by
   have hc:=hC x hm;obtain⟨t,k,m,cl,v,ex,_⟩:=hC x hm;have f0:(gi x 0).int=t:=by rw[ex]; rfl
   have f1:(gi x 1).int=k:=by rw[ex]; rfl
   have f2:(gi x 2).int=m:=by rw[ex]; rfl
   have f3:(gi x 3).str=cl:=by rw[ex]; rfl
   have f4:(gi x 4).str=v:=by rw[ex]; rfl
   have N:ir a x=((b.toList==(⟨#[]⟩:ByteArray).toList)||(v.toList==b.toList)):=by
    unfold ir;rw[V,f4]
   have hlen:s.m.length≤l.length:=by
    have:=Gb a ((l.take i).filter (ir a)) jP;rw[←u]at this;have h0:jP.m.length=0:=rfl;have h1:=Q6 (ir a) (l.take i);simp only[List.length_take]at h1;omega
   have skip:ir a x=false→ki a jP ((l.take (i+1)).filter (ir a))=s:=fun h=>by
    rw[W,Q7,u];simp[h]
   have take:ir a x=true→ki a jP ((l.take (i+1)).filter (ir a))=fY a s x:=fun h=>by
    rw[W,Q7,u];simp only[AU,h,if_true,Hu];unfold ki;rw[Q8];rfl
   obtain⟨hk1,hk2⟩:=acx ha x;have hl2:=Ga (kh a (dP x)) [.t true] s.k s.m;have tail:aa (vX [.s d,.s b,.i c,.i n,.l s.m,.i (s.k:Int),.i t,.i k,.i m,.s cl,.s v,.i s.since,.l l,.i (l.length:Int),.i (i:Int)]) fun o=>∃ g,o=(some 0,g)∧g=[.s d,.s b,.i c,.i n,.l (fY a s x).m,.i ((fY a s x).k:Int),.i (fY a s x).since,.l l,.i (l.length:Int),.i (i:Int)]:=by
    unfold vX
    (dsimp +instances only[Aa,Ab,Ac,Ad,Ae,Af,Ag])
    rw[←ex];refine aa.cE (Pp hc) ?_
    (dsimp +instances only[Aa,Ab,Ac,Ad,Ae,Af,Ag])
    refine aa.call (P:=fun g=>g=[.l [kh a (dP x)]]) (aa.eq (by subst q; exact hk1)) ?_;rintro _ rfl
    (dsimp +instances only[Aa,Ab,Ac,Ad,Ae,Af,Ag])
    simp only[hk2,a_];refine aa.test (fun h1=>?_) fun h1=>?_
    ·rw [eu, decide_eq_true_eq] at h1
     refine aa.test (fun y=>?_) fun y=>?_
     ·rw [dm, decide_eq_true_eq] at y
      refine aa.some ⟨_,rfl,?_⟩;unfold fY;rw[I,if_pos ⟨h1,y⟩,f0]
     ·rw [dm, decide_eq_false_iff_not] at y
      refine aa.some ⟨_,rfl,?_⟩;unfold fY;rw[I,if_neg (fun h=>y h.2)]
    ·rw [eu, decide_eq_false_iff_not] at h1
     refine aa.some ⟨_,rfl,?_⟩;unfold fY;rw[I,if_neg (fun h=>h1 h.1)]
   unfold vY
   (dsimp +instances only[Aa,Ab,Ac,Ad,Ae,Af,Ag])
   simp only[a_,hx,f0,f1,f2,f3,f4];refine aa.p (aa.p (aa.test (fun J=>?_) fun J=>?_))
   ·have B : (b.toList == (⟨#[]⟩ : ByteArray).toList) = false := by simpa using J
    refine aa.test (fun hb=>?_) fun hb=>?_
    ·have M : (v.toList == b.toList) = false := by simpa using hb
     refine aa.p (aa.some ⟨s,rfl,(skip ?_).symm⟩);rw[N,B,M];rfl
    ·have M : (v.toList == b.toList) = true := by simpa using hb
     refine aa.tail (P:=fun O g=>O=0∧g=[.s d,.s b,.i c,.i n,.l (fY a s x).m,.i ((fY a s x).k:Int),.i (fY a s x).since,.l l,.i (l.length:Int),.i (i:Int)]) ?_ rfl ?_
     ·refine tail.mono ?_
      rintro _ ⟨g,rfl,U⟩;exact⟨0,rfl,rfl,U⟩
     ·rintro _ _ ⟨rfl, rfl⟩
      (dsimp +instances only[Aa,Ab,Ac,Ad,Ae,Af,Ag])
      refine aa.p (aa.some ⟨fY a s x,rfl,(take ?_).symm⟩);rw[N,B,M];rfl
   ·have B : (b.toList == (⟨#[]⟩ : ByteArray).toList) = true := by simpa using J
    refine aa.tail (P:=fun O g=>O=0∧g=[.s d,.s b,.i c,.i n,.l (fY a s x).m,.i ((fY a s x).k:Int),.i (fY a s x).since,.l l,.i (l.length:Int),.i (i:Int)]) ?_ rfl ?_
    ·refine tail.mono ?_
     rintro _ ⟨g,rfl,U⟩;exact⟨0,rfl,rfl,U⟩
    ·rintro _ _ ⟨rfl, rfl⟩
     (dsimp +instances only[Aa,Ab,Ac,Ad,Ae,Af,Ag])
     refine aa.p (aa.some ⟨fY a s x,rfl,(take ?_).symm⟩);rw[N,B];rfl)
  (fun s hI => by
   unfold vY
   (dsimp +instances only[Aa,Ab,Ac,Ad,Ae,Af,Ag])
   exact aa.n (aa.some rfl))
 refine aa.loop r rfl ?_;rintro _ _ ⟨s,u,rfl,rfl⟩;rw[List.take_length]at u;refine aa.some ?_;rw[u];rfl
/-! ### d same in g reference -/
/-! ### d count g same -/
def Pw(a:List G)(at_:Int)(x:List (List G)):Nat:=(ki a jP ((lM at_ x).filter (ir a))).m.length
/-! ### h k g q d -/
theorem acz(a:List G)(at_:Int)(x:List (List G)):Pw a at_ x≤x.length:=by
 have h1:=Gb a ((lM at_ x).filter (ir a)) jP;have d:=Q6 (ir a) (lM at_ x);have g:(lM at_ x).length≤x.length:=wb at_ x x.length;have h:jP.m.length=0:=rfl;unfold Pw;omega
theorem acA:we.size=1:=rfl
/-! ### d when -/
structure eB (F:Nat→Nat→Int) (n m:Nat) (ok:Nat→Nat→Bool) (w:Nat→Nat→Int):Prop where
 mS:∀ i k,n≤i∨m≤k→F i k=0
 step:∀ i k,i<n→k<m→F i k=if ok i k=true then max (max (F (i+1) k) (F i (k+1))) (w i k+F (i+1) (k+1)) else max (F (i+1) k) (F i (k+1))
structure Fair (n m:Nat) (ok:Nat→Nat→Bool) (w:Nat→Nat→Int):Prop where
 pos:∀ i k,i<n→k<m→ok i k=true→0<w i k
 acB:∀ i p k q,i<p→p<n→k<q→q<m→ok i q=true→ok p k=true→ok i k=true∧ok p q=true∧w i q+w p k≤w i k+w p q
section
variable {F:Nat→Nat→Int} {n m:Nat} {ok:Nat→Nat→Bool} {w:Nat→Nat→Int}
theorem eB.flip(h:eB F n m ok w):eB (fun k i=>F i k) m n (fun k i=>ok i k) (fun k i=>w i k):=by
 refine⟨fun k i hk=>h.mS i k hk.symm,fun k i hk hi=>?_⟩;have:=h.step i k hi hk;rw[this];split<;>omega
theorem Fair.flip(h:Fair n m ok w):Fair m n (fun k i=>ok i k) (fun k i=>w i k):=by
 refine⟨fun k i hk hi ho=>h.pos i k hi hk ho,fun k q i p d u g v h1 y=>?_⟩;obtain⟨a,b,c⟩:=h.acB i p k q g v d u y h1;exact⟨a,b,by omega⟩
theorem eB.down(h:eB F n m ok w)(i k:Nat):F (i+1) k≤F i k:=by
 by_cases he:n≤i∨m≤k
 ·rw [h.mS i k he, h.mS (i + 1) k (by omega)]
  exact tu _
 ·rw [h.step i k (by omega) (by omega)]
  split<;>omega
theorem eB.right(h:eB F n m ok w)(i k:Nat):F i (k+1)≤F i k:=h.flip.down k i
theorem eB.Gc(h:eB F n m ok w)(i k:Nat):∀ d,F (i+d) k≤F i k
 |0=>tu _
 |d+1=>Hv (h.down (i+d) k) (h.Gc i k d)
theorem eB.mono(h:eB F n m ok w){i p k q:Nat}(h1:i≤p)(g:k≤q):F p q≤F i k:=by
 obtain⟨d,rfl⟩:=ae' h1;obtain⟨e,rfl⟩:=ae' g;exact Hv (h.Gc i (k+e) d) (h.flip.Gc k i e)
theorem eB.take(h:eB F n m ok w){i p k q:Nat}(h1:i≤p)(d:k≤q)(g:p<n)(u:q<m)(ho:ok p q=true):w p q+F (p+1) (q+1)≤F i k:=by
 refine Hv ?_ (h.mono h1 d);rw[h.step p q g u,if_pos ho];omega
theorem eB.Gd(h:eB F n m ok w)(i k:Nat):0≤F i k:=by
 have h1:=h.mono (i:=i) (p:=i+n) (k:=k) (q:=k) (by omega) (aB _);rw[h.mS (i+n) k (.inl (by omega))]at h1;exact h1
theorem eB.row(h:eB F n m ok w){i:Nat}(hi:i<n):∀(s k:Nat),m-k≤s→F i k=F (i+1) k∨∃ q,k≤q∧q<m∧ok i q=true∧F i k=w i q+F (i+1) (q+1)
 | s,k,v=>by
  by_cases hk:k<m
  ·cases s with
   |zero=>omega
   | succ s =>
    have h0:=h.step i k hi hk;have h1:=h.down i k;have y:=h.right (i+1) k;by_cases ho:ok i k=true
    ·rw [if_pos ho] at h0
     by_cases e:F i k=w i k+F (i+1) (k+1)
     ·exact .inr ⟨k,aB _,hk,ho,e⟩
     ·by_cases d : F i k = F (i + 1) k
      ·exact .inl d
      ·have u : F i k = F i (k + 1) := by omega
       rcases h.row hi s (k+1) (by omega)with g|⟨q,g1,g2,g3,g4⟩
       ·exact .inl (by omega)
       ·exact .inr ⟨q,by omega,g2,g3,by omega⟩
    ·rw [if_neg ho] at h0
     by_cases d:F i k=F (i+1) k
     ·exact .inl d
     ·have u : F i k = F i (k + 1) := by omega
      rcases h.row hi s (k+1) (by omega)with g|⟨q,g1,g2,g3,g4⟩
      ·exact .inl (by omega)
      ·exact .inr ⟨q,by omega,g2,g3,by omega⟩
  ·exact .inl (by rw[h.mS i k (.inr (by omega)),h.mS (i+1) k (.inr (by omega))])
def jk(P:Nat→Bool):Nat→Nat→Option Nat
 |_,0=>none
 |q,t+1=>bif P q then some q else jk P (q+1) t
theorem Ge{P:Nat→Bool}:∀{t q x:Nat},jk P q t=some x→q≤x∧x<q+t∧P x=true∧∀ y,q≤y→y<x→P y=false
 |0,_,_,h=>by cases h
 | t+1,q,x,h=>by
  unfold jk at h;cases g:P q with
  | true =>
   rw[g]at h;cases h;exact⟨aB _,by omega,g,fun y h1 k=>by omega⟩
  | false =>
   rw[g]at h;obtain⟨a,b,c,d⟩:=Ge (t:=t) h;exact⟨by omega,by omega,c,fun y h1 k=>by
    by_cases e:y=q
    ·subst e; exact g
    ·exact d y (by omega) k⟩
def gP(F:Nat→Nat→Int)(ok:Nat→Nat→Bool)(w:Nat→Nat→Int)(v:Int)(i q:Nat):Bool:=ok i q&&(w i q+F (i+1) (q+1)==v)
theorem Px{v:Int}{i q:Nat}:gP F ok w v i q=true↔ok i q=true∧w i q+F (i+1) (q+1)=v:=by
 unfold gP;rw[ax,beq_iff_eq]
def gQ(F:Nat→Nat→Int)(m:Nat)(ok:Nat→Nat→Bool)(w:Nat→Nat→Int):Nat→Nat→Nat→List (Nat × Nat)
 |0,_,_=>[]
 | t+1,i,f=>match jk (gP F ok w (F i f) i) f (m-f) with
  |some q=>(i,q)::gQ F m ok w t (i+1) (q+1)
  |none=>gQ F m ok w t (i+1) f
theorem Gf{t i f q:Nat} (h:jk (gP F ok w (F i f) i) f (m-f)=some q):gQ F m ok w (t+1) i f=(i,q)::gQ F m ok w t (i+1) (q+1):=by
 rw[gQ,h]
theorem Gg{t i f:Nat} (h:jk (gP F ok w (F i f) i) f (m-f)=none):gQ F m ok w (t+1) i f=gQ F m ok w t (i+1) f:=by
 rw[gQ,h]
theorem Am:∀(t i f:Nat),∀ x∈gQ F m ok w t i f,i≤x.1∧x.1<i+t∧f≤x.2∧x.2<m∧ok x.1 x.2=true
 |0,_,_,x,h=>by cases h
 | t+1,i,f,x,h=>by
  cases g:jk (gP F ok w (F i f) i) f (m-f)with
  | none =>
   rw[Gg g]at h;obtain⟨a,b,c,d,e⟩:=Am t (i+1) f x h;exact⟨by omega,by omega,c,d,e⟩
  | some q =>
   rw[Gf g]at h;obtain⟨k,v,u,_⟩:=Ge g;rcases bW.1 h with rfl|h
   ·exact⟨aB _,by simp,k,by simp; omega,(Px.1 u).1⟩
   ·obtain ⟨a, b, c, d, e⟩ := Am t (i + 1) (q + 1) x h
    exact⟨by omega,by omega,by omega,d,e⟩
theorem Gh:∀(t i f:Nat),(gQ F m ok w t i f).Pairwise fun x y=>x.1<y.1∧x.2<y.2
 |0,_,_=>.nil
 | t+1,i,f=>by
  cases d:jk (gP F ok w (F i f) i) f (m-f)with
  |none=>rw[Gg d]; exact Gh t (i+1) f
  | some q =>
   rw[Gf d];refine .cons (fun y g=>?_) (Gh t (i+1) (q+1));obtain⟨a,_,c,_,_⟩:=Am t (i+1) (q+1) y g;exact⟨by simp; omega,by simp; omega⟩
end
/-! ### g d, as a function -/
def mT(n m:Nat)(ok:Nat→Nat→Bool)(w:Nat→Nat→Int)(i k:Nat):Int :=
 if h:i<n∧k<m then
  if ok i k=true then max (max (mT n m ok w (i+1) k) (mT n m ok w i (k+1))) (w i k+mT n m ok w (i+1) (k+1)) else max (mT n m ok w (i+1) k) (mT n m ok w i (k+1))
 else 0
termination_by (n-i)+(m-k)
theorem acC(n m:Nat)(ok:Nat→Nat→Bool)(w:Nat→Nat→Int):eB (mT n m ok w) n m ok w :=
 ⟨fun i k h => by rw [mT, dif_neg (by omega)], fun i k hi hk => by
  conv=>lhs; rw[mT]
  rw[dif_pos ⟨hi,hk⟩]⟩
theorem eB.le{F:Nat→Nat→Int}{n m:Nat}{ok:Nat→Nat→Bool}{w:Nat→Nat→Int}(h:eB F n m ok w){W:Int}(d:0≤W)(hw:∀ i k,w i k≤W):∀(t i k:Nat),n-i=t→F i k≤W*(t:Int)
 |0,i,k,u=>by rw[h.mS i k (.inl (by omega))]; simp
 | t+1,i,k,u=>by
  have e:W*((t+1:Nat):Int)=W*(t:Int)+W:=by rw[Int.natCast_succ,Int.mul_add,Int.mul_one]
  rw[e];rcases h.row (i:=i) (by omega) (m-k) k (aB _)with g|⟨q,_,_,_,g⟩
  ·have := h.le d hw t (i + 1) k (by omega)
   omega
  ·have := h.le d hw t (i + 1) (q + 1) (by omega)
   have:=hw i q;omega
/-! ### d -/
def iu(r:List G):Int:=(gi r 0).int
def p_(r:List G):Int:=(gi r 1).int
def a8(r:List G):ByteArray:=(gi r 2).str
def Gi(r:List G):ByteArray:=(gi r 3).str
def fN(r:List G):Prop:=aH [.int .i64,.int .i64,.str,.str,.int .i64,.int .i64,.str,.str] r=r ∧ -1000000000000≤iu r∧iu r≤1000000000000
def mU(p q:List G):Int:=if iu q-iu p>iu p-iu q then iu q-iu p else iu p-iu q
def sP(off:Int)(p q:List G):Bool:=((a8 p).toList==(a8 q).toList)&&((p_ p==p_ q)&&be (mU p q) off)
theorem An{p q:List G}(d:fN p)(g:fN q):0≤mU p q∧mU p q≤2000000000000:=by
 obtain⟨_,h1,h⟩:=d;obtain⟨_,k,u⟩:=g;unfold mU;split<;>omega
theorem Gj{p q:List G}(d:fN p)(g:fN q):sn [.l [p],.l [q]]=some [.i (mU p q)]:=by
 obtain⟨_,h1,h⟩:=d;obtain⟨_,k,u⟩:=g;unfold iu at h1 h k u;refine aa.toEq ?_;unfold sn mU iu
 (dsimp +instances only[Aa,Ab,Ac,Ad,Ae,Af,Ag])
 exact aa.pos (kP.2 ⟨by omega,by omega⟩) (aa.pos (kP.2 ⟨by omega,by omega⟩) (aa.some rfl))
theorem Gk(off:Int){p q:List G}(d:fN p)(g:fN q):sq [.l [p],.l [q],.i off]=some [.t (sP off p q)]:=by
 refine aa.toEq ?_;unfold sq sP
 (dsimp +instances only[Aa,Ab,Ac,Ad,Ae,Af,Ag])
 refine aa.test (fun h=>?_) fun h=>?_
 ·have h : ((a8 p).toList == (a8 q).toList) = true := h
  rw[h];refine aa.test (fun h=>?_) fun h=>?_
  ·have h : (p_ p == p_ q) = true := h
   rw[h,d.1,g.1];refine aa.cE (Gj d g) ?_;exact aa.some rfl
  ·have h : (p_ p == p_ q) = false := h
   rw[h];exact aa.some rfl
 ·have h : ((a8 p).toList == (a8 q).toList) = false := h
  rw[h];exact aa.some rfl
/-! ### Aj lists of numbers of d -/
structure JC (a b:List (List G)) (X Y:List Nat):Prop where
 ha:∀ z∈a,fN z
 hb:∀ z∈b,fN z
 hX:∀ i∈X,i<a.length
 hY:∀ i∈Y,i<b.length
 na:a.length≤100000
 nb:b.length≤100000
 nX:X.length≤1000
 nY:Y.length≤1000
def bE(X:List Nat):List (List G):=X.map fun(i:Nat)=>[G.i (i:Int)]
theorem lO(X:List Nat):(bE X).length=X.length:=dJ _
theorem sQ{X:List Nat}{i:Nat}(hi:i<X.length):(bE X).getD i []=[.i ((X.getD i 0:Nat):Int)]:=by
 unfold bE;rw[cf,bZ,bI hi,cf,bI hi];rfl
theorem sR{α:Type}{l:List α}{i:Nat}{z:α}(h:i<l.length):l.getD i z∈l:=by
 rw[cf,bI h];exact nm h
def lP(a:List (List G))(X:List Nat)(i:Nat):List G:=a.getD (X.getD i 0) []
def e9(a b:List (List G))(X Y:List Nat)(off:Int)(i k:Nat):Bool:=sP off (lP a X i) (lP b Y k)
def wJ(a b:List (List G))(X Y:List Nat)(i k:Nat):Int:=10000000000-mU (lP a X i) (lP b Y k)
theorem JC.Ao{a b:List (List G)}{X Y:List Nat}(J:JC a b X Y){i:Nat}(hi:i<X.length):X.getD i 0<a.length∧fN (lP a X i):=by
 have h:=J.hX _ (sR (z:=0) hi);exact⟨h,J.ha _ (sR h)⟩
theorem JC.Ap{a b:List (List G)}{X Y:List Nat}(J:JC a b X Y){i:Nat}(hi:i<Y.length):Y.getD i 0<b.length∧fN (lP b Y i):=by
 have h:=J.hY _ (sR (z:=0) hi);exact⟨h,J.hb _ (sR h)⟩
theorem acD{a b:List (List G)}{X Y:List Nat}(J:JC a b X Y)(off:Int)(h:List (List G)){i k:Nat}(hi:i<X.length)(hk:k<Y.length) :
  vH [.l a,.l b,.l (bE X),.l (bE Y),.i off,.l h,.i (i:Int),.i (k:Int)]=some [.l a,.l b,.l (bE X),.l (bE Y),.i off,.l h,.i (wJ a b X Y i k),.t (e9 a b X Y off i k)]:=by
 obtain⟨h1,d⟩:=J.Ao hi;obtain⟨y,g⟩:=J.Ap hk;have v:=An d g;refine aa.toEq ?_;unfold vH
 (dsimp +instances only[Aa,Ab,Ac,Ad,Ae,Af,Ag])
 simp only[a_,sQ hi,sQ hk,lO]
 (dsimp +instances only[Aa,Ab,Ac,Ad,Ae,Af,Ag])
 simp only[a_];refine aa.p (aa.p (aa.p (aa.p ?_)));have q:a.getD (X.getD i 0) []=lP a X i:=rfl;have u:b.getD (Y.getD k 0) []=lP b Y k:=rfl;rw[q,u,d.1,g.1];refine aa.cE (Gj d g) ?_
 (dsimp +instances only[Aa,Ab,Ac,Ad,Ae,Af,Ag])
 refine aa.pos (kP.2 ⟨by omega,by omega⟩) ?_;refine aa.cE (Gk off d g) ?_
 (dsimp +instances only[Aa,Ab,Ac,Ad,Ae,Af,Ag])
 refine aa.pos ?_ (aa.some rfl);simp
theorem Py{a b:List (List G)}{X Y:List Nat}(J:JC a b X Y)(off:Int)(h:List (List G)){i k:Nat}(hi:i<X.length)(hk:k<Y.length) :
  zJ [.l [[.l a,.l b,.l (bE X),.l (bE Y),.i off,.l h]],.i (i:Int),.i (k:Int)]=some [.i (wJ a b X Y i k),.t (e9 a b X Y off i k)]:=by
 obtain⟨h1,d⟩:=J.Ao hi;obtain⟨y,g⟩:=J.Ap hk;have v:=An d g;refine aa.toEq ?_;unfold zJ
 (dsimp +instances only[Aa,Ab,Ac,Ad,Ae,Af,Ag])
 simp only[a_,sQ hi,sQ hk,lO]
 (dsimp +instances only[Aa,Ab,Ac,Ad,Ae,Af,Ag])
 simp only[a_];refine aa.p (aa.p (aa.p (aa.p ?_)));have q:a.getD (X.getD i 0) []=lP a X i:=rfl;have u:b.getD (Y.getD k 0) []=lP b Y k:=rfl;rw[q,u,d.1,g.1];refine aa.cE (Gj d g) ?_
 (dsimp +instances only[Aa,Ab,Ac,Ad,Ae,Af,Ag])
 refine aa.pos (kP.2 ⟨by omega,by omega⟩) ?_;refine aa.cE (Gk off d g) ?_;exact aa.some rfl
/-! ### d table -/
def dI(F:Nat→Nat→Int)(m i t:Nat):List (List G):=(dv (m+1)).map fun j=>[G.i (if t≤j then F i j else 0)]
def dz(F:Nat→Nat→Int)(n m i:Nat):List (List G):=(dv (n+1)).map fun p=>[G.l (if i≤p then dI F m p 0 else [])]
theorem oy(F:Nat→Nat→Int)(m i t:Nat):(dI F m i t).length=m+1:=by unfold dI; rw[dJ,ta]
theorem sS(F:Nat→Nat→Int)(n m i:Nat):(dz F n m i).length=n+1:=by unfold dz; rw[dJ,ta]
theorem wg{F:Nat→Nat→Int}{m i t j:Nat}(d:j≤m):(dI F m i t).getD j []=[.i (if t≤j then F i j else 0)]:=by
 unfold dI;rw[cf,bZ,tn (by omega)];rfl
theorem Gl{F:Nat→Nat→Int}{n m i p:Nat}(d:p≤n):(dz F n m i).getD p []=[.l (if i≤p then dI F m p 0 else [])]:=by
 unfold dz;rw[cf,bZ,tn (by omega)];rfl
theorem acE{F:Nat→Nat→Int}{m i t:Nat}:(dI F m i (t+1)).set t [.i (F i t)]=dI F m i t:=by
 apply jR;intro j;unfold dI;rw[dR,bZ,bZ,dJ,ta];by_cases d:j<m+1
 ·rw [tn d]
  by_cases e:t=j
  ·subst e
   rw[if_pos rfl,if_pos d];simp
  ·rw [if_neg e]
   simp only[eJ];by_cases h:t≤j
   ·rw[if_pos h,if_pos (by omega)]
   ·rw[if_neg h,if_neg (by omega)]
 ·rw [lW (by simp; omega)]
  by_cases e:t=j
  ·subst e
   rw[if_pos rfl,if_neg d];rfl
  ·rw [if_neg e]
   rfl
theorem acF{F:Nat→Nat→Int}{m i:Nat}(h:F i m=0):dI F m i m=bM (m+1) [.i 0]:=by
 rw[afa];refine⟨oy F m i m,fun x d=>?_⟩;unfold dI at d;obtain⟨j,g,rfl⟩:=dD.1 d;rw[List.mem_range]at g;by_cases e:m≤j
 ·rw[if_pos e,show j=m from by omega,h]
 ·rw[if_neg e]
theorem acG{F:Nat→Nat→Int}{m i:Nat}(h:∀ k,F i k=0):dI F m i 0=bM (m+1) [.i 0]:=by
 rw[afa];refine⟨oy F m i 0,fun x d=>?_⟩;unfold dI at d;obtain⟨j,g,rfl⟩:=dD.1 d;rw[if_pos (er _),h]
theorem acH{F:Nat→Nat→Int}{n m i:Nat}:(dz F n m (i+1)).set i [.l (dI F m i 0)]=dz F n m i:=by
 apply jR;intro j;unfold dz;rw[dR,bZ,bZ,dJ,ta];by_cases d:j<n+1
 ·rw [tn d]
  by_cases e:i=j
  ·subst e
   rw[if_pos rfl,if_pos d];simp
  ·rw [if_neg e]
   simp only[eJ];by_cases h:i≤j
   ·rw[if_pos h,if_pos (by omega)]
   ·rw[if_neg h,if_neg (by omega)]
 ·rw [lW (by simp; omega)]
  by_cases e:i=j
  ·subst e
   rw[if_pos rfl,if_neg d];rfl
  ·rw [if_neg e]
   rfl
theorem acI{F:Nat→Nat→Int}{n m:Nat}(h:∀ k,F n k=0):(bM (n+1) ([.l []]:List G)).set n [.l (bM (m+1) [.i 0])]=dz F n m n:=by
 apply jR;intro j;unfold dz;rw[dR,bZ,List.getElem?_replicate,wF];by_cases d:j<n+1
 ·rw [tn d]
  by_cases e:n=j
  ·subst e
   rw[if_pos rfl,if_pos d,eJ,if_pos (aB _),acG h]
  ·rw[if_neg e,if_pos d,eJ,if_neg (by omega)]
 ·rw [lW (by simp; omega)]
  by_cases e:n=j
  ·subst e
   rw[if_pos rfl,if_neg d];rfl
  ·rw [if_neg e, if_neg d]
   rfl
theorem sT(k:Kd)(r:List G)(v:G):bf [k] r 0 [v]=[v]:=by
 simp[bf,nF]
theorem Pz{a b x y d row:List (List G)}{off:Int}{i k:Nat}(hk:k≤100000) :
  vJ [.l a,.l b,.l x,.l y,.i off,.l d,.l row,.i (i:Int),.i (k:Int)]=some (some 0,[.l a,.l b,.l x,.l y,.i off,.l d,.l row,.i (i:Int),.i ((k:Int)-1)]):=by
 refine aa.toEq ?_;unfold vJ
 (dsimp +instances only[Aa,Ab,Ac,Ad,Ae,Af,Ag])
 exact aa.pos (kP.2 ⟨by omega,by omega⟩) (aa.pos (by simp) (aa.some rfl))
theorem PA{a b:List (List G)}{X Y:List Nat}(J:JC a b X Y)(off:Int){F:Nat→Nat→Int}(d:eB F X.length Y.length (e9 a b X Y off) (wJ a b X Y)){i:Nat}(hi:i<X.length):∀ t:Nat,t≤Y.length →
  aX vK [.l a,.l b,.l (bE X),.l (bE Y),.i off,.l (dz F X.length Y.length (i+1)),.l (dI F Y.length i t),.i (i:Int),.i ((t:Int)-1)] (t+1) fun c g=>c=0∧g=[.l a,.l b,.l (bE X),.l (bE Y),.i off,.l (dz F X.length Y.length (i+1)),.l (dI F Y.length i 0),.i (i:Int)]
 | 0,_=>by
  refine aX.stop (x:=0) (aa.toEq ?_) ⟨rfl,rfl⟩;unfold vK
  (dsimp +instances only[Aa,Ab,Ac,Ad,Ae,Af,Ag])
  exact aa.neg (by rw[eu]; decide) (aa.pos (by simp) (aa.some rfl))
 | t+1,ht=>by
  have nX:=J.nX;have nY:=J.nY;have hW:∀ i k,F i k≤10000000000*((X.length-i:Nat):Int):=fun i k=>d.le (W:=10000000000) (by omega) (fun i k=>by
   unfold wJ mU;split<;>omega) _ i k rfl
  have b1:=d.Gd (i+1) t;have b2:=d.Gd (i+1) (t+1);have b3:=hW (i+1) (t+1);have hwo : -2000000000000≤wJ a b X Y i t∧wJ a b X Y i t≤10000000000:=by
   have:=An (J.Ao hi).2 (J.Ap (show t<Y.length by omega)).2;unfold wJ;omega
  have ih:=PA J off d hi t (by omega);have e0:((t+1:Nat):Int)-1=(t:Int):=by omega
  rw[e0];refine aX.next (aa.toEq ?_) ih
  have e1:((i:Int)+1).toNat=i+1:=by omega
  have e2:((t:Int)+1).toNat=t+1:=by omega
  have V:(dz F X.length Y.length (i+1)).getD (i+1) []=[.l (dI F Y.length (i+1) 0)]:=by rw[Gl (by omega),if_pos (aB _)]
  have hN0:(dI F Y.length (i+1) 0).getD t []=[.i (F (i+1) t)]:=by rw[wg (by omega),if_pos (er _)]
  have I:(dI F Y.length (i+1) 0).getD (t+1) []=[.i (F (i+1) (t+1))]:=by rw[wg (by omega),if_pos (er _)]
  have M:(dI F Y.length i (t+1)).getD (t+1) []=[.i (F i (t+1))]:=by rw[wg (by omega),if_pos (aB _)]
  have q:=d.step i t hi (by omega);have y:∀ v,v=F i t→(dI F Y.length i (t+1)).set t [.i v]=dI F Y.length i t:=fun v hv=>by rw[hv,acE]
  have B:∀ v:Int,((dI F Y.length i (t+1)).set t [.i v]).getD t []=[.i v]:=fun v=>by
   rw[cf,List.getElem?_set_self (by rw[oy]; omega)];rfl
  have N:=sS F X.length Y.length (i+1);have O:=oy F Y.length i (t+1);have U:=oy F Y.length (i+1) 0;generalize hRR:dI F Y.length i (t+1)=R at M y B O⊢;unfold vK
  (dsimp +instances only[Aa,Ab,Ac,Ad,Ae,Af,Ag])
  simp only[a_,e1,e2,cP,V]
  (dsimp +instances only[Aa,Ab,Ac,Ad,Ae,Af,Ag])
  simp only[hN0,I,M,sT,N,O,U,List.length_set,B,List.set_set]
  (dsimp +instances only[Aa,Ab,Ac,Ad,Ae,Af,Ag])
  refine aa.p (aa.p (aa.p (aa.p (aa.p (aa.p (aa.p (aa.p (aa.p (aa.p ?_)))))))));refine aa.oe (aa.eq (acD J off _ hi (show t<Y.length by omega))) (by simp) ?_;rintro _ rfl
  (dsimp +instances only[Aa,Ab,Ac,Ad,Ae,Af,Ag])
  simp only[V]
  (dsimp +instances only[Aa,Ab,Ac,Ad,Ae,Af,Ag])
  simp only[I,N,U]
  (dsimp +instances only[Aa,Ab,Ac,Ad,Ae,Af,Ag])
  refine aa.test (fun h=>?_) fun h=>?_
  ·rw [if_pos h] at q
   refine aa.p (aa.p (aa.p (aa.p (aa.p (aa.p (aa.p (aa.pos (kP.2 ⟨by omega,by omega⟩) (aa.p (aa.p ?_)))))))));refine aa.tail (P:=fun u g=>u=0∧g=[.l a,.l b,.l (bE X),.l (bE Y),.i off,.l (dz F X.length Y.length (i+1)),.l (dI F Y.length i t),.i (i:Int),.i ((t:Int)-1)]) ⟨_,Pz (by omega),0,rfl,?_,?_⟩ (by simp) ?_
   ·rfl
   ·rw [y _ ?_]
    rw[q];split<;>split<;>omega
   ·rintro _ _ ⟨rfl, rfl⟩
    (dsimp +instances only[Aa,Ab,Ac,Ad,Ae,Af,Ag])
    exact aa.pos (by simp) (aa.some rfl)
  ·rw [if_neg (by rw [h]; decide)] at q
   refine aa.tail (P:=fun u g=>u=0∧g=[.l a,.l b,.l (bE X),.l (bE Y),.i off,.l (dz F X.length Y.length (i+1)),.l (dI F Y.length i t),.i (i:Int),.i ((t:Int)-1)]) ⟨_,Pz (by omega),0,rfl,?_,?_⟩ (by simp) ?_
   ·rfl
   ·rw [y _ ?_]
    rw[q];split<;>omega
   ·rintro _ _ ⟨rfl, rfl⟩
    (dsimp +instances only[Aa,Ab,Ac,Ad,Ae,Af,Ag])
    exact aa.pos (by simp) (aa.some rfl)
theorem PB{a b:List (List G)}{X Y:List Nat}(J:JC a b X Y)(off:Int){F:Nat→Nat→Int}(d:eB F X.length Y.length (e9 a b X Y off) (wJ a b X Y)):∀ t:Nat,t≤X.length →
  aX vL [.l a,.l b,.l (bE X),.l (bE Y),.i off,.l (dz F X.length Y.length t),.i ((t:Int)-1)] (t+1) fun c g=>c=0∧g=[.l a,.l b,.l (bE X),.l (bE Y),.i off,.l (dz F X.length Y.length 0)]
 | 0,_=>by
  refine aX.stop (x:=0) (aa.toEq ?_) ⟨rfl,rfl⟩;unfold vL
  (dsimp +instances only[Aa,Ab,Ac,Ad,Ae,Af,Ag])
  exact aa.neg (by rw[eu]; decide) (aa.pos (by simp) (aa.some rfl))
 | t+1,y=>by
  have nX:=J.nX;have nY:=J.nY;have q:=PB J off d t (by omega);have u:((t+1:Nat):Int)-1=(t:Int):=by omega
  rw[u];refine aX.next (aa.toEq ?_) q
  have v:((Y.length:Int)+1).toNat=Y.length+1:=by omega
  have h:(bM (Y.length+1) ([.i 0]:List G))=dI F Y.length t Y.length:=(acF (d.mS t Y.length (.inr (aB _)))).symm;have k:=PA J off d (show t<X.length by omega) Y.length (aB _);unfold vL
  (dsimp +instances only[Aa,Ab,Ac,Ad,Ae,Af,Ag])
  simp only[lO,v,h];refine aa.p (aa.p (aa.p (aa.p ?_)));refine aa.loop (k.to (by omega)) (by simp[oy]) ?_;rintro _ _ ⟨rfl,rfl⟩
  (dsimp +instances only[Aa,Ab,Ac,Ad,Ae,Af,Ag])
  simp only[a_,cP,sT,sS];refine aa.p (aa.pos (by simp; omega) (aa.p (aa.pos (by simp[sS]) (aa.some ?_))));rw[acH]
theorem acJ{a b:List (List G)}{X Y:List Nat}(J:JC a b X Y)(off:Int){F:Nat→Nat→Int}(d:eB F X.length Y.length (e9 a b X Y off) (wJ a b X Y)) :
  zI [.l a,.l b,.l (bE X),.l (bE Y),.i off,.l []]=some [.l a,.l b,.l (bE X),.l (bE Y),.i off,.l (dz F X.length Y.length 0)]:=by
 have nX:=J.nX;have nY:=J.nY;have h:((X.length:Int)+1).toNat=X.length+1:=by omega
 have q:((Y.length:Int)+1).toNat=Y.length+1:=by omega
 have g:(bM (X.length+1) ([.l []]:List G)).set X.length [.l (bM (Y.length+1) [.i 0])]=dz F X.length Y.length X.length:=acI fun k=>d.mS X.length k (.inl (aB _));refine aa.toEq ?_;unfold zI
 (dsimp +instances only[Aa,Ab,Ac,Ad,Ae,Af,Ag])
 simp only[lO,h,q,cP,sT,g,wF,sS];refine aa.p (aa.p (aa.p (aa.p (aa.p (aa.pos (by simp) (aa.p ?_))))));refine aa.loop ((PB J off d X.length (aB _)).to (by omega)) (by simp) ?_;rintro _ _ ⟨rfl,rfl⟩
 (dsimp +instances only[Aa,Ab,Ac,Ad,Ae,Af,Ag])
 exact aa.pos (by simp) (aa.some rfl)
def oz(X Y:List Nat)(p:Nat × Nat):List G:=[.i ((X.getD p.1 0:Nat):Int),.i ((Y.getD p.2 0:Nat):Int)]
def PC(X Y:List Nat)(out:List (List G))(i:Nat):Option Nat→List (List G)
 |some q=>out++[oz X Y (i,q)]
 |none=>out
def PD(f:Nat):Option Nat→Nat
 |some q=>q+1
 |none=>f
theorem Gm{a b d out:List (List G)}{X Y:List Nat}(off:Int){f i k n:Nat}(hi:i<X.length)(hk:k<Y.length)(nY:Y.length≤1000)(ho:out.length≤100000)(t:Bool) :
  sr [.l a,.l b,.l (bE X),.l (bE Y),.i off,.l d,.l out,.i (f:Int),.i (i:Int),.i (k:Int),.i (n:Int),.i (i:Int),.t t] =
   bif t then some (some 0,[.l a,.l b,.l (bE X),.l (bE Y),.i off,.l d,.l (out++[oz X Y (i,k)]),.i ((k+1:Nat):Int),.i (n:Int),.i (i:Int)])
   else some (some 1,[.l a,.l b,.l (bE X),.l (bE Y),.i off,.l d,.l out,.i (f:Int),.i (i:Int),.i (k:Int),.i (n:Int),.i (i:Int)]):=by
 cases t with
 | false =>
  refine aa.toEq ?_;unfold sr
  (dsimp +instances only[Aa,Ab,Ac,Ad,Ae,Af,Ag])
  exact aa.neg rfl (aa.pos (by simp) (aa.some rfl))
 | true =>
  refine aa.toEq ?_;unfold sr
  (dsimp +instances only[Aa,Ab,Ac,Ad,Ae,Af,Ag])
  simp only[a_,sQ hi,sQ hk,lO]
  (dsimp +instances only[Aa,Ab,Ac,Ad,Ae,Af,Ag])
  exact aa.pos rfl (aa.p (aa.p (aa.pos (by simp; omega) (aa.p (aa.pos (by simp) (aa.some rfl))))))
section
variable {a b:List (List G)} {X Y:List Nat} {F:Nat→Nat→Int}
theorem PE(J:JC a b X Y)(off:Int)(v:eB F X.length Y.length (e9 a b X Y off) (wJ a b X Y))(out:List (List G))(ho:out.length≤100000){f i:Nat}(hi:i<X.length)(hf:f≤Y.length):∀ t k:Nat,k+t=Y.length →
  aX pX [.l a,.l b,.l (bE X),.l (bE Y),.i off,.l (dz F X.length Y.length 0),.l out,.i (f:Int),.i (i:Int),.i (k:Int),.i (X.length:Int),.i (i:Int)] (t+1)
   fun c g=>c=0∧g=[.l a,.l b,.l (bE X),.l (bE Y),.i off,.l (dz F X.length Y.length 0),.l (PC X Y out i (jk (gP F (e9 a b X Y off) (wJ a b X Y) (F i f) i) k t)),.i (PD f (jk (gP F (e9 a b X Y off) (wJ a b X Y) (F i f) i) k t):Int),.i (X.length:Int),.i (i:Int)]
 | 0,k,hk=>by
  refine aX.stop (x:=0) (aa.toEq ?_) ⟨rfl,rfl⟩;have nY:=J.nY;unfold pX
  (dsimp +instances only[Aa,Ab,Ac,Ad,Ae,Af,Ag])
  simp only[lO];exact aa.n (aa.pos (by simp) (aa.some rfl))
 | t+1,k,hk=>by
  have nX:=J.nX;have nY:=J.nY;have q:k<Y.length:=by omega
  have hW:∀ i k,F i k≤10000000000*((X.length-i:Nat):Int):=fun i k=>v.le (W:=10000000000) (by omega) (fun i k=>by
   unfold wJ mU;split<;>omega) _ i k rfl
  have b2:=v.Gd (i+1) (k+1);have b3:=hW (i+1) (k+1);have hwo : -2000000000000≤wJ a b X Y i k∧wJ a b X Y i k≤10000000000:=by
   have:=An (J.Ao hi).2 (J.Ap q).2;unfold wJ;omega
  have U:((i:Int)+1).toNat=i+1:=by omega
  have V:((k:Int)+1).toNat=k+1:=by omega
  have B:(dz F X.length Y.length 0).getD (i+1) []=[.l (dI F Y.length (i+1) 0)]:=by rw[Gl (by omega),if_pos (er _)]
  have I:(dz F X.length Y.length 0).getD i []=[.l (dI F Y.length i 0)]:=by rw[Gl (by omega),if_pos (er _)]
  have M:(dI F Y.length (i+1) 0).getD (k+1) []=[.i (F (i+1) (k+1))]:=by rw[wg (by omega),if_pos (er _)]
  have N:(dI F Y.length i 0).getD f []=[.i (F i f)]:=by rw[wg (by omega),if_pos (er _)]
  have O:∀ c:Bool,gP F (e9 a b X Y off) (wJ a b X Y) (F i f) i k=c→jk (gP F (e9 a b X Y off) (wJ a b X Y) (F i f) i) k (t+1)=bif c then some k else jk (gP F (e9 a b X Y off) (wJ a b X Y) (F i f) i) (k+1) t:=fun c hc=>by rw[←hc]; rfl
  have go:gP F (e9 a b X Y off) (wJ a b X Y) (F i f) i k=false→aa (pX [.l a,.l b,.l (bE X),.l (bE Y),.i off,.l (dz F X.length Y.length 0),.l out,.i (f:Int),.i (i:Int),.i (k:Int),.i (X.length:Int),.i (i:Int)])
    (fun o=>o=(none,[.l a,.l b,.l (bE X),.l (bE Y),.i off,.l (dz F X.length Y.length 0),.l out,.i (f:Int),.i (i:Int),.i ((k+1:Nat):Int),.i (X.length:Int),.i (i:Int)])):=fun d=>by
   unfold pX
   (dsimp +instances only[Aa,Ab,Ac,Ad,Ae,Af,Ag])
   simp only[lO];refine aa.p ?_;refine aa.cE (Py J off _ hi q) ?_
   (dsimp +instances only[Aa,Ab,Ac,Ad,Ae,Af,Ag])
   simp only[a_,U,V,B,I]
   (dsimp +instances only[Aa,Ab,Ac,Ad,Ae,Af,Ag])
   simp only[M,N,sS,oy]
   (dsimp +instances only[Aa,Ab,Ac,Ad,Ae,Af,Ag])
   refine aa.test (fun h=>?_) fun h=>?_
   ·refine aa.p (aa.p (aa.p (aa.p (aa.pos (kP.2 ⟨by omega, by omega⟩) (aa.p (aa.p ?_))))))
    have y:(wJ a b X Y i k+F (i+1) (k+1)==F i f)=false:=by
     unfold gP at d
     rwa [h,qj]at d
    rw[y];refine aa.tail (P:=fun u g=>u=1∧g=[.l a,.l b,.l (bE X),.l (bE Y),.i off,.l (dz F X.length Y.length 0),.l out,.i (f:Int),.i (i:Int),.i (k:Int),.i (X.length:Int),.i (i:Int)]) ⟨_,Gm off hi q nY ho false,1,rfl,rfl,rfl⟩ (by simp) ?_;rintro _ _ ⟨rfl,rfl⟩
    (dsimp +instances only[Aa,Ab,Ac,Ad,Ae,Af,Ag])
    exact aa.neg rfl (aa.p (aa.pos (by simp) (aa.some rfl)))
   ·refine aa.tail (P := fun u g => u = 1 ∧ g = [.l a, .l b, .l (bE X), .l (bE Y), .i off, .l (dz F X.length Y.length 0), .l out, .i (f : Int), .i (i : Int), .i (k : Int), .i (X.length : Int), .i (i : Int)]) ⟨_, Gm off hi q nY ho false, 1, rfl, rfl, rfl⟩ (by simp) ?_
    rintro _ _ ⟨rfl,rfl⟩
    (dsimp +instances only[Aa,Ab,Ac,Ad,Ae,Af,Ag])
    exact aa.neg rfl (aa.p (aa.pos (by simp) (aa.some rfl)))
  cases d:gP F (e9 a b X Y off) (wJ a b X Y) (F i f) i k with
  | false =>
   rw[O false d,cond_false];exact aX.next (aa.toEq (go d)) (PE J off v out ho hi hf t (k+1) (by omega))
  | true =>
   rw[O true d,cond_true];obtain⟨o1,o2⟩:=Px.1 d;refine aX.stop (x:=0) (aa.toEq ?_) ⟨rfl,rfl⟩;unfold pX
   (dsimp +instances only[Aa,Ab,Ac,Ad,Ae,Af,Ag])
   simp only[lO];refine aa.p ?_;refine aa.cE (Py J off _ hi q) ?_
   (dsimp +instances only[Aa,Ab,Ac,Ad,Ae,Af,Ag])
   simp only[a_,U,V,B,I]
   (dsimp +instances only[Aa,Ab,Ac,Ad,Ae,Af,Ag])
   simp only[M,N,sS,oy]
   (dsimp +instances only[Aa,Ab,Ac,Ad,Ae,Af,Ag])
   refine aa.pos o1 ?_;refine aa.p (aa.p (aa.p (aa.p (aa.pos (kP.2 ⟨by omega,by omega⟩) (aa.p (aa.p ?_))))));have y:(wJ a b X Y i k+F (i+1) (k+1)==F i f)=true:=by rw[beq_iff_eq]; exact o2
   rw[y];refine aa.tail (P:=fun u g=>u=0∧g=[.l a,.l b,.l (bE X),.l (bE Y),.i off,.l (dz F X.length Y.length 0),.l (out++[oz X Y (i,k)]),.i ((k+1:Nat):Int),.i (X.length:Int),.i (i:Int)]) ⟨_,Gm off hi q nY ho true,0,rfl,rfl,rfl⟩ (by simp) ?_;rintro _ _ ⟨rfl,rfl⟩
   (dsimp +instances only[Aa,Ab,Ac,Ad,Ae,Af,Ag])
   exact aa.pos rfl (aa.pos (by simp) (aa.some rfl))
theorem Gn(J:JC a b X Y)(off:Int)(h:eB F X.length Y.length (e9 a b X Y off) (wJ a b X Y)):∀(t i f:Nat) (out:List (List G)),i+t=X.length→f≤Y.length→out.length+t≤100000 →
  aX su [.l a,.l b,.l (bE X),.l (bE Y),.i off,.l (dz F X.length Y.length 0),.l out,.i (f:Int),.i (X.length:Int),.i (i:Int)] (t+1)
   fun c g=>c=0∧g=[.l a,.l b,.l (bE X),.l (bE Y),.i off,.l (dz F X.length Y.length 0),.l (out++(gQ F Y.length (e9 a b X Y off) (wJ a b X Y) t i f).map (oz X Y))]
 | 0,i,f,out,hi,k,ho=>by
  have e:out++(gQ F Y.length (e9 a b X Y off) (wJ a b X Y) 0 i f).map (oz X Y)=out:=by rw[gQ,List.map_nil,cO]
  rw[e];refine aX.stop (x:=0) (aa.toEq ?_) ⟨rfl,rfl⟩;unfold su
  (dsimp +instances only[Aa,Ab,Ac,Ad,Ae,Af,Ag])
  exact aa.n (aa.pos (by simp) (aa.some rfl))
 | t+1,i,f,out,hi,k,ho=>by
  have nX:=J.nX;have nY:=J.nY;have u:=PE J off h out (by omega) (f:=f) (i:=i) (by omega) k (Y.length-f) f (by omega);have step:∀ q,jk (gP F (e9 a b X Y off) (wJ a b X Y) (F i f) i) f (Y.length-f)=q→aa (su [.l a,.l b,.l (bE X),.l (bE Y),.i off,.l (dz F X.length Y.length 0),.l out,.i (f:Int),.i (X.length:Int),.i (i:Int)])
    (fun o=>o=(none,[.l a,.l b,.l (bE X),.l (bE Y),.i off,.l (dz F X.length Y.length 0),.l (PC X Y out i q),.i (PD f q:Int),.i (X.length:Int),.i ((i+1:Nat):Int)])):=fun q d=>by
   rw[d]at u;unfold su
   (dsimp +instances only[Aa,Ab,Ac,Ad,Ae,Af,Ag])
   refine aa.p ?_;refine aa.loop (u.to (by omega)) (by simp) ?_;rintro _ _ ⟨rfl,rfl⟩
   (dsimp +instances only[Aa,Ab,Ac,Ad,Ae,Af,Ag])
   exact aa.p (aa.pos (by simp) (aa.some rfl))
  cases d:jk (gP F (e9 a b X Y off) (wJ a b X Y) (F i f) i) f (Y.length-f)with
  | none =>
   have:=Gn J off h t (i+1) f out (by omega) k (by omega);rw[Gg d];exact aX.next (aa.toEq (step none d)) this
  | some q =>
   obtain⟨v,y,_,_⟩:=Ge d;have:=Gn J off h t (i+1) (q+1) (out++[oz X Y (i,q)]) (by omega) (by omega) (by simp; omega);rw[Gf d,du];rw[List.append_assoc]at this;exact aX.next (aa.toEq (step (some q) d)) this
theorem acK(J:JC a b X Y)(off:Int)(d:eB F X.length Y.length (e9 a b X Y off) (wJ a b X Y)) :
  zK [.l a,.l b,.l (bE X),.l (bE Y),.i off,.l []]=some [.l a,.l b,.l (bE X),.l (bE Y),.i off,.l (dz F X.length Y.length 0),.l ((gQ F Y.length (e9 a b X Y off) (wJ a b X Y) X.length 0 0).map (oz X Y))]:=by
 have nX:=J.nX;refine aa.toEq ?_;unfold zK
 (dsimp +instances only[Aa,Ab,Ac,Ad,Ae,Af,Ag])
 refine aa.cE (acJ J off d) ?_
 (dsimp +instances only[Aa,Ab,Ac,Ad,Ae,Af,Ag])
 simp only[lO];have h:=Gn J off d X.length 0 0 [] (by omega) (er _) (by simp; omega);rw[lb]at h;refine aa.loop (h.to (by omega)) (by first|rfl|simp) ?_;rintro _ _ ⟨rfl,rfl⟩
 (dsimp +instances only[Aa,Ab,Ac,Ad,Ae,Af,Ag])
 exact aa.pos (by simp) (aa.some rfl)
end
abbrev GK:=ByteArray × Int
def dh(k:GK):List G:=[.s k.1,.i k.2]
theorem acL(k:GK):aR [.str,.int .i64] (dh k) (dh k)=true:=by
 show ((k.1.toList==k.1.toList)&&((k.2==k.2)&&true))=true
 simp
theorem acM{k k':GK}(h:k≠k'):aR [.str,.int .i64] (dh k) (dh k')=false:=by
 show ((k.1.toList==k'.1.toList)&&((k.2==k'.2)&&true))=false
 cases h1:k.1.toList==k'.1.toList with
 |false=>rfl
 | true =>
  cases d:k.2==k'.2 with
  |false=>rfl
  |true=>exact(h (Prod.ext (Io (eq_of_beq h1)) (eq_of_beq d))).elim
def jl(i:Nat)(e:GK × List Nat):List G:=[.l [dh e.1],.l [[.l (bE e.2)]],.i (i:Int),.t true]
def bu:Nat→List (GK × List Nat)→List (List G)
 |_,[]=>[]
 |i,e::L=>jl i e::bu (i+1) L
theorem wh:∀(i:Nat) (L:List (GK × List Nat)),(bu i L).length=L.length
 |_,[]=>rfl
 |i,_::L=>by simp[bu,wh (i+1) L]
theorem sU:∀(i:Nat) (A B:List (GK × List Nat)),bu i (A++B)=bu i A++bu (i+A.length) B
 |i,[],B=>by simp[bu]
 | i,e::A,B=>by
  simp only[lZ,bu,sU (i+1) A B,cw];rw[show i+1+A.length=i+(A.length+1) from by omega]
def kl(k:GK)(v:Nat):List (GK × List Nat)→List (GK × List Nat)
 | []=>[(k,[v])]
 |e::L=>if e.1=k then (e.1,e.2++[v])::L else e::kl k v L
theorem Aq(k:GK):∀ L:List (GK × List Nat),(∀ e∈L,e.1≠k)∨∃ A vs B,L=A++(k,vs)::B∧∀ e∈A,e.1≠k
 | []=>.inl fun e h=>by cases h
 | e::L=>by
  by_cases he:e.1=k
  ·exact .inr ⟨[],e.2,L,by rw[←he]; rfl,fun e h=>by cases h⟩
  ·rcases Aq k L with h | ⟨A, vs, B, rfl, h⟩
   ·exact .inl fun x d=>by
     rcases bW.1 d with rfl|d
     ·exact he
     ·exact h x d
   ·exact .inr ⟨e::A,vs,B,rfl,fun x d=>by
     rcases bW.1 d with rfl|d
     ·exact he
     ·exact h x d⟩
theorem Ar{k:GK}(v:Nat):∀{L:List (GK × List Nat)},(∀ e∈L,e.1≠k)→kl k v L=L++[(k,[v])]
 | [],_=>rfl
 | e::L,h=>by
  rw[kl,if_neg (h e cW),Ar v fun x d=>h x (c9 _ d)];rfl
theorem Au{k:GK}(v:Nat)(vs:List Nat)(B:List (GK × List Nat)):∀{A:List (GK × List Nat)},(∀ e∈A,e.1≠k)→kl k v (A++(k,vs)::B)=A++(k,vs++[v])::B
 | [],_=>by rw[lb,kl,if_pos rfl,lb]
 | e::A,h=>by
  rw[lZ,kl,if_neg (h e cW),Au v vs B fun x d=>h x (c9 _ d)];rfl
theorem Gp(k:GK)(R:List (List G)):∀(A:List (GK × List Nat)) (i j:Nat),(∀ e∈A,e.1≠k)→bS [.str,.int .i64] (dh k) (bu i A++R) j=bS [.str,.int .i64] (dh k) R (j+A.length)
 | [],_,_,_=>rfl
 | e::A,i,j,h=>by
  rw[bu,lZ,bS,show (gi (jl i e) 0).row=dh e.1 from rfl,acM (Ne.symm (h e cW)),cond_false,Gp k R A (i+1) (j+1) fun x d=>h x (c9 _ d),cw];congr 1;omega
theorem PF{k:GK}{L:List (GK × List Nat)}(h:∀ e∈L,e.1≠k)(i j:Nat):bS [.str,.int .i64] (dh k) (bu i L) j=none:=by
 have:=Gp k [] L i j h;rw[cO]at this;exact this
theorem PG{k:GK}{A:List (GK × List Nat)}(h:∀ e∈A,e.1≠k)(i:Nat)(r:List G)(d:(gi r 0).row=dh k)(R:List (List G)):bS [.str,.int .i64] (dh k) (bu i A++r::R) 0=some (A.length,r):=by
 rw[Gp k (r::R) A i 0 h,bS,d,acL,cond_true,cP]
theorem PH(R:List (List G)):∀(A:List (GK × List Nat)) (i j c:Nat),i+A.length≤c→eY (c:Int) (bu i A++R) j=eY (c:Int) R (j+A.length)
 | [],_,_,_,_=>rfl
 | e::A,i,j,c,h=>by
  rw[cw]at h;have hb:(((gi (jl i e) 2).int.toNat:Int)==(c:Int))=false:=by
   show (((i:Int).toNat:Int)==(c:Int))=false
   rw[a_,beq_eq_false_iff_ne];omega
  rw[bu,lZ,eY,hb,cond_false,PH R A (i+1) (j+1) c (by omega),cw];congr 1;omega
theorem PI(A:List (GK × List Nat))(r:List G)(R:List (List G))(d:(gi r 2).int=(A.length:Int)):eY (A.length:Int) (bu 0 A++r::R) 0=some (A.length,r):=by
 rw[PH (r::R) A 0 0 A.length (by omega),eY,d,a_,show ((A.length:Int)==(A.length:Int))=true from by simp,cond_true,cP]
theorem wm{α:Type}(p:List α)(x y:α)(q:List α)(n:Nat)(h:p.length=n):(p++x::q).set n y=p++y::q:=by
 subst h;rw[List.set_append_right _ _ (aB _),Nat.sub_self,List.set_cons_zero]
def oA(L:List (GK × List Nat)):Nat:=(L.map fun e=>e.2.length).sum
theorem acN{L:List (GK × List Nat)}{e:GK × List Nat}(h:e∈L):e.2.length≤oA L:=by
 induction L with
 |nil=>cases h
 | cons x L d =>
  unfold oA at d⊢;rw[du,Q9];rcases bW.1 h with rfl|h
  ·omega
  ·have := d h
   omega
theorem PJ(k:GK)(v:Nat):∀ L:List (GK × List Nat),oA (kl k v L)=oA L+1
 | []=>rfl
 | e::L=>by
  have d:=PJ k v L;rw[kl];split
  ·unfold oA
   simp;omega
  ·unfold oA at d ⊢
   rw[du,Q9,du,Q9,d];omega
theorem acO(L:List (GK × List Nat))(k:GK)(v:Nat) :
  eh [.str,.int .i64] (bu 0 L) (dh k)=true∧(cn [.str,.int .i64] (bu 0 L) (dh k)).length≤oA L ∧
   rf (lu [.str,.int .i64] (bu 0 L) (dh k) L.length) (ls [.str,.int .i64] (bu 0 L) (dh k) L.length:Nat)=true ∧
   rb (lu [.str,.int .i64] (bu 0 L) (dh k) L.length) (ls [.str,.int .i64] (bu 0 L) (dh k) L.length:Nat) (cn [.str,.int .i64] (bu 0 L) (dh k)++[[.i (v:Int)]])=bu 0 (kl k v L) ∧
   bl [.str,.int .i64] (bu 0 L) (dh k) L.length=(kl k v L).length:=by
 rcases Aq k L with h1|⟨A,vs,B,rfl,y⟩
 ·have d := PF h1 0 0
  have g:cn [.str,.int .i64] (bu 0 L) (dh k)=[]:=by unfold cn; rw[d]
  have h:lu [.str,.int .i64] (bu 0 L) (dh k) L.length=bu 0 L++[[.l [dh k],.l [[.l []]],.i (L.length:Int),.t false]]:=by unfold lu; rw[d]
  have q:ls [.str,.int .i64] (bu 0 L) (dh k) L.length=L.length:=by unfold ls; rw[d]
  have u:=PI L [.l [dh k],.l [[.l []]],.i (L.length:Int),.t false] [] rfl;refine⟨by unfold eh; rw[d],by rw[g]; simp,?_,?_,?_⟩
  ·rw [h, q]
   unfold rf;rw[u];rfl
  ·rw [h, q, g, Ar v h1, sU]
   unfold rb;rw[u];simp only[];rw[wm _ _ _ _ _ (wh 0 L),cP];rfl
  ·rw [Ar v h1]
   unfold bl dN;rw[d];simp
 ·have d:bS [.str,.int .i64] (dh k) (bu 0 (A++(k,vs)::B)) 0=some (A.length,jl A.length (k,vs)):=by
   rw[sU,bu,cP];exact PG y 0 (jl A.length (k,vs)) rfl _
  have g:cn [.str,.int .i64] (bu 0 (A++(k,vs)::B)) (dh k)=bE vs:=by unfold cn; rw[d]; rfl
  have h:lu [.str,.int .i64] (bu 0 (A++(k,vs)::B)) (dh k) (A++(k,vs)::B).length=bu 0 A++[.l [dh k],.l [[.l (bE vs)]],.i (A.length:Int),.t false]::bu (A.length+1) B:=by
   unfold lu;rw[d,sU,bu,cP];exact wm _ _ _ _ _ (wh 0 A)
  have q:ls [.str,.int .i64] (bu 0 (A++(k,vs)::B)) (dh k) (A++(k,vs)::B).length=A.length:=by
   unfold ls;rw[d];show ((A.length:Int).toNat)=A.length
   exact a_ _
  have u:=PI A [.l [dh k],.l [[.l (bE vs)]],.i (A.length:Int),.t false] (bu (A.length+1) B) rfl;refine⟨by unfold eh; rw[d]; rfl,by rw[g,lO]; exact acN (e:=(k,vs)) (by simp),?_,?_,?_⟩
  ·rw [h, q]
   unfold rf;rw[u];rfl
  ·rw [h, q, g, Au v vs B y, sU, bu, cP]
   unfold rb;rw[u];simp only[];rw[wm _ _ _ _ _ (wh 0 A)];have I:bE vs++[[G.i (v:Int)]]=bE (vs++[v]):=by unfold bE; rw[kA]; rfl
   rw[I];rfl
  ·rw [Au v vs B y]
   unfold bl dN;rw[d];simp
/-! ### d of a log -/
def fm(r:List G):GK:=(a8 r,p_ r)
def k0(l:List (List G))(s:ByteArray)(i:Nat):Bool:=(Gi (l.getD i [])).toList==s.toList
def mV(l:List (List G))(s:ByteArray)(L:List (GK × List Nat))(i:Nat):List (GK × List Nat):=bif k0 l s i then kl (fm (l.getD i [])) i L else L
def lQ(l:List (List G))(s:ByteArray)(n:Nat):List (GK × List Nat):=(dv n).foldl (mV l s) []
theorem PK(l:List (List G))(s:ByteArray)(n:Nat):lQ l s (n+1)=mV l s (lQ l s n) n:=by
 unfold lQ;rw[AX,Q8];rfl
def fA(l:List (List G))(s:ByteArray)(k:GK)(n:Nat):List Nat:=(dv n).filter fun i=>k0 l s i&&decide (fm (l.getD i [])=k)
theorem Gq(l:List (List G))(s:ByteArray)(k:GK)(n:Nat):fA l s k (n+1)=fA l s k n++if k0 l s n=true∧fm (l.getD n [])=k then [n] else []:=by
 unfold fA;rw[AX,Q7];congr 1;by_cases h1:k0 l s n=true
 ·by_cases d : fm (l.getD n []) = k
  ·rw[if_pos ⟨h1,d⟩,AU,if_pos (by rw[h1,qj,decide_eq_true_eq]; exact d),Hu]
  ·rw[if_neg fun e=>d e.2,AU,if_neg (by rw[h1,qj,decide_eq_true_eq]; exact d),Hu]
 ·rw[if_neg fun e=>h1 e.1,AU,if_neg (by rw[ax]; exact fun e=>h1 e.1),Hu]
structure GI (l:List (List G)) (s:ByteArray) (n:Nat) (L:List (GK × List Nat)):Prop where
 Gr:oA L≤n
 len:L.length≤n
 nd:(L.map (·.1)).Nodup
 qa:∀ e∈L,e.2=fA l s e.1 n∧e.2≠[]
 all:∀ k,fA l s k n≠[]→∃ e∈L,e.1=k
theorem GI.zero(l:List (List G))(s:ByteArray):GI l s 0 []:=⟨aB _,aB _,by simp,by simp,fun k h=>(h rfl).elim⟩
theorem GI.step{l:List (List G)}{s:ByteArray}{n:Nat}{L:List (GK × List Nat)}(h:GI l s n L):GI l s (n+1) (mV l s L n):=by
 unfold mV;cases hw:k0 l s n with
 | false =>
  have e:∀ k,fA l s k (n+1)=fA l s k n:=fun k=>by rw[Gq,if_neg (by rw[hw]; simp),cO]
  exact⟨Q_ h.Gr,Q_ h.len,h.nd,fun x d=>by rw[e]; exact h.qa x d,fun k hk=>by rw[e]at hk; exact h.all k hk⟩
 | true =>
  rw[cond_true];have v:fA l s (fm (l.getD n [])) (n+1)=fA l s (fm (l.getD n [])) n++[n]:=by rw[Gq,if_pos ⟨hw,rfl⟩]
  have q:∀ k,fm (l.getD n [])≠k→fA l s k (n+1)=fA l s k n:=fun k hk=>by rw[Gq,if_neg (fun e=>hk e.2),cO]
  have I:=PJ (fm (l.getD n [])) n L;have U:=h.Gr;have M:=h.len;rcases Aq (fm (l.getD n [])) L with h1|⟨A,vs,B,rfl,J⟩
  ·rw [Ar n h1] at I ⊢
   refine⟨by omega,by simp; omega,?_,fun x d=>?_,fun k hk=>?_⟩
   ·rw [kA, afb]
    refine⟨h.nd,by simp,fun a ha b hb=>?_⟩;obtain⟨e,he,rfl⟩:=dD.1 ha;simp at hb;subst hb;exact h1 e he
   ·rcases cS.1 d with d | d
    ·rw [q x.1 (Ne.symm (h1 x d))]
     exact h.qa x d
    ·have d := List.mem_singleton.1 d
     subst d;show [n]=fA l s (fm (l.getD n [])) (n+1)∧[n]≠[]
     rw[v];have:fA l s (fm (l.getD n [])) n=[]:=by
      cases N:fA l s (fm (l.getD n [])) n with
      |nil=>rfl
      | cons y V =>
       obtain⟨e,he,hk⟩:=h.all (fm (l.getD n [])) (by rw[N]; simp);exact(h1 e he hk).elim
     rw[this];simp
   ·by_cases e : fm (l.getD n []) = k
    ·exact⟨_,wO _ cW,e⟩
    ·rw [q k e] at hk
     obtain⟨x,d,g⟩:=h.all k hk;exact⟨x,ql _ d,g⟩
  ·rw [Au n vs B J] at I ⊢
   have u:=h.nd;rw[kA,du]at u;have O:∀ e∈B,e.1≠fm (l.getD n []):=fun e he hk=>by
    have:=(afb.1 u).2.1;rw[List.nodup_cons]at this;exact this.1 (hk▸dD.2 ⟨e,he,rfl⟩)
   refine⟨by omega,by simp at M⊢; omega,?_,fun x d=>?_,fun k hk=>?_⟩
   ·rw [kA, du]
    exact u
   ·rcases cS.1 d with d | d
    ·rw [q x.1 (Ne.symm (J x d))]
     exact h.qa x (ql _ d)
    ·rcases bW.1 d with rfl | d
     ·have := h.qa (fm (l.getD n []), vs) (by simp)
      simp only at this⊢;rw[v,←this.1];simp
     ·rw [q x.1 (Ne.symm (O x d))]
      exact h.qa x (wO _ (c9 _ d))
   ·by_cases e : fm (l.getD n []) = k
    ·exact⟨_,wO _ cW,e⟩
    ·rw [q k e] at hk
     obtain⟨x,d,g⟩:=h.all k hk;rcases cS.1 d with d|d
     ·exact⟨x,ql _ d,g⟩
     ·rcases bW.1 d with rfl | d
      ·exact(e g).elim
      ·exact⟨x,wO _ (c9 _ d),g⟩
theorem GI.to(l:List (List G))(s:ByteArray):∀ n,GI l s n (lQ l s n)
 |0=>GI.zero l s
 | n+1=>by
  rw[PK];exact(GI.to l s n).step
def fB(l:List (List G))(s:ByteArray):List (GK × List Nat):=lQ l s l.length
theorem acP(l:List (List G))(B:l.length≤100000)(s:ByteArray) :
  jN sk [.l [],.i 0,.s s,.l l,.i (l.length:Int),.i 0] fun c g=>c=0∧g=[.l (bu 0 (fB l s)),.i ((fB l s).length:Int)]:=by
 have r:=za (st:=sk) (σ:=List (GK × List Nat)) (fun L i=>[.l (bu 0 L),.i (L.length:Int),.s s,.l l,.i (l.length:Int),.i (i:Int)]) l (fun L=>(0,[.l (bu 0 L),.i (L.length:Int)]))
  (fun L i=>L=lQ l s i) [] (by omega) rfl
  (fun L i z d hi q hm I => by
   have u:=GI.to l s i;rw[←d]at u;have J:=u.Gr;have k:mV l s L i=lQ l s (i+1):=by rw[PK,d]
   obtain⟨v,a2,a3,a4,a5⟩:=acO L (fm z) i;unfold sk
   (dsimp +instances only[Aa,Ab,Ac,Ad,Ae,Af,Ag])
   simp only[a_,q];refine aa.p (aa.p ?_);have y:([.s (gi z 2).str,.i (gi z 1).int]:List G)=dh (fm z):=rfl;rw[y,a4,a5];refine aa.test (fun h=>?_) fun h=>?_
   ·have e:mV l s L i=kl (fm z) i L:=by
     unfold mV k0;rw[q,show ((Gi z).toList==s.toList)=true from h,cond_true]
    rw[e]at k;exact aa.pos v (aa.pos (by simp; omega) (aa.pos (by rw[a3]; simp) (aa.p (aa.some ⟨_,rfl,k⟩))))
   ·have e:mV l s L i=L:=by
     unfold mV k0;rw[q,show ((Gi z).toList==s.toList)=false from h,cond_false]
    rw[e]at k;exact aa.p (aa.some ⟨L,rfl,k⟩))
  (fun L d => by
   unfold sk
   (dsimp +instances only[Aa,Ab,Ac,Ad,Ae,Af,Ag])
   simp only[a_];exact aa.n (aa.some rfl))
 refine r.mono ?_;rintro c g ⟨L,d,rfl,rfl⟩;exact⟨rfl,by rw[d]; rfl⟩
theorem PL:∀(i:Nat) (L:List (GK × List Nat)),yF (bu i L)=true
 |_,[]=>rfl
 | i,e::L=>by
  have:=PL (i+1) L;unfold yF at this⊢;rw[bu,List.all_cons,this];rfl
theorem PM(l:List (List G))(d:l.length≤100000)(s:ByteArray):vG [.l l,.s s]=some [.l (bu 0 (fB l s)),.i ((fB l s).length:Int)]:=by
 refine aa.toEq ?_;unfold vG
 (dsimp +instances only[Aa,Ab,Ac,Ad,Ae,Af,Ag])
 refine aa.loop (acP l d s) (by first|rfl|simp) ?_;rintro _ _ ⟨rfl,rfl⟩
 (dsimp +instances only[Aa,Ab,Ac,Ad,Ae,Af,Ag])
 simp only[a_];exact aa.pos (by rw[PL]; rfl) (aa.some rfl)
theorem acQ(l:List (List G))(s:ByteArray)(k:GK):aw [.str,.int .i64] (bu 0 (fB l s)) (dh k) [.l []]=[.l (bE (fA l s k l.length))]:=by
 have g:=GI.to l s l.length;show aw [.str,.int .i64] (bu 0 (lQ l s l.length)) (dh k) [.l []]=_
 rcases Aq k (lQ l s l.length)with h1|⟨A,vs,B,he,h⟩
 ·have:fA l s k l.length=[]:=by
   cases d:fA l s k l.length with
   |nil=>rfl
   | cons y u =>
    obtain⟨e,he,hk⟩:=g.all k (by rw[d]; simp);exact(h1 e he hk).elim
  unfold aw;rw[PF h1,this];rfl
 ·have q:bS [.str,.int .i64] (dh k) (bu 0 (lQ l s l.length)) 0=some (A.length,jl A.length (k,vs)):=by
   rw[he,sU,bu,cP];exact PG h 0 (jl A.length (k,vs)) rfl _
  have d:=g.qa (k,vs) (by rw[he]; simp);unfold aw;rw[q];show [G.l (bE vs)]=_
  rw[show vs=fA l s k l.length from d.1]
end
end Go.Proofs.fW
