/-
 What is proved here: what the methods of the stream give on data. No condition.
-/
import Derived.Test.YtnijefkndkgebaaGreatDoorML5
import Derived.Test.YtnijefkndkgebaaGreatDoorME
set_option linter.all false
open Bool renaming and_true→fT,and_eq_true→az,true_and→qa,not_eq_true'→mQ,not_true→Hx,eq_iff_iff→lY,or_false→HG
open Function renaming comp→HD
open Go.ByteArray renaming toList_eq→qf
open Go.Lib renaming compareBytes→gG
open Go.Op renaming bytesLess→lO
open Int renaming toNat_natCast→a8,tdiv→mU,tmod→je,tmod_lt_of_pos→aia,tmod_eq_emod_of_nonneg→aib,mul_nonneg→aic,le_refl→la,le_trans→AN,eq_ofNat_of_zero_le→aij
open List renaming length_cons→cD,append_nil→da,append_assoc→gF,length_map→dO,mem_map→dp,getElem?_map→ch,getElem_of_mem→ot,getElem?_eq_getElem→bL,getElem?_eq_none→lN,getElem?_set_self→bC,getElem?_set→dW,all_eq_true→cQ,getD_eq_getElem?_getD→ct,mem_cons→bY,map_cons→dx,cons_append→lR,ext_getElem?→jE,length_set→mM,length_append→fH,mem_append→cU,map_map→ox,nil_append→k0,replicate→bN,length_range→sT,mem_flatten→Ho,mem_cons_self→cY,mem_cons_of_mem→di,length_replicate→wm,map_append→ke,nodup_cons→lW,range→dI,mem_append_left→qc,any_eq_true→jF,mem_range→eO,mem_singleton→wy,length_nil→lZ,map_nil→sY,not_mem_nil→oD,getElem?_range→s8,getElem_mem→mT,mem_append_right→wB,filter_cons→HH,range_succ→HJ,pairwise_map→wE,pairwise_iff_getElem→HL,pairwise_cons→k_,any_cons→HO,eq_replicate_iff→aie,getElem?_replicate→aif,sum_cons→S3,foldl_append→aih,filter_nil→S4,nodup_append→aii,Nodup→S6,length_singleton→ail
open List.Pairwise renaming take→aiC
open Nat renaming le_refl→aD,le_trans→mI,zero_le→eC,lt_or_ge→jb,zero_add→cT,beq→ad,ble→dA,blt→ft,ble_eq→AJ,beq_refl→wC,exists_eq_add_of_le→AO,lt_trichotomy→S2,le_succ_of_le→S5,le_of_not_lt→aik
open Option renaming map_some→eM,getD_some→k9
open UInt8 renaming le_antisymm→S0,not_lt→wH,lt_irrefl→S1,lt_trans→aid
namespace Go.Proofs.iE
open Go Go.AL Go.Proofs
noncomputable section
theorem Gg(x n:Int)(h0:1≤n)(h1:n≤1099511627776):aa (rV [.i x,.i n]) fun g=>∃ v,g=[.i v]∧0≤v∧v<n:=by
 unfold rV
 (dsimp +instances only[Aa,Ab,Ac,Ad,Ae,Af,Ag])
 have ha:=aia x (by omega:0<n);have hb:=Int.lt_tmod_of_pos x (by omega:0<n)
 (repeat first|refine aa.p ?_|refine aa.n ?_)
 refine aa.test (fun h=>?_) fun h=>?_
 ·simp only [dS, decide_eq_true_eq] at h
  (repeat first|refine aa.p ?_|refine aa.n ?_)
  exact aa.some ⟨_,rfl,by omega,by omega⟩
 ·simp only [dS, decide_eq_false_iff_not] at h
  exact aa.some ⟨_,rfl,by omega,by omega⟩
theorem vM(l:List (List G))(a n:Int)(ha:0≤a)(J:a≤1000000)(h0:1≤n)(h1:n≤1099511627776) :
  aa (nS [.l l,.i a,.i n]) fun g=>∃ v,g=[.l l,.i (a+1),.i v]∧0≤v∧v<n:=by
 unfold nS
 (dsimp +instances only[Aa,Ab,Ac,Ad,Ae,Af,Ag])
 have y:a+1-1=a:=by omega
 simp only[y];by_cases M:l.length=0
 ·(repeat first|refine aa.p ?_|refine aa.n ?_)
  refine aa.call (Gg _ n h0 h1) ?_;rintro _ ⟨v,rfl,d,h⟩
  (dsimp +instances only[Aa,Ab,Ac,Ad,Ae,Af,Ag])
  exact aa.some ⟨v,rfl,d,h⟩
 ·have B : (0 : Int) < (l.length : Int) := by omega
  have d0:0≤mU a l.length:=Int.tdiv_nonneg ha (by omega);have d1:mU a l.length≤a:=by
   rw[Int.tdiv_eq_ediv_of_nonneg ha];exact Int.ediv_le_self _ ha
  have m0:0≤je a l.length:=by
   rw[aib ha];exact Int.emod_nonneg _ (by omega)
  have m1:je a l.length<l.length:=aia a B;have m2:je a l.length≤a:=by
   rw[aib ha];have:=Int.mul_ediv_add_emod a l.length;have k:0≤(l.length:Int)*(a / l.length):=aic (by omega) (Int.ediv_nonneg ha (by omega));omega
  generalize N:mU a l.length=q at *;generalize O:je a l.length=r at *;have p0:0≤q*(7919+r):=aic d0 (by omega);have p1:q*(7919+r)≤1000000*2000000:=Int.mul_le_mul (by omega) (by omega) (by omega) (by omega);generalize U:q*(7919+r)=z at *
  (repeat first|refine aa.p ?_|refine aa.n ?_)
  refine aa.call (Gg _ 1073741824 (by omega) (by omega)) ?_;rintro _ ⟨u,rfl,d,h⟩
  (dsimp +instances only[Aa,Ab,Ac,Ad,Ae,Af,Ag])
  (repeat first|refine aa.p ?_|refine aa.n ?_)
  refine aa.call (Gg _ n h0 h1) ?_;rintro _ ⟨v,rfl,k,I⟩
  (dsimp +instances only[Aa,Ab,Ac,Ad,Ae,Af,Ag])
  exact aa.some ⟨v,rfl,k,I⟩
theorem Gh(l:List (List G))(a lo hi:Int)(ha:0≤a)(d:a≤1000000)(h0:lo≤hi)(h1 : -1000000000≤lo)(h:hi≤1000000000) :
  aa (rW [.l l,.i a,.i lo,.i hi]) fun g=>∃ v,g=[.l l,.i (a+1),.i v]∧lo≤v∧v≤hi:=by
 unfold rW
 (dsimp +instances only[Aa,Ab,Ac,Ad,Ae,Af,Ag])
 (repeat first|refine aa.p ?_|refine aa.n ?_)
 refine aa.call (vM l a _ ha d (by omega) (by omega)) ?_;rintro _ ⟨v,rfl,k,q⟩
 (dsimp +instances only[Aa,Ab,Ac,Ad,Ae,Af,Ag])
 (repeat first|refine aa.p ?_|refine aa.n ?_)
 exact aa.some ⟨_,rfl,by omega,by omega⟩
theorem QT{l:List (List G)}{v:Int}(h0:0≤v)(h1:v<l.length):l.getD v.toNat []∈l:=by
 have:v.toNat<l.length:=by omega
 rw[ct,bL this];exact mT this
theorem afC(P:Int→Prop)(l:List (List G))(a:Int)(xs:List (List G))(ha:0≤a)(d:a≤1000000)(h0:1≤xs.length)(h1:xs.length≤1000000)(h:∀ x∈xs,P (gi x 0).int) :
  aa (pK [.l l,.i a,.l xs]) fun g=>∃ v,g=[.l l,.i (a+1),.i v]∧P v:=by
 unfold pK
 (dsimp +instances only[Aa,Ab,Ac,Ad,Ae,Af,Ag])
 refine aa.call (vM l a _ ha d (by omega) (by omega)) ?_;rintro _ ⟨v,rfl,k,q⟩
 (dsimp +instances only[Aa,Ab,Ac,Ad,Ae,Af,Ag])
 (repeat first|refine aa.p ?_|refine aa.n ?_)
 exact aa.some ⟨_,rfl,h _ (QT k q)⟩
theorem afD(P:ByteArray→Prop)(l:List (List G))(a:Int)(xs:List (List G))(ha:0≤a)(d:a≤1000000)(h0:1≤xs.length)(h1:xs.length≤1000000)(h:∀ x∈xs,P (gi x 0).str) :
  aa (lG [.l l,.i a,.l xs]) fun g=>∃ v,g=[.l l,.i (a+1),.s v]∧P v:=by
 unfold lG
 (dsimp +instances only[Aa,Ab,Ac,Ad,Ae,Af,Ag])
 refine aa.call (vM l a _ ha d (by omega) (by omega)) ?_;rintro _ ⟨v,rfl,k,q⟩
 (dsimp +instances only[Aa,Ab,Ac,Ad,Ae,Af,Ag])
 (repeat first|refine aa.p ?_|refine aa.n ?_)
 exact aa.some ⟨_,rfl,h _ (QT k q)⟩
theorem afE(l:List (List G))(a n:Int)(ha:0≤a)(d:a≤1000000)(h0:1≤n)(h1:n≤1000000) :
  aa (zl [.l l,.i a,.i n]) fun g=>∃ b,g=[.l l,.i (a+1),.t b]:=by
 unfold zl
 (dsimp +instances only[Aa,Ab,Ac,Ad,Ae,Af,Ag])
 refine aa.call (vM l a _ ha d (by omega) (by omega)) ?_;rintro _ ⟨v,rfl,h,k⟩;exact aa.some ⟨_,rfl⟩
def j0(L:List ByteArray)(s:ByteArray):Bool:=L.any fun x=>mD x s
theorem zV{L:List ByteArray}{s:ByteArray}(h:j0 L s=true):s∈L:=by
 obtain⟨x,d,he⟩:=jF.1 h;exact L5 he▸d
theorem Gi(lo hi:Int)(l:List (List G))(a:Int)(xs:List (List G))(ha:0≤a)(d:a≤1000000)(h0:(dA 1 xs.length&&dA xs.length 1000000)=true) (h:(xs.all fun x=>a_ lo (gi x 0).int&&a_ (gi x 0).int hi)=true) :
  aa (pK [.l l,.i a,.l xs]) fun g=>∃ v,g=[.l l,.i (a+1),.i v]∧lo≤v∧v≤hi:=by
 simp only[az,AJ]at h0;refine afC (fun v=>lo≤v∧v≤hi) l a xs ha d h0.1 h0.2 fun x k=>?_;have:=cQ.1 h x k;simpa only[fu,az,decide_eq_true_eq]using this
theorem sB(L:List ByteArray)(l:List (List G))(a:Int)(xs:List (List G))(ha:0≤a)(d:a≤1000000)(h0:(dA 1 xs.length&&dA xs.length 1000000)=true) (h:(xs.all fun x=>j0 L (gi x 0).str)=true) :
  aa (lG [.l l,.i a,.l xs]) fun g=>∃ v,g=[.l l,.i (a+1),.s v]∧v∈L:=by
 simp only[az,AJ]at h0;exact afD (fun v=>v∈L) l a xs ha d h0.1 h0.2 fun x k=>zV (cQ.1 h x k)
def calls:List ByteArray:=[⟨#[]⟩,⟨#[107,49]⟩,⟨#[75,49,65,66]⟩,⟨#[107,49,97,98,47]⟩,⟨#[49,97]⟩,⟨#[107,49,97,98,47,109,109,47,112]⟩,⟨#[107,49,97,98]⟩,⟨#[107,49,97,97]⟩,⟨#[107,49,97,98,47,52]⟩,
 ⟨#[111,104,50,97,98,99]⟩,⟨#[111,104,50,97,98,100]⟩,⟨#[119,49,97,119]⟩,⟨#[110,49,109,109]⟩,⟨#[103,51,120,121,122,47,112]⟩,⟨#[119,49,97,120]⟩]
def kP:List ByteArray:=[⟨#[]⟩,⟨#[66]⟩,⟨#[98,50,48]⟩,⟨#[98,52,48]⟩]
def names:List ByteArray:=[⟨#[]⟩,⟨#[65]⟩,⟨#[49]⟩,⟨#[102,105,110]⟩,⟨#[117,115,97]⟩,⟨#[120]⟩]
def small(n:Int):Prop := -2000000000000≤n∧n≤2000000000000
def dn(r:List G):Prop:=∃(t m:Int) (b c:ByteArray) (s h:Int) (x y:ByteArray),r=[.i t,.i m,.s b,.s c,.i s,.i h,.s x,.s y]∧small t∧small m∧small s∧small h∧b∈kP∧c∈calls∧x∈names∧y∈names
def tight(n:Int):Prop := -1900000000000≤n∧n≤1900000000000
def zW(n:Int):Prop := -1900000000000≤n∧(n≤345000000000∨(345686399999<n∧n≤1900000000000))
def QU(r:List G):Prop:=∃(t m:Int) (b c:ByteArray) (s h:Int) (x y:ByteArray),r=[.i t,.i m,.s b,.s c,.i s,.i h,.s x,.s y]∧zW t∧tight m∧tight s∧tight h∧b∈kP∧c∈calls∧x∈names∧y∈names
theorem tight.to{n:Int}(h:tight n):small n:=⟨by have:=h.1; omega,by have:=h.2; omega⟩
theorem zW.to{n:Int}(h:zW n):small n:=by
 unfold zW at h;exact⟨by omega,by omega⟩
theorem QU.to{r:List G}(h:QU r):dn r:=by
 obtain⟨t,m,b,c,s,h,x,y,e,h1,d,g,k,q⟩:=h;exact⟨t,m,b,c,s,h,x,y,e,h1.to,d.to,g.to,k.to,q⟩
theorem dn.eta{r:List G}(h:dn r):aF [.int .i64,.int .i64,.str,.str,.int .i64,.int .i64,.str,.str] r=r:=by
 obtain⟨t,m,b,c,s,h,x,y,rfl,_⟩:=h;rfl
def fC(a b:Int):Int:=if a<b then -1 else if b<a then 1 else 0
theorem QV:∀{a b:List UInt8},gG a b=0→a=b
 | [],[],_=>rfl
 | [],_::_,h=>by simp[gG]at h
 |_::_,[],h=>by simp[gG]at h
 | x::a,y::b,h=>by
  unfold gG at h;split at h
  ·cases h
  ·split at h
   ·cases h
   ·rename_i h1 d
    rw[QV h,S0 (wH.1 d) (wH.1 h1)]
theorem QW:∀ a:List UInt8,gG a a=0
 | []=>rfl
 |x::a=>by simp[gG,QW a]
theorem Gj(a b:ByteArray):(a.toList==b.toList)=decide (dL a b=0):=by
 rw[qf,qf,lY,decide_eq_true_eq,beq_iff_eq];constructor
 ·intro h
  unfold dL;rw[h];exact QW _
 ·exact fun h=>QV h
def sC(a b c d:Int):Int:=if a≠0 then a else if b≠0 then b else if c≠0 then c else d
def bS(r s:List G):Int:=sC (fC (gi r 0).int (gi s 0).int) (dL (gi r 3).str (gi s 3).str) (dL (gi r 2).str (gi s 2).str) (fC (gi r 1).int (gi s 1).int)
theorem sign_eq(a b:Int):vg [.i (a-b)]=some [.i (fC a b)]:=by
 refine aa.toEq ?_;unfold vg fC
 (dsimp +instances only[Aa,Ab,Ac,Ad,Ae,Af,Ag])
 by_cases h1:a<b
 ·(repeat first|refine aa.p ?_|refine aa.n ?_)
  exact aa.some (by simp[h1])
 ·by_cases d : b < a
  ·(repeat first|refine aa.p ?_|refine aa.n ?_)
   exact aa.some (by simp[h1,d])
  ·(repeat first|refine aa.p ?_|refine aa.n ?_)
   exact aa.some (by simp[h1,d])
theorem Gk{r s:List G}(q:dn r)(u:dn s):pL [.l [r],.l [s]]=some [.i (bS r s)]:=by
 obtain⟨t,m,b,c,_,_,_,_,rfl,I,hm,_⟩:=q;obtain⟨t',m',d,g,_,_,_,_,rfl,y,B,_⟩:=u;unfold small at *;refine aa.toEq ?_;unfold pL bS sC
 (dsimp +instances only[Aa,Ab,Ac,Ad,Ae,Af,Ag])
 simp only[Gj];by_cases v:t=t'
 ·subst v
  have z:fC t t=0:=by simp[fC]
  simp only[z]
  (repeat first|refine aa.p ?_|refine aa.n ?_)
  by_cases h:dL c g=0
  ·simp only [h]
   (repeat first|refine aa.p ?_|refine aa.n ?_)
   by_cases k:dL b d=0
   ·simp only [k]
    (repeat first|refine aa.p ?_|refine aa.n ?_)
    refine aa.cE (sign_eq m m') ?_
    (dsimp +instances only[Aa,Ab,Ac,Ad,Ae,Af,Ag])
    exact aa.some (by simp)
   ·refine aa.pos (by simpa using k) (aa.call (aa.eq (rfl : ij [.s b, .s d] = some [.i (dL b d)])) ?_)
    rintro _ rfl
    (dsimp +instances only[Aa,Ab,Ac,Ad,Ae,Af,Ag])
    exact aa.some (by simp[k])
  ·refine aa.pos (by simpa using h) (aa.call (aa.eq (rfl : ij [.s c, .s g] = some [.i (dL c g)])) ?_)
   rintro _ rfl
   (dsimp +instances only[Aa,Ab,Ac,Ad,Ae,Af,Ag])
   exact aa.some (by simp[h])
 ·(repeat first|refine aa.p ?_|refine aa.n ?_)
  refine aa.cE (sign_eq t t') ?_
  (dsimp +instances only[Aa,Ab,Ac,Ad,Ae,Af,Ag])
  have z:fC t t'≠0:=by
   unfold fC;split
   ·omega
   ·split<;>omega
  exact aa.some (by simp[z])
theorem QX(a b:Int):rS [.i a,.i b]=some [.i (fC a b)]:=by
 refine aa.toEq ?_;unfold rS zd fC
 (dsimp +instances only[Aa,Ab,Ac,Ad,Ae,Af,Ag])
 simp only[bne_self_eq_false];refine aa.call ⟨_,rfl,rfl⟩ ?_;rintro _ rfl;refine aa.call ⟨_,rfl,rfl⟩ ?_;rintro _ rfl
 (dsimp +instances only[Aa,Ab,Ac,Ad,Ae,Af,Ag])
 (repeat first|refine aa.p ?_|refine aa.n ?_)
 by_cases h1:a<b
 ·(repeat first|refine aa.p ?_|refine aa.n ?_)
  exact aa.some (by simp[h1])
 ·by_cases d : b < a
  ·(repeat first|refine aa.p ?_|refine aa.n ?_)
   exact aa.some (by simp[h1,d])
  ·(repeat first|refine aa.p ?_|refine aa.n ?_)
   exact aa.some (by simp[h1,d])
def nZ:List (List G)→Int
 | []=>0
 |x::q=>if (gi x 0).int≠0 then (gi x 0).int else nZ q
theorem QY:∀(q p:List (List G)),p.length+q.length<100000 →
  aZ rT [.i 0,.l (p++q),.i ((p.length+q.length:Nat):Int),.i (p.length:Int)] (q.length+1) fun c g=>c≤1∧g=[.i (nZ q)]
 | [],p,d=>by
  refine aZ.stop (x:=1) (aa.toEq ?_) ⟨by omega,rfl⟩;unfold rT
  (dsimp +instances only[Aa,Ab,Ac,Ad,Ae,Af,Ag])
  (repeat first|refine aa.p ?_|refine aa.n ?_)
  exact aa.some rfl
 | y::q,p,d=>by
  simp only[cD]at d;have g1:(p++y::q).getD (p.length:Int).toNat []=y:=jZ _ _ _ _ _ (by simp);have hlen:(p++y::q).length=p.length+q.length+1:=by simp; omega
  by_cases he:(gi y 0).int=0
  ·have h := QY q (p ++ [y]) (by simp; omega)
   have e:nZ (y::q)=nZ q:=by simp[nZ,he]
   rw[e];refine aZ.next (aa.toEq ?_) h
   unfold rT
   (dsimp +instances only[Aa,Ab,Ac,Ad,Ae,Af,Ag])
   simp only[g1,hlen,cD]
   (repeat first|refine aa.p ?_|refine aa.n ?_)
   refine aa.some ?_;simp;omega
  ·refine aZ.stop (x := 0) (aa.toEq ?_) ⟨by omega, rfl⟩
   unfold rT
   (dsimp +instances only[Aa,Ab,Ac,Ad,Ae,Af,Ag])
   simp only[g1,hlen,cD]
   (repeat first|refine aa.p ?_|refine aa.n ?_)
   refine aa.some ?_;simp[nZ,he]
theorem or_eq(a b c d:Int):pI [.l [[.i a],[.i b],[.i c],[.i d]]]=some [.i (sC a b c d)]:=by
 refine aa.toEq ?_;unfold pI
 (dsimp +instances only[Aa,Ab,Ac,Ad,Ae,Af,Ag])
 have h:=QY [[.i a],[.i b],[.i c],[.i d]] [] (by simp);refine aa.loop (h.to (by simp)) (by(first|rfl|assumption|(simp only[aq,sl]<;>omega))) ?_;rintro x g ⟨v,rfl⟩;have e:nZ [[.i a],[.i b],[.i c],[.i d]]=sC a b c d:=by
  simp only[nZ,sC]
  (dsimp +instances only[Aa,Ab,Ac,Ad,Ae,Af,Ag])
  by_cases h1:a=0<;>by_cases k:b=0<;>by_cases q:c=0<;>by_cases u:d=0<;>simp[h1,k,q,u]
 rw[e]
 (dsimp +instances only[Aa,Ab,Ac,Ad,Ae,Af,Ag])
 exact aa.test (fun _=>aa.some rfl) fun _=>aa.some rfl
theorem Gl{r s:List G}(h:dn r)(k:dn s):pJ [.l [r],.l [s]]=some [.i (bS r s)]:=by
 obtain⟨t,m,b,c,_,_,_,_,rfl,v,hm,_⟩:=h;obtain⟨t',m',d,g,_,_,_,_,rfl,q,u,_⟩:=k;refine aa.toEq ?_;unfold pJ
 (dsimp +instances only[Aa,Ab,Ac,Ad,Ae,Af,Ag])
 refine aa.cE (QX t t') ?_;refine aa.cE (rfl:ij [.s c,.s g]=some [.i (dL c g)]) ?_;refine aa.cE (rfl:ij [.s b,.s d]=some [.i (dL b d)]) ?_;refine aa.cE (QX m m') ?_
 (dsimp +instances only[Aa,Ab,Ac,Ad,Ae,Af,Ag])
 refine aa.cE (or_eq _ _ _ _) ?_;exact aa.some rfl
theorem afF:pD [.int .i64,.int .i64,.str,.str,.int .i64,.int .i64,.str,.str] pL dn bS:=⟨fun _ _ d g=>Gk d g,fun _ h=>h.eta⟩
theorem afG:pD [.int .i64,.int .i64,.str,.str,.int .i64,.int .i64,.str,.str] pJ dn bS:=⟨fun _ _ d g=>Gl d g,fun _ h=>h.eta⟩
def eb(v lo hi:Int):Bool:=a_ lo v&&a_ v hi
theorem afH(v lo hi:Int):nU [.i v,.i lo,.i hi]=some [.t (eb v lo hi)]:=by
 unfold nU eb
 (dsimp +instances only[Aa,Ab,Ac,Ad,Ae,Af,Ag])
 cases a_ lo v<;>rfl
theorem vN(v lo hi:Int):mE [.i v,.i lo,.i hi]=some [.t (!eb v lo hi)]:=by
 unfold mE eb
 (dsimp +instances only[Aa,Ab,Ac,Ad,Ae,Af,Ag])
 have h1:ai v lo = !a_ lo v:=by rw[dS,fu,lY]; simp
 have d:ai hi v = !a_ v hi:=by rw[dS,fu,lY]; simp
 rw[h1,d];cases a_ lo v<;>cases a_ v hi<;>rfl
def kQ(s:ByteArray):Bool:=j0 [⟨#[98,50,48]⟩,⟨#[98,52,48]⟩,⟨#[102,105,110]⟩,⟨#[117,115,97]⟩,⟨#[120]⟩] s
def j5(s:ByteArray):Bool:=j0 [⟨#[]⟩] s||kQ s
def jA(s:ByteArray):Bool:=(gi ((rR [.s s]).getD []) 0).bool
theorem afI{s:ByteArray}(h:s∈kP∨s∈names):rQ [.s s]=some [.t (kQ s)]:=by
 simp only[kP,names,bY,oD,or_false]at h;rcases h with(rfl|rfl|rfl|rfl)|(rfl|rfl|rfl|rfl|rfl|rfl)<;>kernel_rfl
theorem Gm{s:ByteArray}(h:s∈kP∨s∈names):r8 [.s s]=some [.t (kQ s)]:=by
 simp only[kP,names,bY,oD,or_false]at h;rcases h with(rfl|rfl|rfl|rfl)|(rfl|rfl|rfl|rfl|rfl|rfl)<;>kernel_rfl
theorem QZ{s:ByteArray}(h:s∈names):za [.s s]=some [.t (j5 s)]:=by
 simp only[names,bY,oD,or_false]at h;rcases h with(rfl|rfl|rfl|rfl|rfl|rfl)<;>kernel_rfl
theorem Q0{s:ByteArray}(h:s∈calls):rR [.s s]=some [.t (jA s)]:=by
 simp only[calls,bY,oD,or_false]at h;rcases h with(rfl|rfl|rfl|rfl|rfl|rfl|rfl|rfl|rfl|rfl|rfl|rfl|rfl|rfl|rfl)<;>kernel_rfl
theorem Gn{s:ByteArray}(h:s∈calls):vl [.s s]=some [.t (jA s)]:=by
 simp only[calls,bY,oD,or_false]at h;rcases h with(rfl|rfl|rfl|rfl|rfl|rfl|rfl|rfl|rfl|rfl|rfl|rfl|rfl|rfl|rfl)<;>kernel_rfl
def fQ(r:List G):Int :=
 bif !eb (gi r 0).int 0 345686399999 then 1 else bif !eb (gi r 1).int 1 3 then 4 else bif !kQ (gi r 2).str then 5 else bif !jA (gi r 3).str then 3 else
 bif !eb (gi r 4).int 0 99999 then 1 else bif !eb (gi r 5).int 0 99999 then 1 else bif !j5 (gi r 6).str then 5 else bif !j5 (gi r 7).str then 5 else 0
theorem afJ{r:List G}(d:dn r):zb [.l [r]]=some [.i (fQ r)]:=by
 obtain⟨t,m,b,c,s,h,x,y,rfl,_,_,_,_,hb,g,k,q⟩:=d;unfold zb Dp Ds fQ
 (dsimp +instances only[Aa,Ab,Ac,Ad,Ae,Af,Ag])
 have u:=afI (.inl hb);have v:=QZ k;have B:=QZ q;have I:=Q0 g;rw[vN t,vN m];rw[u,I,vN s,vN h,v,B];generalize eb t 0 345686399999=b1;generalize eb m 1 3=J;generalize kQ b=M;generalize jA c=N;generalize eb s 0 99999=O;generalize eb h 0 99999=U;generalize j5 x=V;generalize j5 y=W;cases b1<;>cases J<;>cases M<;>cases N<;>cases O<;>cases U<;>cases V<;>cases W<;>rfl
theorem empty_eq(s:ByteArray):(s.toList==(⟨#[]⟩:ByteArray).toList)=j0 [⟨#[]⟩] s:=by
 rw[qf,qf];simp only[j0,mD,HO,List.any_nil,HG];rw[lY];simp only[beq_iff_eq];exact eq_comm
theorem afK{r:List G}(k:dn r):zp [.l [r]]=some [.i (fQ r)]:=by
 obtain⟨t,m,b,c,s,h,x,y,rfl,_,_,_,_,hb,q,u,v⟩:=k;unfold zp EC fQ j5
 (dsimp +instances only[Aa,Ab,Ac,Ad,Ae,Af,Ag])
 have B:=Gm (.inl hb);have I:=Gm (.inr u);have J:=Gm (.inr v);have M:=Gn q;have ex:=empty_eq x;have d:=empty_eq y;generalize (⟨#[]⟩:ByteArray)=z at ex d⊢;simp only[afH,WN rfl,B,M,I,J]
 (dsimp +instances only[Aa,Ab,Ac,Ad,Ae,Af,Ag])
 rw[ex,d];generalize eb t 0 345686399999=b1;generalize eb m 1 3=N;generalize kQ b=O;generalize jA c=U;generalize eb s 0 99999=V;generalize eb h 0 99999=W;generalize kQ x=b7;generalize kQ y=b8;generalize j0 [z] x=b9;generalize j0 [z] y=g;cases b1<;>cases N<;>cases O<;>cases U<;>cases V<;>cases W<;>cases b7<;>cases b8<;>cases b9<;>cases g<;>rfl
def pQ(K:List Kd)(C D:List G→Option (List G))(d:List G):Option (Option Nat × List G) :=
 (bif (ai (gi d 3).int (gi d 2).int) then (bif ((aw (gi d 3).int)&&(ai (gi d 3).int (((gi d 1).rows.length:Nat):Int))) then (aA (C [.l [(aF K ((gi d 1).rows.getD (((gi d 3).int).toNat) []))]]) fun g1=>(bif ((gi g1 0).int != 0) then some (some 0,[.i (gi g1 0).int]) else (bif (ai 0 (gi d 3).int) then (bif (aq ((gi d 3).int-1)) then (bif ((aw ((gi d 3).int-1))&&(ai ((gi d 3).int-1) (((gi d 0).rows.length:Nat):Int))) then (aA (D [.l [(aF K ((gi d 0).rows.getD (((gi d 3).int-1).toNat) []))],.l [(aF K ((gi d 1).rows.getD (((gi d 3).int).toNat) []))]]) fun g2=>(bif (a_ 0 (gi g2 0).int) then some (some 0,[.i 7]) else (bif (aq ((gi d 3).int+1)) then some (none,[.l (gi d 0).rows,.l (gi d 1).rows,.i (gi d 2).int,.i ((gi d 3).int+1)]) else none))) else none) else none) else (bif (aq ((gi d 3).int+1)) then some (none,[.l (gi d 0).rows,.l (gi d 1).rows,.i (gi d 2).int,.i ((gi d 3).int+1)]) else none)))) else none) else some (some 1,[]))
def Q1(K:List Kd)(C D:List G→Option (List G))(d:List G):Option (List G) :=
 (bif (ai 2000 (((gi d 0).rows.length:Nat):Int)) then some [.i 2] else (aN true (bG (pQ K C D) [.l (gi d 0).rows,.l (gi d 0).rows,.i (((gi d 0).rows.length:Nat):Int),.i 0]) fun g g3=>(bif ad g 0 then some [.i (gi g3 0).int] else some [.i 0])))
def eA:Option (List G)→List (List G)→Int
 |_,[]=>0
 |none,x::q=>if fQ x≠0 then fQ x else eA (some x) q
 |some y,x::q=>if fQ x≠0 then fQ x else if 0≤bS y x then 7 else eA (some x) q
def gN(l:List (List G)):Int:=if 2000<l.length then 2 else eA none l
section
variable {C D:List G→Option (List G)} (hC:∀ r,dn r→C [.l [r]]=some [.i (fQ r)]) (hD:∀ r s,dn r→dn s→D [.l [r],.l [s]]=some [.i (bS r s)])
include hC hD
theorem Q2:∀(q p:List (List G)),(∀ z∈p++q,dn z)→p.length+q.length<100000 →
  aZ (pQ [.int .i64,.int .i64,.str,.str,.int .i64,.int .i64,.str,.str] C D) [.l (p++q),.l (p++q),.i ((p.length+q.length:Nat):Int),.i (p.length:Int)] (q.length+1) fun c g=>(c=0∧g=[.i (eA p.getLast? q)])∨c=1∧eA p.getLast? q=0
 | [],p,k,B=>by
  refine aZ.stop (x:=1) (d':=[]) (aa.toEq ?_) (.inr ⟨rfl,by unfold eA; rfl⟩);unfold pQ
  (dsimp +instances only[Aa,Ab,Ac,Ad,Ae,Af,Ag])
  (repeat first|refine aa.p ?_|refine aa.n ?_)
  exact aa.some rfl
 | x::q,p,k,B=>by
  simp only[cD]at B;have d:dn x:=k x (by simp);have g1:(p++x::q).getD (p.length:Int).toNat []=x:=jZ _ _ _ _ _ (by simp);have hlen:(p++x::q).length=p.length+q.length+1:=by simp; omega
  by_cases h:fQ x=0
  ·have v := Q2 q (p ++ [x]) (by simpa using k) (by simp; omega)
   rw[List.getLast?_concat]at v;rcases List.eq_nil_or_concat p with rfl|⟨p',y,rfl⟩
   ·have e : eA ([] : List (List G)).getLast? (x :: q) = eA (some x) q := by simp [eA, h]
    rw[e];refine aZ.next (aa.toEq ?_) v
    unfold pQ
    (dsimp +instances only[Aa,Ab,Ac,Ad,Ae,Af,Ag])
    simp only[g1,hlen,cD,d.eta]
    (repeat first|refine aa.p ?_|refine aa.n ?_)
    refine aa.cE (hC x d) ?_
    (dsimp +instances only[Aa,Ab,Ac,Ad,Ae,Af,Ag])
    simp only[h]
    (repeat first|refine aa.p ?_|refine aa.n ?_)
    refine aa.some ?_;simp;omega
   ·rw [List.concat_eq_append] at *
    have u:dn y:=k y (by simp);have g2:((p'++[y])++x::q).getD (((p'++[y]).length:Int)-1).toNat []=y:=by
     have e:(p'++[y])++x::q=p'++y::x::q:=by simp
     rw[e]; exact jZ _ _ _ _ _ (by simp)
    have J:(p'++[y]).length=p'.length+1:=by simp
    have I:(p'++[y]).getLast? = some y:=by simp
    rw[I];by_cases ho:0≤bS y x
    ·refine aZ.stop (x := 0) (d' := [.i 7]) (aa.toEq ?_) (.inl ⟨rfl, by simp [eA, h, ho]⟩)
     unfold pQ
     (dsimp +instances only[Aa,Ab,Ac,Ad,Ae,Af,Ag])
     simp only[g1,g2,hlen,cD,d.eta,u.eta]
     (repeat first|refine aa.p ?_|refine aa.n ?_)
     refine aa.cE (hC x d) ?_
     (dsimp +instances only[Aa,Ab,Ac,Ad,Ae,Af,Ag])
     simp only[h]
     (repeat first|refine aa.p ?_|refine aa.n ?_)
     refine aa.cE (hD y x u d) ?_
     (dsimp +instances only[Aa,Ab,Ac,Ad,Ae,Af,Ag])
     (repeat first|refine aa.p ?_|refine aa.n ?_)
     exact aa.some rfl
    ·have e : eA (some y) (x :: q) = eA (some x) q := by simp [eA, h, ho]
     rw[e];refine aZ.next (aa.toEq ?_) v
     unfold pQ
     (dsimp +instances only[Aa,Ab,Ac,Ad,Ae,Af,Ag])
     simp only[g1,g2,hlen,cD,d.eta,u.eta]
     (repeat first|refine aa.p ?_|refine aa.n ?_)
     refine aa.cE (hC x d) ?_
     (dsimp +instances only[Aa,Ab,Ac,Ad,Ae,Af,Ag])
     simp only[h]
     (repeat first|refine aa.p ?_|refine aa.n ?_)
     refine aa.cE (hD y x u d) ?_
     (dsimp +instances only[Aa,Ab,Ac,Ad,Ae,Af,Ag])
     (repeat first|refine aa.p ?_|refine aa.n ?_)
     refine aa.some ?_;simp;omega
  ·refine aZ.stop (x := 0) (d' := [.i (fQ x)]) (aa.toEq ?_) (.inl ⟨rfl, by cases M : p.getLast? <;> simp [eA, h]⟩)
   unfold pQ
   (dsimp +instances only[Aa,Ab,Ac,Ad,Ae,Af,Ag])
   simp only[g1,hlen,cD,d.eta]
   (repeat first|refine aa.p ?_|refine aa.n ?_)
   refine aa.cE (hC x d) ?_
   (dsimp +instances only[Aa,Ab,Ac,Ad,Ae,Af,Ag])
   refine aa.pos (by simpa using h) (aa.some rfl)
theorem Q3(l:List (List G))(d:∀ z∈l,dn z)(k:l.length<100000):Q1 [.int .i64,.int .i64,.str,.str,.int .i64,.int .i64,.str,.str] C D [.l l]=some [.i (gN l)]:=by
 refine aa.toEq ?_;unfold Q1 gN
 (dsimp +instances only[Aa,Ab,Ac,Ad,Ae,Af,Ag])
 by_cases h:2000<l.length
 ·(repeat first|refine aa.p ?_|refine aa.n ?_)
  exact aa.some (by simp[h])
 ·(repeat first|refine aa.p ?_|refine aa.n ?_)
  have h1:=Q2 hC hD l [] (by simpa using d) (by simpa using k);have h0:((0:Nat):Int)=0:=rfl;simp only[k0,lZ,cT,h0]at h1;refine aa.loop (h1.to (by omega)) (by(first|rfl|assumption|(simp only[aq,sl]<;>omega))) ?_;rintro c g (⟨rfl,rfl⟩|⟨rfl,q⟩)
  ·(dsimp +instances only [Aa,Ab,Ac,Ad,Ae,Af,Ag])
   (repeat first|refine aa.p ?_|refine aa.n ?_)
   refine aa.some ?_;rw[if_neg h];rfl
  ·(repeat first|refine aa.p ?_|refine aa.n ?_)
   refine aa.some ?_;rw[if_neg h];exact congrArg (fun z=>[G.i z]) q.symm
end
theorem afL(l:List (List G))(d:∀ z∈l,dn z)(g:l.length<100000):ze [.l l]=some [.i (gN l)] :=
 Q3 (fun _ h=>afJ h) (fun _ _ h h'=>Gl h h') l d g
theorem Q4(l:List (List G))(d:∀ z∈l,dn z)(g:l.length<100000):zq [.l l]=some [.i (gN l)] :=
 Q3 (fun _ h=>afK h) (fun _ _ h h'=>Gk h h') l d g
theorem afM(rows:List (List G))(d:∀ y∈rows,dn y)(g:rows.length≤20):zO [.l rows]=some [.l (cP (bF bS) rows)] :=
 LP afG rows d g
def iW(r s:List G):Bool:=bS r s==0
def zC:List G:=[.i 0,.i 0,.s (⟨#[]⟩:ByteArray),.s (⟨#[]⟩:ByteArray),.i 0,.i 0,.s (⟨#[]⟩:ByteArray),.s (⟨#[]⟩:ByteArray)]
theorem Q5:∀ a b:List UInt8,gG b a = - gG a b
 | [],[]=>rfl
 | [],_::_=>rfl
 |_::_,[]=>rfl
 | a::xs,b::g=>by
  simp only[gG];have k:=Q5 xs g;by_cases h1:a<b
  ·have d : ¬ b < a := fun h => S1 a (aid h1 h)
   simp[h1,d]
  ·by_cases d : b < a
   ·simp[h1,d]
   ·simp[h1,d,k]
theorem Q6:∀{a b c:List UInt8},gG a b<0→gG b c<0→gG a c<0
 | [],[],_,h,_=>by simp[gG]at h
 | [],_::_,[],_,h=>by simp[gG]at h
 | [],_::_,_::_,_,_=>by simp[gG]
 |_::_,[],_,h,_=>by simp[gG]at h
 |_::_,_::_,[],_,h=>by simp[gG]at h
 | a::xs,b::B,c::I,h1,d=>by
  simp only[gG]at h1 d⊢;by_cases g:a<b
  ·by_cases k : b < c
   ·rw [if_pos (aid g k)]
    omega
   ·by_cases u : c < b
    ·rw [if_neg k, if_pos u] at d
     omega
    ·have e : b = c := S0 (wH.1 u) (wH.1 k)
     subst e;rw[if_pos g];omega
  ·by_cases v : b < a
   ·rw [if_neg g, if_pos v] at h1
    omega
   ·have e : a = b := S0 (wH.1 v) (wH.1 g)
    subst e;rw[if_neg (S1 a),if_neg (S1 a)]at h1;by_cases q:a<c
    ·rw [if_pos q]
     omega
    ·by_cases y : c < a
     ·rw [if_neg q, if_pos y] at d
      omega
     ·rw [if_neg q, if_neg y] at d ⊢
      exact Q6 h1 d
theorem Q7{a b:ByteArray}(h:(a.toList==b.toList)=true):a=b:=by
 rw[qf,qf,beq_iff_eq]at h;exact ByteArray.ext (Array.toList_inj.1 h)
theorem pR{a b:ByteArray}:dL a b=0↔a=b:=by
 have h:=Gj a b;constructor
 ·intro e
  rw[decide_eq_true (p:=dL a b=0) e]at h;exact Q7 h
 ·rintro rfl
  have d:(a.toList==a.toList)=true:=by simp
  rw[d]at h;exact of_decide_eq_true h.symm
theorem afN{a b:Int}:fC a b=0↔a=b:=by
 unfold fC;constructor
 ·intro h
  split at h
  ·omega
  ·split at h<;>omega
 ·rintro rfl
  simp
theorem sD{a b:Int}:fC a b<0↔a<b:=by
 unfold fC;constructor
 ·intro h
  split at h
  ·assumption
  ·split at h<;>omega
 ·intro h
  rw[if_pos h];omega
theorem pS(a b:ByteArray):(a.toList==b.toList)=decide (a=b):=by
 rw[Gj,lY,decide_eq_true_eq,decide_eq_true_eq];exact pR
structure n3 {α:Type} (c:α→α→Int):Prop where
 flip:∀ a b,c b a = - c a b
 eq:∀ a b,c a b=0→a=b
 tr:∀ a b d,c a b<0→c b d<0→c a d<0
theorem n4:n3 fC:=⟨fun a b=>by unfold fC; split<;>split<;>first|omega|(split<;>omega)|skip,fun a b h=>afN.1 h,fun a b d h1 g=>sD.2 (Int.lt_trans (sD.1 h1) (sD.1 g))⟩
theorem n5:n3 dL:=⟨fun a b=>Q5 _ _,fun a b h=>pR.1 h,fun a b d h1 g=>Q6 h1 g⟩
theorem n3.le{α:Type}{c:α→α→Int}(h:n3 c)(a b d:α)(h1:c a b≤0)(g:c b d≤0):c a d≤0:=by
 by_cases k:c a b=0
 ·rw [h.eq a b k]
  exact g
 ·by_cases q : c b d = 0
  ·rw [← h.eq b d q]
   exact h1
  ·have := h.tr a b d (by omega) (by omega)
   omega
theorem n3.refl{α:Type}{c:α→α→Int}(h:n3 c)(a:α):c a a=0:=by
 have:=h.flip a a;omega
def iX(a b:Int):Int:=if a≠0 then a else b
theorem Gp{α:Type}{c:α→α→Int}(h:n3 c)(a b d:α)(x y z:Int)(h1:iX (c a b) x≤0)(g:iX (c b d) y≤0)(u:x≤0→y≤0→z≤0):iX (c a d) z≤0:=by
 unfold iX at *;by_cases q:c a b=0
 ·have e := h.eq a b q
  subst e;rw[if_neg (by simpa using q)]at h1;by_cases k:c a d=0
  ·rw [if_neg (by simpa using k)] at g ⊢
   exact u h1 g
  ·rw [if_pos k] at g ⊢
   exact g
 ·rw [if_pos q] at h1
  by_cases k:c b d=0
  ·have e := h.eq b d k
   subst e;rw[if_pos q];exact h1
  ·rw [if_pos k] at g
   have:=h.tr a b d (by omega) (by omega);rw[if_pos (by omega)];omega
theorem Gq{α:Type}{c:α→α→Int}(h:n3 c)(a b d:α)(x y z:Int)(h1:iX (c a b) x<0)(g:iX (c b d) y<0)(u:x<0→y<0→z<0):iX (c a d) z<0:=by
 unfold iX at *;by_cases q:c a b=0
 ·have e := h.eq a b q
  subst e;rw[if_neg (by simpa using q)]at h1;by_cases k:c a d=0
  ·rw [if_neg (by simpa using k)] at g ⊢
   exact u h1 g
  ·rw [if_pos k] at g ⊢
   exact g
 ·rw [if_pos q] at h1
  by_cases k:c b d=0
  ·have e := h.eq b d k
   subst e;rw[if_pos q];exact h1
  ·rw [if_pos k] at g
   have:=h.tr a b d (by omega) (by omega);rw[if_pos (by omega)];omega
theorem Gr{a b d g:Int}(h1:d = - a)(h:g = - b):iX d g = - iX a b:=by
 unfold iX;subst h1 h;by_cases e:a=0
 ·subst e
  simp
 ·rw[if_pos e,if_pos (by omega)]
theorem Q8{c:List G→List G→Int}(g:∀ a b,c b a = - c a b)(k:∀ a b d,c a b≤0→c b d≤0→c a d≤0):eS (bF c) (fun _=>True):=by
 have lt:∀ r s,bF c r s=decide (c r s<0):=fun r s=>by unfold bF; rw[dS]
 refine⟨fun a b d _ _ _ h1 q=>?_,fun a b _ _ h=>?_⟩
 ·rw [lt, decide_eq_false_iff_not] at *
  have:=k d b a (by have:=g d b; omega) (by have:=g b a; omega);have:=g a d;omega
 ·rw [lt, decide_eq_true_eq] at h
  rw[lt,decide_eq_false_iff_not];have:=g a b;omega
/-! ### d g h checked row by row -/
structure c_ (F:Nat→Nat→Int) (n m:Nat) (ok:Nat→Nat→Bool) (w:Nat→Nat→Int):Prop where
 gb:∀ i k,n≤i∨m≤k→F i k=0
 step:∀ i k,i<n→k<m→F i k=if ok i k=true then max (max (F (i+1) k) (F i (k+1))) (w i k+F (i+1) (k+1)) else max (F (i+1) k) (F i (k+1))
structure Fair (n m:Nat) (ok:Nat→Nat→Bool) (w:Nat→Nat→Int):Prop where
 pos:∀ i k,i<n→k<m→ok i k=true→0<w i k
 Gs:∀ i p k q,i<p→p<n→k<q→q<m→ok i q=true→ok p k=true→ok i k=true∧ok p q=true∧w i q+w p k≤w i k+w p q
section
variable {F:Nat→Nat→Int} {n m:Nat} {ok:Nat→Nat→Bool} {w:Nat→Nat→Int}
theorem c_.flip(h:c_ F n m ok w):c_ (fun k i=>F i k) m n (fun k i=>ok i k) (fun k i=>w i k):=by
 refine⟨fun k i hk=>h.gb i k hk.symm,fun k i hk hi=>?_⟩;have:=h.step i k hi hk;rw[this];split<;>omega
theorem Fair.flip(h:Fair n m ok w):Fair m n (fun k i=>ok i k) (fun k i=>w i k):=by
 refine⟨fun k i hk hi ho=>h.pos i k hi hk ho,fun k q i p d u g v h1 y=>?_⟩;obtain⟨a,b,c⟩:=h.Gs i p k q g v d u y h1;exact⟨a,b,by omega⟩
theorem zX{d:Nat→Nat→Int}(h:c_ F n m ok w)(h':c_ d n m ok w):∀(s i k:Nat),(n-i)+(m-k)≤s→F i k=d i k
 | s,i,k,g=>by
  by_cases he:n≤i∨m≤k
  ·rw[h.gb i k he,h'.gb i k he]
  ·have hi : i < n := by omega
   have hk:k<m:=by omega
   cases s with
   |zero=>omega
   | succ s =>
    rw[h.step i k hi hk,h'.step i k hi hk,zX h h' s (i+1) k (by omega),zX h h' s i (k+1) (by omega),zX h h' s (i+1) (k+1) (by omega)]
theorem c_.down(h:c_ F n m ok w)(i k:Nat):F (i+1) k≤F i k:=by
 by_cases he:n≤i∨m≤k
 ·rw [h.gb i k he, h.gb (i + 1) k (by omega)]
  exact la _
 ·rw [h.step i k (by omega) (by omega)]
  split<;>omega
theorem c_.right(h:c_ F n m ok w)(i k:Nat):F i (k+1)≤F i k:=h.flip.down k i
theorem c_.Gt(h:c_ F n m ok w)(i k:Nat):∀ d,F (i+d) k≤F i k
 |0=>la _
 |d+1=>AN (h.down (i+d) k) (h.Gt i k d)
theorem c_.mono(h:c_ F n m ok w){i p k q:Nat}(h1:i≤p)(g:k≤q):F p q≤F i k:=by
 obtain⟨d,rfl⟩:=AO h1;obtain⟨e,rfl⟩:=AO g;exact AN (h.Gt i (k+e) d) (h.flip.Gt k i e)
theorem c_.take(h:c_ F n m ok w){i p k q:Nat}(h1:i≤p)(d:k≤q)(g:p<n)(u:q<m)(ho:ok p q=true):w p q+F (p+1) (q+1)≤F i k:=by
 refine AN ?_ (h.mono h1 d);rw[h.step p q g u,if_pos ho];omega
theorem c_.Gu(h:c_ F n m ok w)(i k:Nat):0≤F i k:=by
 have h1:=h.mono (i:=i) (p:=i+n) (k:=k) (q:=k) (by omega) (aD _);rw[h.gb (i+n) k (.inl (by omega))]at h1;exact h1
theorem c_.row(h:c_ F n m ok w){i:Nat}(hi:i<n):∀(s k:Nat),m-k≤s→F i k=F (i+1) k∨∃ q,k≤q∧q<m∧ok i q=true∧F i k=w i q+F (i+1) (q+1)
 | s,k,v=>by
  by_cases hk:k<m
  ·cases s with
   |zero=>omega
   | succ s =>
    have h0:=h.step i k hi hk;have h1:=h.down i k;have y:=h.right (i+1) k;by_cases ho:ok i k=true
    ·rw [if_pos ho] at h0
     by_cases e:F i k=w i k+F (i+1) (k+1)
     ·exact .inr ⟨k,aD _,hk,ho,e⟩
     ·by_cases d : F i k = F (i + 1) k
      ·exact .inl d
      ·have u : F i k = F i (k + 1) := by omega
       rcases h.row hi s (k+1) (by omega)with g|⟨q,g1,g2,g3,g4⟩
       ·exact .inl (by omega)
       ·exact .inr ⟨q,by omega,g2,g3,by omega⟩
    ·rw [if_neg ho] at h0
     by_cases d:F i k=F (i+1) k
     ·exact .inl d
     ·have u : F i k = F i (k + 1) := by omega
      rcases h.row hi s (k+1) (by omega)with g|⟨q,g1,g2,g3,g4⟩
      ·exact .inl (by omega)
      ·exact .inr ⟨q,by omega,g2,g3,by omega⟩
  ·exact .inl (by rw[h.gb i k (.inr (by omega)),h.gb (i+1) k (.inr (by omega))])
theorem Q9{i k:Nat}(g:∀ a b,i≤a→k≤b→F a (b+1)+F (a+1) b≤F a b+F (a+1) (b+1)){p q:Nat}(h:i≤p)(u:k≤q):F i q+F p k≤F i k+F p q:=by
 obtain⟨d,rfl⟩:=AO h;obtain⟨e,rfl⟩:=AO u;have one:∀ b,k≤b→∀ d,F (i+d) b-F (i+d) (b+1)≤F i b-F i (b+1):=by
  intro b hb d
  induction d with
  |zero=>exact la _
  | succ d v =>
   have:=g (i+d) b (by omega) hb;rw[show i+(d+1)=i+d+1 from rfl];omega
 have all:∀ e,F (i+d) k-F (i+d) (k+e)≤F i k-F i (k+e):=by
  intro e
  induction e with
  |zero=>exact Int.le_of_eq (by simp)
  | succ e v =>
   have:=one (k+e) (by omega) d;rw[show k+(e+1)=k+e+1 from rfl];omega
 have:=all e;omega
theorem c_.local(h:c_ F n m ok w)(d:Fair n m ok w):∀(s i k:Nat),(n-i)+(m-k)≤s→F i (k+1)+F (i+1) k≤F i k+F (i+1) (k+1)
 | s,i,k,M=>by
  by_cases he:n≤i∨m≤k
  ·rcases he with he | he
   ·rw [h.gb i k (.inl he), h.gb i (k + 1) (.inl he), h.gb (i + 1) k (.inl (by omega)), h.gb (i + 1) (k + 1) (.inl (by omega))]
    exact la _
   ·rw [h.gb i k (.inr he), h.gb i (k + 1) (.inr (by omega)), h.gb (i + 1) k (.inr he), h.gb (i + 1) (k + 1) (.inr (by omega))]
    exact la _
  ·have hi : i < n := by omega
   have hk:k<m:=by omega
   cases s with
   |zero=>omega
   | succ s =>
    rcases h.row hi (m-(k+1)) (k+1) (aD _)with e|⟨q,y,g,B,N⟩
    ·rw [e]
     have:=h.down i k;omega
    ·rcases h.flip.row hk (n - (i + 1)) (i + 1) (aD _) with e | ⟨p, p1, u, I, v⟩
     ·have e : F (i + 1) k = F (i + 1) (k + 1) := e
      rw[e];have:=h.right i k;omega
     ·have v : F (i + 1) k = w p k + F (p + 1) (k + 1) := v
      obtain⟨c1,c2,O⟩:=d.Gs i p k q (by omega) u (by omega) g B I;have J:F (i+1) (q+1)+F (p+1) (k+1)≤F (i+1) (k+1)+F (p+1) (q+1) :=
       Q9 (fun a b ha hb=>h.local d s a b (by omega)) (by omega) (by omega)
      have t1:=h.take (aD i) (aD k) hi hk c1;have t2:=h.take (i:=i+1) (k:=k+1) (p:=p) (q:=q) p1 y u g c2;omega
theorem c_.afO(h:c_ F n m ok w)(d:Fair n m ok w){i k p q:Nat}(g:i≤p)(u:k≤q):F i q+F p k≤F i k+F p q :=
 Q9 (fun a b _ _=>h.local d _ a b (aD _)) g u
theorem c_.afP(h:c_ F n m ok w)(d:Fair n m ok w){i k p p' q q':Nat}(h1:i≤p)(y:p<p')(B:k≤q')(I:q'<q)(g:p'<n)(u:q<m)(ho:ok p q=true)(v:ok p' q'=true)
  (e:w p q+F (p+1) (q+1)=F i k) (e':w p' q'+F (p'+1) (q'+1)=F i k):False:=by
 obtain⟨c1,c2,J⟩:=d.Gs p p' q' q y g I u ho v;have M:=h.afO d (i:=p+1) (p:=p'+1) (k:=q'+1) (q:=q+1) (by omega) (by omega);have t1:=h.take (i:=p+1) (k:=q'+1) (p:=p') (q:=q) (by omega) (by omega) g u c2;have t2:=h.take (i:=i) (k:=k) (p:=p) (q:=q') h1 B (by omega) (by omega) c1;have t3:=d.pos p q' (by omega) (by omega) c1;have t4:=h.mono (i:=i) (p:=p+1) (k:=k) (q:=q'+1) (by omega) (by omega);omega
def eB(P:Nat→Bool):Nat→Nat→Option Nat
 |_,0=>none
 |q,t+1=>bif P q then some q else eB P (q+1) t
theorem pT{P:Nat→Bool}:∀{t q x:Nat},eB P q t=some x→q≤x∧x<q+t∧P x=true∧∀ y,q≤y→y<x→P y=false
 |0,_,_,h=>by cases h
 | t+1,q,x,h=>by
  unfold eB at h;cases g:P q with
  | true =>
   rw[g]at h;cases h;exact⟨aD _,by omega,g,fun y h1 k=>by omega⟩
  | false =>
   rw[g]at h;obtain⟨a,b,c,d⟩:=pT (t:=t) h;exact⟨by omega,by omega,c,fun y h1 k=>by
    by_cases e:y=q
    ·subst e; exact g
    ·exact d y (by omega) k⟩
theorem vO{P:Nat→Bool}:∀{t q:Nat},eB P q t=none→∀ y,q≤y→y<q+t→P y=false
 |0,q,_,y,h1,g=>by omega
 | t+1,q,h,y,h1,g=>by
  unfold eB at h;cases d:P q with
  |true=>rw[d]at h; cases h
  | false =>
   rw[d]at h;by_cases e:y=q
   ·subst e; exact d
   ·exact vO (t:=t) h y (by omega) (by omega)
theorem Q_{P:Nat→Bool}{t q x:Nat}(h1:q≤x)(u:x<q+t)(k:P x=true)(v:∀ y,q≤y→y<x→P y=false):eB P q t=some x:=by
 cases h:eB P q t with
 |none=>rw[vO h x h1 u]at k; cases k
 | some z =>
  obtain⟨a,b,c,d⟩:=pT h;rcases S2 z x with g|g|g
  ·rw[v z a g]at c; cases c
  ·rw[g]
  ·rw[d x h1 g]at k; cases k
theorem Ra{P:Nat→Bool}{t q:Nat}(h:∀ y,q≤y→y<q+t→P y=false):eB P q t=none:=by
 cases d:eB P q t with
 |none=>rfl
 | some z =>
  obtain⟨a,b,c,_⟩:=pT d;rw[h z a b]at c;cases c
def dU(F:Nat→Nat→Int)(ok:Nat→Nat→Bool)(w:Nat→Nat→Int)(v:Int)(i q:Nat):Bool:=ok i q&&(w i q+F (i+1) (q+1)==v)
theorem vP{v:Int}{i q:Nat}:dU F ok w v i q=true↔ok i q=true∧w i q+F (i+1) (q+1)=v:=by
 unfold dU;rw[az,beq_iff_eq]
def eV(F:Nat→Nat→Int)(m:Nat)(ok:Nat→Nat→Bool)(w:Nat→Nat→Int):Nat→Nat→Nat→List (Nat × Nat)
 |0,_,_=>[]
 | t+1,i,f=>match eB (dU F ok w (F i f) i) f (m-f) with
  |some q=>(i,q)::eV F m ok w t (i+1) (q+1)
  |none=>eV F m ok w t (i+1) f
theorem pU{t i f q:Nat} (h:eB (dU F ok w (F i f) i) f (m-f)=some q):eV F m ok w (t+1) i f=(i,q)::eV F m ok w t (i+1) (q+1):=by
 rw[eV,h]
theorem n9{t i f:Nat} (h:eB (dU F ok w (F i f) i) f (m-f)=none):eV F m ok w (t+1) i f=eV F m ok w t (i+1) f:=by
 rw[eV,h]
theorem zY:∀(t i f:Nat),∀ x∈eV F m ok w t i f,i≤x.1∧x.1<i+t∧f≤x.2∧x.2<m∧ok x.1 x.2=true
 |0,_,_,x,h=>by cases h
 | t+1,i,f,x,h=>by
  cases g:eB (dU F ok w (F i f) i) f (m-f)with
  | none =>
   rw[n9 g]at h;obtain⟨a,b,c,d,e⟩:=zY t (i+1) f x h;exact⟨by omega,by omega,c,d,e⟩
  | some q =>
   rw[pU g]at h;obtain⟨k,v,u,_⟩:=pT g;rcases bY.1 h with rfl|h
   ·exact⟨aD _,by simp,k,by simp; omega,(vP.1 u).1⟩
   ·obtain ⟨a, b, c, d, e⟩ := zY t (i + 1) (q + 1) x h
    exact⟨by omega,by omega,by omega,d,e⟩
theorem Gv:∀(t i f:Nat),(eV F m ok w t i f).Pairwise fun x y=>x.1<y.1∧x.2<y.2
 |0,_,_=>.nil
 | t+1,i,f=>by
  cases d:eB (dU F ok w (F i f) i) f (m-f)with
  |none=>rw[n9 d]; exact Gv t (i+1) f
  | some q =>
   rw[pU d];refine .cons (fun y g=>?_) (Gv t (i+1) (q+1));obtain⟨a,_,c,_,_⟩:=zY t (i+1) (q+1) y g;exact⟨by simp; omega,by simp; omega⟩
theorem Gw(h:c_ F n m ok w){i f:Nat}(hi:i<n)(d:∀ q,f≤q→q<m→dU F ok w (F i f) i q=false):F i f=F (i+1) f:=by
 rcases h.row hi (m-f) f (aD _)with e|⟨q,g,k,u,v⟩
 ·exact e
 ·have := d q g k
  rw[vP.2 ⟨u,v.symm⟩]at this;cases this
theorem Rb(h:c_ F n m ok w){i:Nat}(hi:i<n):∀(t f:Nat),m-f≤t→(∀ q,f≤q→q<m→dU F ok w (F i f) i q=false) →
  eV (fun k i=>F i k) n (fun k i=>ok i k) (fun k i=>w i k) (m-f) f i=eV (fun k i=>F i k) n (fun k i=>ok i k) (fun k i=>w i k) (m-f) f (i+1)
 | t,f,ht,v=>by
  by_cases J:f<m
  ·cases t with
   |zero=>omega
   | succ t =>
    have B:=Gw h hi v;obtain⟨r,O⟩:∃ r,m-f=r+1:=⟨m-f-1,by omega⟩
    have N:m-(f+1)=r:=by omega
    rw[O];have I:dU (fun k i=>F i k) (fun k i=>ok i k) (fun k i=>w i k) (F i f) f i=false:=v f (aD _) J;cases u:eB (dU (fun k i=>F i k) (fun k i=>ok i k) (fun k i=>w i k) (F (i+1) f) f) (i+1) (n-(i+1))with
    | some p =>
     obtain⟨p1,p2,U,V⟩:=pT u;have g:eB (dU (fun k i=>F i k) (fun k i=>ok i k) (fun k i=>w i k) (F i f) f) i (n-i)=some p:=by
      refine Q_ (by omega) (by omega) (by rw[B]; exact U) fun y h1 d=>?_;by_cases e:y=i
      ·subst e; exact I
      ·rw[B]; exact V y (by omega) d
     rw[pU (F:=fun k i=>F i k) g,pU (F:=fun k i=>F i k) u]
    | none =>
     have M:=vO u;have g:eB (dU (fun k i=>F i k) (fun k i=>ok i k) (fun k i=>w i k) (F i f) f) i (n-i)=none:=by
      refine Ra fun y h1 d=>?_;by_cases e:y=i
      ·subst e; exact I
      ·rw[B]; exact M y (by omega) (by omega)
     rw[n9 (F:=fun k i=>F i k) g,n9 (F:=fun k i=>F i k) u];have W:F i f=F i (f+1):=Gw h.flip J (i:=f) (f:=i) fun p h1 d=>vO g p h1 (by omega);have:=Rb h hi t (f+1) (by omega) fun q h1 d=>by rw[←W]; exact v q (by omega) d
     rw[N]at this;exact this
  ·rw [show m - f = 0 from by omega]
   rfl
theorem Rc(h:c_ F n m ok w){i:Nat}:∀(d f:Nat),f+d≤m→(∀ c,f≤c→c<f+d→∀ p,i≤p→p<n→dU F ok w (F i f) p c=false) →
  F i (f+d)=F i f∧eV (fun k i=>F i k) n (fun k i=>ok i k) (fun k i=>w i k) (m-f) f i=eV (fun k i=>F i k) n (fun k i=>ok i k) (fun k i=>w i k) (m-(f+d)) (f+d) i
 |0,f,_,_=>⟨rfl,rfl⟩
 | d+1,f,N,g=>by
  have B:eB (dU (fun k i=>F i k) (fun k i=>ok i k) (fun k i=>w i k) (F i f) f) i (n-i)=none:=Ra fun y h1 q=>g f (aD _) (by omega) y h1 (by omega);have u:F i f=F i (f+1):=Gw h.flip (i:=f) (f:=i) (by omega) fun p h1 q=>g f (aD _) (by omega) p h1 q;obtain⟨r,I⟩:∃ r,m-f=r+1:=⟨m-f-1,by omega⟩
  obtain⟨g1,g2⟩:=Rc h d (f+1) (by omega) fun c h1 q p J M=>by rw[←u]; exact g c (by omega) (by omega) p J M
  have v:m-(f+1)=r:=by omega
  rw[show f+(d+1)=f+1+d from by omega];refine⟨by rw[g1,u],?_⟩;rw[I,n9 (F:=fun k i=>F i k) B,←v];exact g2
theorem Gx(h:c_ F n m ok w)(u:Fair n m ok w):∀(t i f:Nat),n-i=t→(eV F m ok w t i f).map (fun x=>(x.2,x.1))=eV (fun k i=>F i k) n (fun k i=>ok i k) (fun k i=>w i k) (m-f) f i
 | 0,i,f,I=>by
  have:∀(r f:Nat),eV (fun k i=>F i k) n (fun k i=>ok i k) (fun k i=>w i k) r f i=[]:=by
   intro r
   induction r with
   |zero=>intro f; rfl
   | succ r O =>
    intro f;have g:eB (dU (fun k i=>F i k) (fun k i=>ok i k) (fun k i=>w i k) (F i f) f) i (n-i)=none:=by rw[I]; rfl
    rw[n9 (F:=fun k i=>F i k) g];exact O (f+1)
  rw[this];rfl
 | t+1,i,f,I=>by
  have hi:i<n:=by omega
  cases g:eB (dU F ok w (F i f) i) f (m-f)with
  | none =>
   have M:∀ q,f≤q→q<m→dU F ok w (F i f) i q=false:=fun q h1 v=>vO g q h1 (by omega);rw[n9 g,Gx h u t (i+1) f (by omega)];exact(Rb h hi (m-f) f (aD _) M).symm
  | some q =>
   obtain⟨U,q2,J,V⟩:=pT g;obtain⟨o1,o2⟩:=vP.1 J;obtain⟨d,rfl⟩:=AO U;obtain⟨g1,g2⟩:=Rc h (i:=i) d f (by omega) fun c h1 v p h3 W=>by
    cases B:dU F ok w (F i f) p c with
    |false=>rfl
    | true =>
     obtain⟨a1,a2⟩:=vP.1 B;by_cases e:p=i
     ·subst e
      rw[V c h1 v]at B;cases B
     ·exact(h.afP u (i:=i) (k:=f) (p:=i) (p':=p) (q':=c) (q:=f+d) (aD _) (by omega) h1 (by omega) W (by omega) o1 a1 o2 a2).elim
   have N:eB (dU (fun k i=>F i k) (fun k i=>ok i k) (fun k i=>w i k) (F i (f+d)) (f+d)) i (n-i)=some i:=by
    refine Q_ (aD _) (by omega) ?_ fun y h1 v=>by omega
    rw[g1];exact J
   obtain⟨r,hr⟩:∃ r,m-(f+d)=r+1:=⟨m-(f+d)-1,by omega⟩
   rw[pU g,dx,Gx h u t (i+1) (f+d+1) (by omega),g2,hr,pU (F:=fun k i=>F i k) N];rw[show m-(f+d+1)=r from by omega]
end
/-! ### g d, as a function -/
def kR(n m:Nat)(ok:Nat→Nat→Bool)(w:Nat→Nat→Int)(i k:Nat):Int :=
 if h:i<n∧k<m then
  if ok i k=true then max (max (kR n m ok w (i+1) k) (kR n m ok w i (k+1))) (w i k+kR n m ok w (i+1) (k+1)) else max (kR n m ok w (i+1) k) (kR n m ok w i (k+1))
 else 0
termination_by (n-i)+(m-k)
theorem zZ(n m:Nat)(ok:Nat→Nat→Bool)(w:Nat→Nat→Int):c_ (kR n m ok w) n m ok w :=
 ⟨fun i k h => by rw [kR, dif_neg (by omega)], fun i k hi hk => by
  conv=>lhs; rw[kR]
  rw[dif_pos ⟨hi,hk⟩]⟩
theorem c_.le{F:Nat→Nat→Int}{n m:Nat}{ok:Nat→Nat→Bool}{w:Nat→Nat→Int}(h:c_ F n m ok w){W:Int}(d:0≤W)(hw:∀ i k,w i k≤W):∀(t i k:Nat),n-i=t→F i k≤W*(t:Int)
 |0,i,k,u=>by rw[h.gb i k (.inl (by omega))]; simp
 | t+1,i,k,u=>by
  have e:W*((t+1:Nat):Int)=W*(t:Int)+W:=by rw[Int.natCast_succ,Int.mul_add,Int.mul_one]
  rw[e];rcases h.row (i:=i) (by omega) (m-k) k (aD _)with g|⟨q,_,_,_,g⟩
  ·have := h.le d hw t (i + 1) k (by omega)
   omega
  ·have := h.le d hw t (i + 1) (q + 1) (by omega)
   have:=hw i q;omega
/-! ### d -/
def c7(r:List G):Int:=(gi r 0).int
def lI(r:List G):Int:=(gi r 1).int
def aU(r:List G):ByteArray:=(gi r 2).str
def Gy(r:List G):ByteArray:=(gi r 3).str
def fR(r:List G):Prop:=aF [.int .i64,.int .i64,.str,.str,.int .i64,.int .i64,.str,.str] r=r ∧ -1000000000000≤c7 r∧c7 r≤1000000000000
def fS(p q:List G):Int:=if c7 q-c7 p>c7 p-c7 q then c7 q-c7 p else c7 p-c7 q
def lJ(off:Int)(p q:List G):Bool:=((aU p).toList==(aU q).toList)&&((lI p==lI q)&&a_ (fS p q) off)
theorem z6{p q:List G}(d:fR p)(g:fR q):0≤fS p q∧fS p q≤2000000000000:=by
 obtain⟨_,h1,h⟩:=d;obtain⟨_,k,u⟩:=g;unfold fS;split<;>omega
theorem Gz{p q:List G}(d:fR p)(g:fR q):sc [.l [p],.l [q]]=some [.i (fS p q)]:=by
 obtain⟨_,h1,h⟩:=d;obtain⟨_,k,u⟩:=g;unfold c7 at h1 h k u;refine aa.toEq ?_;unfold sc fS c7
 (dsimp +instances only[Aa,Ab,Ac,Ad,Ae,Af,Ag])
 exact aa.pos (kF.2 ⟨by omega,by omega⟩) (aa.pos (kF.2 ⟨by omega,by omega⟩) (aa.some rfl))
theorem GA(off:Int){p q:List G}(d:fR p)(g:fR q):sd [.l [p],.l [q],.i off]=some [.t (lJ off p q)]:=by
 refine aa.toEq ?_;unfold sd lJ
 (dsimp +instances only[Aa,Ab,Ac,Ad,Ae,Af,Ag])
 refine aa.test (fun h=>?_) fun h=>?_
 ·have h : ((aU p).toList == (aU q).toList) = true := h
  rw[h];refine aa.test (fun h=>?_) fun h=>?_
  ·have h : (lI p == lI q) = true := h
   rw[h,d.1,g.1];refine aa.cE (Gz d g) ?_;exact aa.some rfl
  ·have h : (lI p == lI q) = false := h
   rw[h];exact aa.some rfl
 ·have h : ((aU p).toList == (aU q).toList) = false := h
  rw[h];exact aa.some rfl
/-! ### g lists of numbers of d -/
structure JC (a b:List (List G)) (X Y:List Nat):Prop where
 ha:∀ z∈a,fR z
 hb:∀ z∈b,fR z
 hX:∀ i∈X,i<a.length
 hY:∀ i∈Y,i<b.length
 na:a.length≤100000
 nb:b.length≤100000
 nX:X.length≤1000
 nY:Y.length≤1000
def bH(X:List Nat):List (List G):=X.map fun(i:Nat)=>[G.i (i:Int)]
theorem lK(X:List Nat):(bH X).length=X.length:=dO _
theorem sE{X:List Nat}{i:Nat}(hi:i<X.length):(bH X).getD i []=[.i ((X.getD i 0:Nat):Int)]:=by
 unfold bH;rw[ct,ch,bL hi,ct,bL hi];rfl
theorem n_{α:Type}{l:List α}{i:Nat}{z:α}(h:i<l.length):l.getD i z∈l:=by
 rw[ct,bL h];exact mT h
def dM(a:List (List G))(X:List Nat)(i:Nat):List G:=a.getD (X.getD i 0) []
def dE(a b:List (List G))(X Y:List Nat)(off:Int)(i k:Nat):Bool:=lJ off (dM a X i) (dM b Y k)
def wJ(a b:List (List G))(X Y:List Nat)(i k:Nat):Int:=10000000000-fS (dM a X i) (dM b Y k)
theorem JC.z7{a b:List (List G)}{X Y:List Nat}(J:JC a b X Y){i:Nat}(hi:i<X.length):X.getD i 0<a.length∧fR (dM a X i):=by
 have h:=J.hX _ (n_ (z:=0) hi);exact⟨h,J.ha _ (n_ h)⟩
theorem JC.z8{a b:List (List G)}{X Y:List Nat}(J:JC a b X Y){i:Nat}(hi:i<Y.length):Y.getD i 0<b.length∧fR (dM b Y i):=by
 have h:=J.hY _ (n_ (z:=0) hi);exact⟨h,J.hb _ (n_ h)⟩
theorem afQ{a b:List (List G)}{X Y:List Nat}(J:JC a b X Y)(off:Int)(h:List (List G)){i k:Nat}(hi:i<X.length)(hk:k<Y.length) :
  vp [.l a,.l b,.l (bH X),.l (bH Y),.i off,.l h,.i (i:Int),.i (k:Int)]=some [.l a,.l b,.l (bH X),.l (bH Y),.i off,.l h,.i (wJ a b X Y i k),.t (dE a b X Y off i k)]:=by
 obtain⟨h1,d⟩:=J.z7 hi;obtain⟨y,g⟩:=J.z8 hk;have v:=z6 d g;refine aa.toEq ?_;unfold vp
 (dsimp +instances only[Aa,Ab,Ac,Ad,Ae,Af,Ag])
 simp only[a8,sE hi,sE hk,lK]
 (dsimp +instances only[Aa,Ab,Ac,Ad,Ae,Af,Ag])
 simp only[a8];refine aa.p (aa.p (aa.p (aa.p ?_)));have q:a.getD (X.getD i 0) []=dM a X i:=rfl;have u:b.getD (Y.getD k 0) []=dM b Y k:=rfl;rw[q,u,d.1,g.1];refine aa.cE (Gz d g) ?_
 (dsimp +instances only[Aa,Ab,Ac,Ad,Ae,Af,Ag])
 refine aa.pos (kF.2 ⟨by omega,by omega⟩) ?_;refine aa.cE (GA off d g) ?_
 (dsimp +instances only[Aa,Ab,Ac,Ad,Ae,Af,Ag])
 refine aa.pos ?_ (aa.some rfl);simp
theorem Re{a b:List (List G)}{X Y:List Nat}(J:JC a b X Y)(off:Int)(h:List (List G)){i k:Nat}(hi:i<X.length)(hk:k<Y.length) :
  zA [.l [[.l a,.l b,.l (bH X),.l (bH Y),.i off,.l h]],.i (i:Int),.i (k:Int)]=some [.i (wJ a b X Y i k),.t (dE a b X Y off i k)]:=by
 obtain⟨h1,d⟩:=J.z7 hi;obtain⟨y,g⟩:=J.z8 hk;have v:=z6 d g;refine aa.toEq ?_;unfold zA
 (dsimp +instances only[Aa,Ab,Ac,Ad,Ae,Af,Ag])
 simp only[a8,sE hi,sE hk,lK]
 (dsimp +instances only[Aa,Ab,Ac,Ad,Ae,Af,Ag])
 simp only[a8];refine aa.p (aa.p (aa.p (aa.p ?_)));have q:a.getD (X.getD i 0) []=dM a X i:=rfl;have u:b.getD (Y.getD k 0) []=dM b Y k:=rfl;rw[q,u,d.1,g.1];refine aa.cE (Gz d g) ?_
 (dsimp +instances only[Aa,Ab,Ac,Ad,Ae,Af,Ag])
 refine aa.pos (kF.2 ⟨by omega,by omega⟩) ?_;refine aa.cE (GA off d g) ?_;exact aa.some rfl
/-! ### d table -/
def dN(F:Nat→Nat→Int)(m i t:Nat):List (List G):=(dI (m+1)).map fun j=>[G.i (if t≤j then F i j else 0)]
def dF(F:Nat→Nat→Int)(n m i:Nat):List (List G):=(dI (n+1)).map fun p=>[G.l (if i≤p then dN F m p 0 else [])]
theorem oa(F:Nat→Nat→Int)(m i t:Nat):(dN F m i t).length=m+1:=by unfold dN; rw[dO,sT]
theorem sF(F:Nat→Nat→Int)(n m i:Nat):(dF F n m i).length=n+1:=by unfold dF; rw[dO,sT]
theorem vQ{F:Nat→Nat→Int}{m i t j:Nat}(d:j≤m):(dN F m i t).getD j []=[.i (if t≤j then F i j else 0)]:=by
 unfold dN;rw[ct,ch,s8 (by omega)];rfl
theorem GB{F:Nat→Nat→Int}{n m i p:Nat}(d:p≤n):(dF F n m i).getD p []=[.l (if i≤p then dN F m p 0 else [])]:=by
 unfold dF;rw[ct,ch,s8 (by omega)];rfl
theorem afR{F:Nat→Nat→Int}{m i t:Nat}:(dN F m i (t+1)).set t [.i (F i t)]=dN F m i t:=by
 apply jE;intro j;unfold dN;rw[dW,ch,ch,dO,sT];by_cases d:j<m+1
 ·rw [s8 d]
  by_cases e:t=j
  ·subst e
   rw[if_pos rfl,if_pos d];simp
  ·rw [if_neg e]
   simp only[eM];by_cases h:t≤j
   ·rw[if_pos h,if_pos (by omega)]
   ·rw[if_neg h,if_neg (by omega)]
 ·rw [lN (by simp; omega)]
  by_cases e:t=j
  ·subst e
   rw[if_pos rfl,if_neg d];rfl
  ·rw [if_neg e]
   rfl
theorem afS{F:Nat→Nat→Int}{m i:Nat}(h:F i m=0):dN F m i m=bN (m+1) [.i 0]:=by
 rw[aie];refine⟨oa F m i m,fun x d=>?_⟩;unfold dN at d;obtain⟨j,g,rfl⟩:=dp.1 d;rw[eO]at g;by_cases e:m≤j
 ·rw[if_pos e,show j=m from by omega,h]
 ·rw[if_neg e]
theorem afT{F:Nat→Nat→Int}{m i:Nat}(h:∀ k,F i k=0):dN F m i 0=bN (m+1) [.i 0]:=by
 rw[aie];refine⟨oa F m i 0,fun x d=>?_⟩;unfold dN at d;obtain⟨j,g,rfl⟩:=dp.1 d;rw[if_pos (eC _),h]
theorem afU{F:Nat→Nat→Int}{n m i:Nat}:(dF F n m (i+1)).set i [.l (dN F m i 0)]=dF F n m i:=by
 apply jE;intro j;unfold dF;rw[dW,ch,ch,dO,sT];by_cases d:j<n+1
 ·rw [s8 d]
  by_cases e:i=j
  ·subst e
   rw[if_pos rfl,if_pos d];simp
  ·rw [if_neg e]
   simp only[eM];by_cases h:i≤j
   ·rw[if_pos h,if_pos (by omega)]
   ·rw[if_neg h,if_neg (by omega)]
 ·rw [lN (by simp; omega)]
  by_cases e:i=j
  ·subst e
   rw[if_pos rfl,if_neg d];rfl
  ·rw [if_neg e]
   rfl
theorem afV{F:Nat→Nat→Int}{n m:Nat}(h:∀ k,F n k=0):(bN (n+1) ([.l []]:List G)).set n [.l (bN (m+1) [.i 0])]=dF F n m n:=by
 apply jE;intro j;unfold dF;rw[dW,ch,aif,wm];by_cases d:j<n+1
 ·rw [s8 d]
  by_cases e:n=j
  ·subst e
   rw[if_pos rfl,if_pos d,eM,if_pos (aD _),afT h]
  ·rw[if_neg e,if_pos d,eM,if_neg (by omega)]
 ·rw [lN (by simp; omega)]
  by_cases e:n=j
  ·subst e
   rw[if_pos rfl,if_neg d];rfl
  ·rw [if_neg e, if_neg d]
   rfl
theorem sG(k:Kd)(r:List G)(v:G):a7 [k] r 0 [v]=[v]:=by
 simp[a7,np]
theorem Rf{a b x y d row:List (List G)}{off:Int}{i k:Nat}(hk:k≤100000) :
  vr [.l a,.l b,.l x,.l y,.i off,.l d,.l row,.i (i:Int),.i (k:Int)]=some (some 0,[.l a,.l b,.l x,.l y,.i off,.l d,.l row,.i (i:Int),.i ((k:Int)-1)]):=by
 refine aa.toEq ?_;unfold vr
 (dsimp +instances only[Aa,Ab,Ac,Ad,Ae,Af,Ag])
 exact aa.pos (kF.2 ⟨by omega,by omega⟩) (aa.pos (by simp) (aa.some rfl))
theorem Rg{a b:List (List G)}{X Y:List Nat}(J:JC a b X Y)(off:Int){F:Nat→Nat→Int}(d:c_ F X.length Y.length (dE a b X Y off) (wJ a b X Y)){i:Nat}(hi:i<X.length):∀ t:Nat,t≤Y.length →
  aZ vt [.l a,.l b,.l (bH X),.l (bH Y),.i off,.l (dF F X.length Y.length (i+1)),.l (dN F Y.length i t),.i (i:Int),.i ((t:Int)-1)] (t+1) fun c g=>c=0∧g=[.l a,.l b,.l (bH X),.l (bH Y),.i off,.l (dF F X.length Y.length (i+1)),.l (dN F Y.length i 0),.i (i:Int)]
 | 0,_=>by
  refine aZ.stop (x:=0) (aa.toEq ?_) ⟨rfl,rfl⟩;unfold vt
  (dsimp +instances only[Aa,Ab,Ac,Ad,Ae,Af,Ag])
  exact aa.neg (by rw[fu]; decide) (aa.pos (by simp) (aa.some rfl))
 | t+1,ht=>by
  have nX:=J.nX;have nY:=J.nY;have hW:∀ i k,F i k≤10000000000*((X.length-i:Nat):Int):=fun i k=>d.le (W:=10000000000) (by omega) (fun i k=>by
   unfold wJ fS;split<;>omega) _ i k rfl
  have b1:=d.Gu (i+1) t;have b2:=d.Gu (i+1) (t+1);have b3:=hW (i+1) (t+1);have hwo : -2000000000000≤wJ a b X Y i t∧wJ a b X Y i t≤10000000000:=by
   have:=z6 (J.z7 hi).2 (J.z8 (show t<Y.length by omega)).2;unfold wJ;omega
  have ih:=Rg J off d hi t (by omega);have e0:((t+1:Nat):Int)-1=(t:Int):=by omega
  rw[e0];refine aZ.next (aa.toEq ?_) ih
  have e1:((i:Int)+1).toNat=i+1:=by omega
  have e2:((t:Int)+1).toNat=t+1:=by omega
  have V:(dF F X.length Y.length (i+1)).getD (i+1) []=[.l (dN F Y.length (i+1) 0)]:=by rw[GB (by omega),if_pos (aD _)]
  have hN0:(dN F Y.length (i+1) 0).getD t []=[.i (F (i+1) t)]:=by rw[vQ (by omega),if_pos (eC _)]
  have I:(dN F Y.length (i+1) 0).getD (t+1) []=[.i (F (i+1) (t+1))]:=by rw[vQ (by omega),if_pos (eC _)]
  have M:(dN F Y.length i (t+1)).getD (t+1) []=[.i (F i (t+1))]:=by rw[vQ (by omega),if_pos (aD _)]
  have q:=d.step i t hi (by omega);have y:∀ v,v=F i t→(dN F Y.length i (t+1)).set t [.i v]=dN F Y.length i t:=fun v hv=>by rw[hv,afR]
  have B:∀ v:Int,((dN F Y.length i (t+1)).set t [.i v]).getD t []=[.i v]:=fun v=>by
   rw[ct,bC (by rw[oa]; omega)];rfl
  have N:=sF F X.length Y.length (i+1);have O:=oa F Y.length i (t+1);have U:=oa F Y.length (i+1) 0;generalize hRR:dN F Y.length i (t+1)=R at M y B O⊢;unfold vt
  (dsimp +instances only[Aa,Ab,Ac,Ad,Ae,Af,Ag])
  simp only[a8,e1,e2,cT,V]
  (dsimp +instances only[Aa,Ab,Ac,Ad,Ae,Af,Ag])
  simp only[hN0,I,M,sG,N,O,U,mM,B,List.set_set]
  (dsimp +instances only[Aa,Ab,Ac,Ad,Ae,Af,Ag])
  refine aa.p (aa.p (aa.p (aa.p (aa.p (aa.p (aa.p (aa.p (aa.p (aa.p ?_)))))))));refine aa.lE (aa.eq (afQ J off _ hi (show t<Y.length by omega))) (by simp) ?_;rintro _ rfl
  (dsimp +instances only[Aa,Ab,Ac,Ad,Ae,Af,Ag])
  simp only[V]
  (dsimp +instances only[Aa,Ab,Ac,Ad,Ae,Af,Ag])
  simp only[I,N,U]
  (dsimp +instances only[Aa,Ab,Ac,Ad,Ae,Af,Ag])
  refine aa.test (fun h=>?_) fun h=>?_
  ·rw [if_pos h] at q
   refine aa.p (aa.p (aa.p (aa.p (aa.p (aa.p (aa.p (aa.pos (kF.2 ⟨by omega,by omega⟩) (aa.p (aa.p ?_)))))))));refine aa.tail (P:=fun u g=>u=0∧g=[.l a,.l b,.l (bH X),.l (bH Y),.i off,.l (dF F X.length Y.length (i+1)),.l (dN F Y.length i t),.i (i:Int),.i ((t:Int)-1)]) ⟨_,Rf (by omega),0,rfl,?_,?_⟩ (by simp) ?_
   ·rfl
   ·rw [y _ ?_]
    rw[q];split<;>split<;>omega
   ·rintro _ _ ⟨rfl, rfl⟩
    (dsimp +instances only[Aa,Ab,Ac,Ad,Ae,Af,Ag])
    exact aa.pos (by simp) (aa.some rfl)
  ·rw [if_neg (by rw [h]; decide)] at q
   refine aa.tail (P:=fun u g=>u=0∧g=[.l a,.l b,.l (bH X),.l (bH Y),.i off,.l (dF F X.length Y.length (i+1)),.l (dN F Y.length i t),.i (i:Int),.i ((t:Int)-1)]) ⟨_,Rf (by omega),0,rfl,?_,?_⟩ (by simp) ?_
   ·rfl
   ·rw [y _ ?_]
    rw[q];split<;>omega
   ·rintro _ _ ⟨rfl, rfl⟩
    (dsimp +instances only[Aa,Ab,Ac,Ad,Ae,Af,Ag])
    exact aa.pos (by simp) (aa.some rfl)
theorem Rh{a b:List (List G)}{X Y:List Nat}(J:JC a b X Y)(off:Int){F:Nat→Nat→Int}(d:c_ F X.length Y.length (dE a b X Y off) (wJ a b X Y)):∀ t:Nat,t≤X.length →
  aZ vu [.l a,.l b,.l (bH X),.l (bH Y),.i off,.l (dF F X.length Y.length t),.i ((t:Int)-1)] (t+1) fun c g=>c=0∧g=[.l a,.l b,.l (bH X),.l (bH Y),.i off,.l (dF F X.length Y.length 0)]
 | 0,_=>by
  refine aZ.stop (x:=0) (aa.toEq ?_) ⟨rfl,rfl⟩;unfold vu
  (dsimp +instances only[Aa,Ab,Ac,Ad,Ae,Af,Ag])
  exact aa.neg (by rw[fu]; decide) (aa.pos (by simp) (aa.some rfl))
 | t+1,y=>by
  have nX:=J.nX;have nY:=J.nY;have q:=Rh J off d t (by omega);have u:((t+1:Nat):Int)-1=(t:Int):=by omega
  rw[u];refine aZ.next (aa.toEq ?_) q
  have v:((Y.length:Int)+1).toNat=Y.length+1:=by omega
  have h:(bN (Y.length+1) ([.i 0]:List G))=dN F Y.length t Y.length:=(afS (d.gb t Y.length (.inr (aD _)))).symm;have k:=Rg J off d (show t<X.length by omega) Y.length (aD _);unfold vu
  (dsimp +instances only[Aa,Ab,Ac,Ad,Ae,Af,Ag])
  simp only[lK,v,h];refine aa.p (aa.p (aa.p (aa.p ?_)));refine aa.loop (k.to (by omega)) (by simp[oa]) ?_;rintro _ _ ⟨rfl,rfl⟩
  (dsimp +instances only[Aa,Ab,Ac,Ad,Ae,Af,Ag])
  simp only[a8,cT,sG,sF];refine aa.p (aa.pos (by simp; omega) (aa.p (aa.pos (by simp[sF]) (aa.some ?_))));rw[afU]
theorem afW{a b:List (List G)}{X Y:List Nat}(J:JC a b X Y)(off:Int){F:Nat→Nat→Int}(d:c_ F X.length Y.length (dE a b X Y off) (wJ a b X Y)) :
  zz [.l a,.l b,.l (bH X),.l (bH Y),.i off,.l []]=some [.l a,.l b,.l (bH X),.l (bH Y),.i off,.l (dF F X.length Y.length 0)]:=by
 have nX:=J.nX;have nY:=J.nY;have h:((X.length:Int)+1).toNat=X.length+1:=by omega
 have q:((Y.length:Int)+1).toNat=Y.length+1:=by omega
 have g:(bN (X.length+1) ([.l []]:List G)).set X.length [.l (bN (Y.length+1) [.i 0])]=dF F X.length Y.length X.length:=afV fun k=>d.gb X.length k (.inl (aD _));refine aa.toEq ?_;unfold zz
 (dsimp +instances only[Aa,Ab,Ac,Ad,Ae,Af,Ag])
 simp only[lK,h,q,cT,sG,g,wm,sF];refine aa.p (aa.p (aa.p (aa.p (aa.p (aa.pos (by simp) (aa.p ?_))))));refine aa.loop ((Rh J off d X.length (aD _)).to (by omega)) (by simp) ?_;rintro _ _ ⟨rfl,rfl⟩
 (dsimp +instances only[Aa,Ab,Ac,Ad,Ae,Af,Ag])
 exact aa.pos (by simp) (aa.some rfl)
def ob(X Y:List Nat)(p:Nat × Nat):List G:=[.i ((X.getD p.1 0:Nat):Int),.i ((Y.getD p.2 0:Nat):Int)]
def Ri(X Y:List Nat)(out:List (List G))(i:Nat):Option Nat→List (List G)
 |some q=>out++[ob X Y (i,q)]
 |none=>out
def Rj(f:Nat):Option Nat→Nat
 |some q=>q+1
 |none=>f
theorem GC{a b d out:List (List G)}{X Y:List Nat}(off:Int){f i k n:Nat}(hi:i<X.length)(hk:k<Y.length)(nY:Y.length≤1000)(ho:out.length≤100000)(t:Bool) :
  se [.l a,.l b,.l (bH X),.l (bH Y),.i off,.l d,.l out,.i (f:Int),.i (i:Int),.i (k:Int),.i (n:Int),.i (i:Int),.t t] =
   bif t then some (some 0,[.l a,.l b,.l (bH X),.l (bH Y),.i off,.l d,.l (out++[ob X Y (i,k)]),.i ((k+1:Nat):Int),.i (n:Int),.i (i:Int)])
   else some (some 1,[.l a,.l b,.l (bH X),.l (bH Y),.i off,.l d,.l out,.i (f:Int),.i (i:Int),.i (k:Int),.i (n:Int),.i (i:Int)]):=by
 cases t with
 | false =>
  refine aa.toEq ?_;unfold se
  (dsimp +instances only[Aa,Ab,Ac,Ad,Ae,Af,Ag])
  exact aa.neg rfl (aa.pos (by simp) (aa.some rfl))
 | true =>
  refine aa.toEq ?_;unfold se
  (dsimp +instances only[Aa,Ab,Ac,Ad,Ae,Af,Ag])
  simp only[a8,sE hi,sE hk,lK]
  (dsimp +instances only[Aa,Ab,Ac,Ad,Ae,Af,Ag])
  exact aa.pos rfl (aa.p (aa.p (aa.pos (by simp; omega) (aa.p (aa.pos (by simp) (aa.some rfl))))))
section
variable {a b:List (List G)} {X Y:List Nat} {F:Nat→Nat→Int}
theorem Rk(J:JC a b X Y)(off:Int)(v:c_ F X.length Y.length (dE a b X Y off) (wJ a b X Y))(out:List (List G))(ho:out.length≤100000){f i:Nat}(hi:i<X.length)(hf:f≤Y.length):∀ t k:Nat,k+t=Y.length →
  aZ pN [.l a,.l b,.l (bH X),.l (bH Y),.i off,.l (dF F X.length Y.length 0),.l out,.i (f:Int),.i (i:Int),.i (k:Int),.i (X.length:Int),.i (i:Int)] (t+1)
   fun c g=>c=0∧g=[.l a,.l b,.l (bH X),.l (bH Y),.i off,.l (dF F X.length Y.length 0),.l (Ri X Y out i (eB (dU F (dE a b X Y off) (wJ a b X Y) (F i f) i) k t)),.i (Rj f (eB (dU F (dE a b X Y off) (wJ a b X Y) (F i f) i) k t):Int),.i (X.length:Int),.i (i:Int)]
 | 0,k,hk=>by
  refine aZ.stop (x:=0) (aa.toEq ?_) ⟨rfl,rfl⟩;have nY:=J.nY;unfold pN
  (dsimp +instances only[Aa,Ab,Ac,Ad,Ae,Af,Ag])
  simp only[lK];exact aa.n (aa.pos (by simp) (aa.some rfl))
 | t+1,k,hk=>by
  have nX:=J.nX;have nY:=J.nY;have q:k<Y.length:=by omega
  have hW:∀ i k,F i k≤10000000000*((X.length-i:Nat):Int):=fun i k=>v.le (W:=10000000000) (by omega) (fun i k=>by
   unfold wJ fS;split<;>omega) _ i k rfl
  have b2:=v.Gu (i+1) (k+1);have b3:=hW (i+1) (k+1);have hwo : -2000000000000≤wJ a b X Y i k∧wJ a b X Y i k≤10000000000:=by
   have:=z6 (J.z7 hi).2 (J.z8 q).2;unfold wJ;omega
  have U:((i:Int)+1).toNat=i+1:=by omega
  have V:((k:Int)+1).toNat=k+1:=by omega
  have B:(dF F X.length Y.length 0).getD (i+1) []=[.l (dN F Y.length (i+1) 0)]:=by rw[GB (by omega),if_pos (eC _)]
  have I:(dF F X.length Y.length 0).getD i []=[.l (dN F Y.length i 0)]:=by rw[GB (by omega),if_pos (eC _)]
  have M:(dN F Y.length (i+1) 0).getD (k+1) []=[.i (F (i+1) (k+1))]:=by rw[vQ (by omega),if_pos (eC _)]
  have N:(dN F Y.length i 0).getD f []=[.i (F i f)]:=by rw[vQ (by omega),if_pos (eC _)]
  have O:∀ c:Bool,dU F (dE a b X Y off) (wJ a b X Y) (F i f) i k=c→eB (dU F (dE a b X Y off) (wJ a b X Y) (F i f) i) k (t+1)=bif c then some k else eB (dU F (dE a b X Y off) (wJ a b X Y) (F i f) i) (k+1) t:=fun c hc=>by rw[←hc]; rfl
  have go:dU F (dE a b X Y off) (wJ a b X Y) (F i f) i k=false→aa (pN [.l a,.l b,.l (bH X),.l (bH Y),.i off,.l (dF F X.length Y.length 0),.l out,.i (f:Int),.i (i:Int),.i (k:Int),.i (X.length:Int),.i (i:Int)])
    (fun o=>o=(none,[.l a,.l b,.l (bH X),.l (bH Y),.i off,.l (dF F X.length Y.length 0),.l out,.i (f:Int),.i (i:Int),.i ((k+1:Nat):Int),.i (X.length:Int),.i (i:Int)])):=fun d=>by
   unfold pN
   (dsimp +instances only[Aa,Ab,Ac,Ad,Ae,Af,Ag])
   simp only[lK];refine aa.p ?_;refine aa.cE (Re J off _ hi q) ?_
   (dsimp +instances only[Aa,Ab,Ac,Ad,Ae,Af,Ag])
   simp only[a8,U,V,B,I]
   (dsimp +instances only[Aa,Ab,Ac,Ad,Ae,Af,Ag])
   simp only[M,N,sF,oa]
   (dsimp +instances only[Aa,Ab,Ac,Ad,Ae,Af,Ag])
   refine aa.test (fun h=>?_) fun h=>?_
   ·refine aa.p (aa.p (aa.p (aa.p (aa.pos (kF.2 ⟨by omega, by omega⟩) (aa.p (aa.p ?_))))))
    have y:(wJ a b X Y i k+F (i+1) (k+1)==F i f)=false:=by
     unfold dU at d
     rwa [h,qa]at d
    rw[y];refine aa.tail (P:=fun u g=>u=1∧g=[.l a,.l b,.l (bH X),.l (bH Y),.i off,.l (dF F X.length Y.length 0),.l out,.i (f:Int),.i (i:Int),.i (k:Int),.i (X.length:Int),.i (i:Int)]) ⟨_,GC off hi q nY ho false,1,rfl,rfl,rfl⟩ (by simp) ?_;rintro _ _ ⟨rfl,rfl⟩
    (dsimp +instances only[Aa,Ab,Ac,Ad,Ae,Af,Ag])
    exact aa.neg rfl (aa.p (aa.pos (by simp) (aa.some rfl)))
   ·refine aa.tail (P := fun u g => u = 1 ∧ g = [.l a, .l b, .l (bH X), .l (bH Y), .i off, .l (dF F X.length Y.length 0), .l out, .i (f : Int), .i (i : Int), .i (k : Int), .i (X.length : Int), .i (i : Int)]) ⟨_, GC off hi q nY ho false, 1, rfl, rfl, rfl⟩ (by simp) ?_
    rintro _ _ ⟨rfl,rfl⟩
    (dsimp +instances only[Aa,Ab,Ac,Ad,Ae,Af,Ag])
    exact aa.neg rfl (aa.p (aa.pos (by simp) (aa.some rfl)))
  cases d:dU F (dE a b X Y off) (wJ a b X Y) (F i f) i k with
  | false =>
   rw[O false d,cond_false];exact aZ.next (aa.toEq (go d)) (Rk J off v out ho hi hf t (k+1) (by omega))
  | true =>
   rw[O true d,cond_true];obtain⟨o1,o2⟩:=vP.1 d;refine aZ.stop (x:=0) (aa.toEq ?_) ⟨rfl,rfl⟩;unfold pN
   (dsimp +instances only[Aa,Ab,Ac,Ad,Ae,Af,Ag])
   simp only[lK];refine aa.p ?_;refine aa.cE (Re J off _ hi q) ?_
   (dsimp +instances only[Aa,Ab,Ac,Ad,Ae,Af,Ag])
   simp only[a8,U,V,B,I]
   (dsimp +instances only[Aa,Ab,Ac,Ad,Ae,Af,Ag])
   simp only[M,N,sF,oa]
   (dsimp +instances only[Aa,Ab,Ac,Ad,Ae,Af,Ag])
   refine aa.pos o1 ?_;refine aa.p (aa.p (aa.p (aa.p (aa.pos (kF.2 ⟨by omega,by omega⟩) (aa.p (aa.p ?_))))));have y:(wJ a b X Y i k+F (i+1) (k+1)==F i f)=true:=by rw[beq_iff_eq]; exact o2
   rw[y];refine aa.tail (P:=fun u g=>u=0∧g=[.l a,.l b,.l (bH X),.l (bH Y),.i off,.l (dF F X.length Y.length 0),.l (out++[ob X Y (i,k)]),.i ((k+1:Nat):Int),.i (X.length:Int),.i (i:Int)]) ⟨_,GC off hi q nY ho true,0,rfl,rfl,rfl⟩ (by simp) ?_;rintro _ _ ⟨rfl,rfl⟩
   (dsimp +instances only[Aa,Ab,Ac,Ad,Ae,Af,Ag])
   exact aa.pos rfl (aa.pos (by simp) (aa.some rfl))
theorem GD(J:JC a b X Y)(off:Int)(h:c_ F X.length Y.length (dE a b X Y off) (wJ a b X Y)):∀(t i f:Nat) (out:List (List G)),i+t=X.length→f≤Y.length→out.length+t≤100000 →
  aZ sf [.l a,.l b,.l (bH X),.l (bH Y),.i off,.l (dF F X.length Y.length 0),.l out,.i (f:Int),.i (X.length:Int),.i (i:Int)] (t+1)
   fun c g=>c=0∧g=[.l a,.l b,.l (bH X),.l (bH Y),.i off,.l (dF F X.length Y.length 0),.l (out++(eV F Y.length (dE a b X Y off) (wJ a b X Y) t i f).map (ob X Y))]
 | 0,i,f,out,hi,k,ho=>by
  have e:out++(eV F Y.length (dE a b X Y off) (wJ a b X Y) 0 i f).map (ob X Y)=out:=by rw[eV,sY,da]
  rw[e];refine aZ.stop (x:=0) (aa.toEq ?_) ⟨rfl,rfl⟩;unfold sf
  (dsimp +instances only[Aa,Ab,Ac,Ad,Ae,Af,Ag])
  exact aa.n (aa.pos (by simp) (aa.some rfl))
 | t+1,i,f,out,hi,k,ho=>by
  have nX:=J.nX;have nY:=J.nY;have u:=Rk J off h out (by omega) (f:=f) (i:=i) (by omega) k (Y.length-f) f (by omega);have step:∀ q,eB (dU F (dE a b X Y off) (wJ a b X Y) (F i f) i) f (Y.length-f)=q→aa (sf [.l a,.l b,.l (bH X),.l (bH Y),.i off,.l (dF F X.length Y.length 0),.l out,.i (f:Int),.i (X.length:Int),.i (i:Int)])
    (fun o=>o=(none,[.l a,.l b,.l (bH X),.l (bH Y),.i off,.l (dF F X.length Y.length 0),.l (Ri X Y out i q),.i (Rj f q:Int),.i (X.length:Int),.i ((i+1:Nat):Int)])):=fun q d=>by
   rw[d]at u;unfold sf
   (dsimp +instances only[Aa,Ab,Ac,Ad,Ae,Af,Ag])
   refine aa.p ?_;refine aa.loop (u.to (by omega)) (by simp) ?_;rintro _ _ ⟨rfl,rfl⟩
   (dsimp +instances only[Aa,Ab,Ac,Ad,Ae,Af,Ag])
   exact aa.p (aa.pos (by simp) (aa.some rfl))
  cases d:eB (dU F (dE a b X Y off) (wJ a b X Y) (F i f) i) f (Y.length-f)with
  | none =>
   have:=GD J off h t (i+1) f out (by omega) k (by omega);rw[n9 d];exact aZ.next (aa.toEq (step none d)) this
  | some q =>
   obtain⟨v,y,_,_⟩:=pT d;have:=GD J off h t (i+1) (q+1) (out++[ob X Y (i,q)]) (by omega) (by omega) (by simp; omega);rw[pU d,dx];rw[gF]at this;exact aZ.next (aa.toEq (step (some q) d)) this
theorem afX(J:JC a b X Y)(off:Int)(d:c_ F X.length Y.length (dE a b X Y off) (wJ a b X Y)) :
  zB [.l a,.l b,.l (bH X),.l (bH Y),.i off,.l []]=some [.l a,.l b,.l (bH X),.l (bH Y),.i off,.l (dF F X.length Y.length 0),.l ((eV F Y.length (dE a b X Y off) (wJ a b X Y) X.length 0 0).map (ob X Y))]:=by
 have nX:=J.nX;refine aa.toEq ?_;unfold zB
 (dsimp +instances only[Aa,Ab,Ac,Ad,Ae,Af,Ag])
 refine aa.cE (afW J off d) ?_
 (dsimp +instances only[Aa,Ab,Ac,Ad,Ae,Af,Ag])
 simp only[lK];have h:=GD J off d X.length 0 0 [] (by omega) (eC _) (by simp; omega);rw[k0]at h;refine aa.loop (h.to (by omega)) (by first|rfl|simp) ?_;rintro _ _ ⟨rfl,rfl⟩
 (dsimp +instances only[Aa,Ab,Ac,Ad,Ae,Af,Ag])
 exact aa.pos (by simp) (aa.some rfl)
end
abbrev GK:=ByteArray × Int
def dq(k:GK):List G:=[.s k.1,.i k.2]
theorem afY(k:GK):ba [.str,.int .i64] (dq k) (dq k)=true:=by
 show ((k.1.toList==k.1.toList)&&((k.2==k.2)&&true))=true
 simp
theorem afZ{k k':GK}(h:k≠k'):ba [.str,.int .i64] (dq k) (dq k')=false:=by
 show ((k.1.toList==k'.1.toList)&&((k.2==k'.2)&&true))=false
 cases h1:k.1.toList==k'.1.toList with
 |false=>rfl
 | true =>
  cases d:k.2==k'.2 with
  |false=>rfl
  |true=>exact(h (Prod.ext (IG (eq_of_beq h1)) (eq_of_beq d))).elim
def iY(i:Nat)(e:GK × List Nat):List G:=[.l [dq e.1],.l [[.l (bH e.2)]],.i (i:Int),.t true]
def bz:Nat→List (GK × List Nat)→List (List G)
 |_,[]=>[]
 |i,e::L=>iY i e::bz (i+1) L
theorem vR:∀(i:Nat) (L:List (GK × List Nat)),(bz i L).length=L.length
 |_,[]=>rfl
 |i,_::L=>by simp[bz,vR (i+1) L]
theorem sH:∀(i:Nat) (A B:List (GK × List Nat)),bz i (A++B)=bz i A++bz (i+A.length) B
 |i,[],B=>by simp[bz]
 | i,e::A,B=>by
  simp only[lR,bz,sH (i+1) A B,cD];rw[show i+1+A.length=i+(A.length+1) from by omega]
def j6(k:GK)(v:Nat):List (GK × List Nat)→List (GK × List Nat)
 | []=>[(k,[v])]
 |e::L=>if e.1=k then (e.1,e.2++[v])::L else e::j6 k v L
theorem z_(k:GK):∀ L:List (GK × List Nat),(∀ e∈L,e.1≠k)∨∃ A vs B,L=A++(k,vs)::B∧∀ e∈A,e.1≠k
 | []=>.inl fun e h=>by cases h
 | e::L=>by
  by_cases he:e.1=k
  ·exact .inr ⟨[],e.2,L,by rw[←he]; rfl,fun e h=>by cases h⟩
  ·rcases z_ k L with h | ⟨A, vs, B, rfl, h⟩
   ·exact .inl fun x d=>by
     rcases bY.1 d with rfl|d
     ·exact he
     ·exact h x d
   ·exact .inr ⟨e::A,vs,B,rfl,fun x d=>by
     rcases bY.1 d with rfl|d
     ·exact he
     ·exact h x d⟩
theorem Ah{k:GK}(v:Nat):∀{L:List (GK × List Nat)},(∀ e∈L,e.1≠k)→j6 k v L=L++[(k,[v])]
 | [],_=>rfl
 | e::L,h=>by
  rw[j6,if_neg (h e cY),Ah v fun x d=>h x (di _ d)];rfl
theorem Ai{k:GK}(v:Nat)(vs:List Nat)(B:List (GK × List Nat)):∀{A:List (GK × List Nat)},(∀ e∈A,e.1≠k)→j6 k v (A++(k,vs)::B)=A++(k,vs++[v])::B
 | [],_=>by rw[k0,j6,if_pos rfl,k0]
 | e::A,h=>by
  rw[lR,j6,if_neg (h e cY),Ai v vs B fun x d=>h x (di _ d)];rfl
theorem GF(k:GK)(R:List (List G)):∀(A:List (GK × List Nat)) (i j:Nat),(∀ e∈A,e.1≠k)→bX [.str,.int .i64] (dq k) (bz i A++R) j=bX [.str,.int .i64] (dq k) R (j+A.length)
 | [],_,_,_=>rfl
 | e::A,i,j,h=>by
  rw[bz,lR,bX,show (gi (iY i e) 0).row=dq e.1 from rfl,afZ (Ne.symm (h e cY)),cond_false,GF k R A (i+1) (j+1) fun x d=>h x (di _ d),cD];congr 1;omega
theorem Rl{k:GK}{L:List (GK × List Nat)}(h:∀ e∈L,e.1≠k)(i j:Nat):bX [.str,.int .i64] (dq k) (bz i L) j=none:=by
 have:=GF k [] L i j h;rw[da]at this;exact this
theorem Rm{k:GK}{A:List (GK × List Nat)}(h:∀ e∈A,e.1≠k)(i:Nat)(r:List G)(d:(gi r 0).row=dq k)(R:List (List G)):bX [.str,.int .i64] (dq k) (bz i A++r::R) 0=some (A.length,r):=by
 rw[GF k (r::R) A i 0 h,bX,d,afY,cond_true,cT]
theorem Rn(R:List (List G)):∀(A:List (GK × List Nat)) (i j c:Nat),i+A.length≤c→fa (c:Int) (bz i A++R) j=fa (c:Int) R (j+A.length)
 | [],_,_,_,_=>rfl
 | e::A,i,j,c,h=>by
  rw[cD]at h;have hb:(((gi (iY i e) 2).int.toNat:Int)==(c:Int))=false:=by
   show (((i:Int).toNat:Int)==(c:Int))=false
   rw[a8,beq_eq_false_iff_ne];omega
  rw[bz,lR,fa,hb,cond_false,Rn R A (i+1) (j+1) c (by omega),cD];congr 1;omega
theorem Ro(A:List (GK × List Nat))(r:List G)(R:List (List G))(d:(gi r 2).int=(A.length:Int)):fa (A.length:Int) (bz 0 A++r::R) 0=some (A.length,r):=by
 rw[Rn (r::R) A 0 0 A.length (by omega),fa,d,a8,show ((A.length:Int)==(A.length:Int))=true from by simp,cond_true,cT]
theorem vS{α:Type}(p:List α)(x y:α)(q:List α)(n:Nat)(h:p.length=n):(p++x::q).set n y=p++y::q:=by
 subst h;rw[List.set_append_right _ _ (aD _),Nat.sub_self,List.set_cons_zero]
def od(L:List (GK × List Nat)):Nat:=(L.map fun e=>e.2.length).sum
theorem af0{L:List (GK × List Nat)}{e:GK × List Nat}(h:e∈L):e.2.length≤od L:=by
 induction L with
 |nil=>cases h
 | cons x L d =>
  unfold od at d⊢;rw[dx,S3];rcases bY.1 h with rfl|h
  ·omega
  ·have := d h
   omega
theorem Rp(k:GK)(v:Nat):∀ L:List (GK × List Nat),od (j6 k v L)=od L+1
 | []=>rfl
 | e::L=>by
  have d:=Rp k v L;rw[j6];split
  ·unfold od
   simp;omega
  ·unfold od at d ⊢
   rw[dx,S3,dx,S3,d];omega
theorem af1(L:List (GK × List Nat))(k:GK)(v:Nat) :
  eu [.str,.int .i64] (bz 0 L) (dq k)=true∧(cw [.str,.int .i64] (bz 0 L) (dq k)).length≤od L ∧
   qU (ls [.str,.int .i64] (bz 0 L) (dq k) L.length) (lr [.str,.int .i64] (bz 0 L) (dq k) L.length:Nat)=true ∧
   qT (ls [.str,.int .i64] (bz 0 L) (dq k) L.length) (lr [.str,.int .i64] (bz 0 L) (dq k) L.length:Nat) (cw [.str,.int .i64] (bz 0 L) (dq k)++[[.i (v:Int)]])=bz 0 (j6 k v L) ∧
   bE [.str,.int .i64] (bz 0 L) (dq k) L.length=(j6 k v L).length:=by
 rcases z_ k L with h1|⟨A,vs,B,rfl,y⟩
 ·have d := Rl h1 0 0
  have g:cw [.str,.int .i64] (bz 0 L) (dq k)=[]:=by unfold cw; rw[d]
  have h:ls [.str,.int .i64] (bz 0 L) (dq k) L.length=bz 0 L++[[.l [dq k],.l [[.l []]],.i (L.length:Int),.t false]]:=by unfold ls; rw[d]
  have q:lr [.str,.int .i64] (bz 0 L) (dq k) L.length=L.length:=by unfold lr; rw[d]
  have u:=Ro L [.l [dq k],.l [[.l []]],.i (L.length:Int),.t false] [] rfl;refine⟨by unfold eu; rw[d],by rw[g]; simp,?_,?_,?_⟩
  ·rw [h, q]
   unfold qU;rw[u];rfl
  ·rw [h, q, g, Ah v h1, sH]
   unfold qT;rw[u];simp only[];rw[vS _ _ _ _ _ (vR 0 L),cT];rfl
  ·rw [Ah v h1]
   unfold bE dT;rw[d];simp
 ·have d:bX [.str,.int .i64] (dq k) (bz 0 (A++(k,vs)::B)) 0=some (A.length,iY A.length (k,vs)):=by
   rw[sH,bz,cT];exact Rm y 0 (iY A.length (k,vs)) rfl _
  have g:cw [.str,.int .i64] (bz 0 (A++(k,vs)::B)) (dq k)=bH vs:=by unfold cw; rw[d]; rfl
  have h:ls [.str,.int .i64] (bz 0 (A++(k,vs)::B)) (dq k) (A++(k,vs)::B).length=bz 0 A++[.l [dq k],.l [[.l (bH vs)]],.i (A.length:Int),.t false]::bz (A.length+1) B:=by
   unfold ls;rw[d,sH,bz,cT];exact vS _ _ _ _ _ (vR 0 A)
  have q:lr [.str,.int .i64] (bz 0 (A++(k,vs)::B)) (dq k) (A++(k,vs)::B).length=A.length:=by
   unfold lr;rw[d];show ((A.length:Int).toNat)=A.length
   exact a8 _
  have u:=Ro A [.l [dq k],.l [[.l (bH vs)]],.i (A.length:Int),.t false] (bz (A.length+1) B) rfl;refine⟨by unfold eu; rw[d]; rfl,by rw[g,lK]; exact af0 (e:=(k,vs)) (by simp),?_,?_,?_⟩
  ·rw [h, q]
   unfold qU;rw[u];rfl
  ·rw [h, q, g, Ai v vs B y, sH, bz, cT]
   unfold qT;rw[u];simp only[];rw[vS _ _ _ _ _ (vR 0 A)];have I:bH vs++[[G.i (v:Int)]]=bH (vs++[v]):=by unfold bH; rw[ke]; rfl
   rw[I];rfl
  ·rw [Ai v vs B y]
   unfold bE dT;rw[d];simp
/-! ### d of a log -/
def fc(r:List G):GK:=(aU r,lI r)
def kS(l:List (List G))(s:ByteArray)(i:Nat):Bool:=(Gy (l.getD i [])).toList==s.toList
def mG(l:List (List G))(s:ByteArray)(L:List (GK × List Nat))(i:Nat):List (GK × List Nat):=bif kS l s i then j6 (fc (l.getD i [])) i L else L
def lL(l:List (List G))(s:ByteArray)(n:Nat):List (GK × List Nat):=(dI n).foldl (mG l s) []
theorem Rq(l:List (List G))(s:ByteArray)(n:Nat):lL l s (n+1)=mG l s (lL l s n) n:=by
 unfold lL;rw[HJ,aih];rfl
def fD(l:List (List G))(s:ByteArray)(k:GK)(n:Nat):List Nat:=(dI n).filter fun i=>kS l s i&&decide (fc (l.getD i [])=k)
theorem GG(l:List (List G))(s:ByteArray)(k:GK)(n:Nat):fD l s k (n+1)=fD l s k n++if kS l s n=true∧fc (l.getD n [])=k then [n] else []:=by
 unfold fD;rw[HJ,List.filter_append];congr 1;by_cases h1:kS l s n=true
 ·by_cases d : fc (l.getD n []) = k
  ·rw[if_pos ⟨h1,d⟩,HH,if_pos (by rw[h1,qa,decide_eq_true_eq]; exact d),S4]
  ·rw[if_neg fun e=>d e.2,HH,if_neg (by rw[h1,qa,decide_eq_true_eq]; exact d),S4]
 ·rw[if_neg fun e=>h1 e.1,HH,if_neg (by rw[az]; exact fun e=>h1 e.1),S4]
structure GI (l:List (List G)) (s:ByteArray) (n:Nat) (L:List (GK × List Nat)):Prop where
 GH:od L≤n
 len:L.length≤n
 nd:(L.map (·.1)).Nodup
 pV:∀ e∈L,e.2=fD l s e.1 n∧e.2≠[]
 all:∀ k,fD l s k n≠[]→∃ e∈L,e.1=k
theorem GI.zero(l:List (List G))(s:ByteArray):GI l s 0 []:=⟨aD _,aD _,by simp,by simp,fun k h=>(h rfl).elim⟩
theorem GI.step{l:List (List G)}{s:ByteArray}{n:Nat}{L:List (GK × List Nat)}(h:GI l s n L):GI l s (n+1) (mG l s L n):=by
 unfold mG;cases hw:kS l s n with
 | false =>
  have e:∀ k,fD l s k (n+1)=fD l s k n:=fun k=>by rw[GG,if_neg (by rw[hw]; simp),da]
  exact⟨S5 h.GH,S5 h.len,h.nd,fun x d=>by rw[e]; exact h.pV x d,fun k hk=>by rw[e]at hk; exact h.all k hk⟩
 | true =>
  rw[cond_true];have v:fD l s (fc (l.getD n [])) (n+1)=fD l s (fc (l.getD n [])) n++[n]:=by rw[GG,if_pos ⟨hw,rfl⟩]
  have q:∀ k,fc (l.getD n [])≠k→fD l s k (n+1)=fD l s k n:=fun k hk=>by rw[GG,if_neg (fun e=>hk e.2),da]
  have I:=Rp (fc (l.getD n [])) n L;have U:=h.GH;have M:=h.len;rcases z_ (fc (l.getD n [])) L with h1|⟨A,vs,B,rfl,J⟩
  ·rw [Ah n h1] at I ⊢
   refine⟨by omega,by simp; omega,?_,fun x d=>?_,fun k hk=>?_⟩
   ·rw [ke, aii]
    refine⟨h.nd,by simp,fun a ha b hb=>?_⟩;obtain⟨e,he,rfl⟩:=dp.1 ha;simp at hb;subst hb;exact h1 e he
   ·rcases cU.1 d with d | d
    ·rw [q x.1 (Ne.symm (h1 x d))]
     exact h.pV x d
    ·have d := wy.1 d
     subst d;show [n]=fD l s (fc (l.getD n [])) (n+1)∧[n]≠[]
     rw[v];have:fD l s (fc (l.getD n [])) n=[]:=by
      cases N:fD l s (fc (l.getD n [])) n with
      |nil=>rfl
      | cons y V =>
       obtain⟨e,he,hk⟩:=h.all (fc (l.getD n [])) (by rw[N]; simp);exact(h1 e he hk).elim
     rw[this];simp
   ·by_cases e : fc (l.getD n []) = k
    ·exact⟨_,wB _ cY,e⟩
    ·rw [q k e] at hk
     obtain⟨x,d,g⟩:=h.all k hk;exact⟨x,qc _ d,g⟩
  ·rw [Ai n vs B J] at I ⊢
   have u:=h.nd;rw[ke,dx]at u;have O:∀ e∈B,e.1≠fc (l.getD n []):=fun e he hk=>by
    have:=(aii.1 u).2.1;rw[lW]at this;exact this.1 (hk▸dp.2 ⟨e,he,rfl⟩)
   refine⟨by omega,by simp at M⊢; omega,?_,fun x d=>?_,fun k hk=>?_⟩
   ·rw [ke, dx]
    exact u
   ·rcases cU.1 d with d | d
    ·rw [q x.1 (Ne.symm (J x d))]
     exact h.pV x (qc _ d)
    ·rcases bY.1 d with rfl | d
     ·have := h.pV (fc (l.getD n []), vs) (by simp)
      simp only at this⊢;rw[v,←this.1];simp
     ·rw [q x.1 (Ne.symm (O x d))]
      exact h.pV x (wB _ (di _ d))
   ·by_cases e : fc (l.getD n []) = k
    ·exact⟨_,wB _ cY,e⟩
    ·rw [q k e] at hk
     obtain⟨x,d,g⟩:=h.all k hk;rcases cU.1 d with d|d
     ·exact⟨x,qc _ d,g⟩
     ·rcases bY.1 d with rfl | d
      ·exact(e g).elim
      ·exact⟨x,wB _ (di _ d),g⟩
theorem GI.to(l:List (List G))(s:ByteArray):∀ n,GI l s n (lL l s n)
 |0=>GI.zero l s
 | n+1=>by
  rw[Rq];exact(GI.to l s n).step
def fE(l:List (List G))(s:ByteArray):List (GK × List Nat):=lL l s l.length
theorem af2(l:List (List G))(B:l.length≤100000)(s:ByteArray) :
  jY sb [.l [],.i 0,.s s,.l l,.i (l.length:Int),.i 0] fun c g=>c=0∧g=[.l (bz 0 (fE l s)),.i ((fE l s).length:Int)]:=by
 have r:=XM (st:=sb) (σ:=List (GK × List Nat)) (fun L i=>[.l (bz 0 L),.i (L.length:Int),.s s,.l l,.i (l.length:Int),.i (i:Int)]) l (fun L=>(0,[.l (bz 0 L),.i (L.length:Int)]))
  (fun L i=>L=lL l s i) [] (by omega) rfl
  (fun L i z d hi q hm I => by
   have u:=GI.to l s i;rw[←d]at u;have J:=u.GH;have k:mG l s L i=lL l s (i+1):=by rw[Rq,d]
   obtain⟨v,a2,a3,a4,a5⟩:=af1 L (fc z) i;unfold sb
   (dsimp +instances only[Aa,Ab,Ac,Ad,Ae,Af,Ag])
   simp only[a8,q];refine aa.p (aa.p ?_);have y:([.s (gi z 2).str,.i (gi z 1).int]:List G)=dq (fc z):=rfl;rw[y,a4,a5];refine aa.test (fun h=>?_) fun h=>?_
   ·have e:mG l s L i=j6 (fc z) i L:=by
     unfold mG kS;rw[q,show ((Gy z).toList==s.toList)=true from h,cond_true]
    rw[e]at k;exact aa.pos v (aa.pos (by simp; omega) (aa.pos (by rw[a3]; simp) (aa.p (aa.some ⟨_,rfl,k⟩))))
   ·have e:mG l s L i=L:=by
     unfold mG kS;rw[q,show ((Gy z).toList==s.toList)=false from h,cond_false]
    rw[e]at k;exact aa.p (aa.some ⟨L,rfl,k⟩))
  (fun L d => by
   unfold sb
   (dsimp +instances only[Aa,Ab,Ac,Ad,Ae,Af,Ag])
   simp only[a8];exact aa.n (aa.some rfl))
 refine r.mono ?_;rintro c g ⟨L,d,rfl,rfl⟩;exact⟨rfl,by rw[d]; rfl⟩
theorem Rr:∀(i:Nat) (L:List (GK × List Nat)),yu (bz i L)=true
 |_,[]=>rfl
 | i,e::L=>by
  have:=Rr (i+1) L;unfold yu at this⊢;rw[bz,List.all_cons,this];rfl
theorem Rs(l:List (List G))(d:l.length≤100000)(s:ByteArray):vo [.l l,.s s]=some [.l (bz 0 (fE l s)),.i ((fE l s).length:Int)]:=by
 refine aa.toEq ?_;unfold vo
 (dsimp +instances only[Aa,Ab,Ac,Ad,Ae,Af,Ag])
 refine aa.loop (af2 l d s) (by first|rfl|simp) ?_;rintro _ _ ⟨rfl,rfl⟩
 (dsimp +instances only[Aa,Ab,Ac,Ad,Ae,Af,Ag])
 simp only[a8];exact aa.pos (by rw[Rr]; rfl) (aa.some rfl)
theorem af3(l:List (List G))(s:ByteArray)(k:GK):aB [.str,.int .i64] (bz 0 (fE l s)) (dq k) [.l []]=[.l (bH (fD l s k l.length))]:=by
 have g:=GI.to l s l.length;show aB [.str,.int .i64] (bz 0 (lL l s l.length)) (dq k) [.l []]=_
 rcases z_ k (lL l s l.length)with h1|⟨A,vs,B,he,h⟩
 ·have:fD l s k l.length=[]:=by
   cases d:fD l s k l.length with
   |nil=>rfl
   | cons y u =>
    obtain⟨e,he,hk⟩:=g.all k (by rw[d]; simp);exact(h1 e he hk).elim
  unfold aB;rw[Rl h1,this];rfl
 ·have q:bX [.str,.int .i64] (dq k) (bz 0 (lL l s l.length)) 0=some (A.length,iY A.length (k,vs)):=by
   rw[he,sH,bz,cT];exact Rm h 0 (iY A.length (k,vs)) rfl _
  have d:=g.pV (k,vs) (by rw[he]; simp);unfold aB;rw[q];show [G.l (bH vs)]=_
  rw[show vs=fD l s k l.length from d.1]
def sI(A B:List (List G))(off:Int)(X Y:List Nat):List (Nat × Nat):=eV (kR X.length Y.length (dE A B X Y off) (wJ A B X Y)) Y.length (dE A B X Y off) (wJ A B X Y) X.length 0 0
def bg(A:List (List G))(d:ByteArray)(k:GK):List Nat:=fD A d k A.length
def jB(A B:List (List G))(ac d:ByteArray)(off:Int)(k:GK):List (List G):=(sI A B off (bg A d k) (bg B ac k)).map (ob (bg A d k) (bg B ac k))
def gd(A B:List (List G))(ac d:ByteArray)(off:Int):List (List G):=((fE A d).map fun e=>jB A B ac d off e.1).flatten
def kT(r s:List G):Int:=fC (gi r 0).int (gi s 0).int
def iZ(A B:List (List G))(ac d:ByteArray)(off:Int):List (List G):=cP (bF kT) (gd A B ac d off)
theorem kU{A:List (List G)}{s:ByteArray}{k:GK}{i:Nat}:i∈bg A s k↔i<A.length∧kS A s i=true∧fc (A.getD i [])=k:=by
 unfold bg fD;rw[List.mem_filter,eO,az,decide_eq_true_eq]
theorem Rt(A:List (List G))(s:ByteArray)(k:GK):(bg A s k).length≤A.length:=by
 unfold bg fD;have:=List.length_filter_le (fun i=>kS A s i&&decide (fc (A.getD i [])=k)) (dI A.length)
 rwa [sT]at this
theorem Ru(A:List (List G))(s:ByteArray)(k:GK):(bg A s k).Pairwise (·<·):=(List.pairwise_lt_range).filter _
structure gD (A B:List (List G)):Prop where
 ha:∀ z∈A,fR z
 hb:∀ z∈B,fR z
 na:A.length≤1000
 nb:B.length≤1000
theorem gD.flip{A B:List (List G)}(h:gD A B):gD B A:=⟨h.hb,h.ha,h.nb,h.na⟩
theorem gD.jc{A B:List (List G)}(h:gD A B)(ac d:ByteArray)(k:GK):JC A B (bg A d k) (bg B ac k):=by
 have h1:=h.na;have g:=h.nb;have q:=Rt A d k;have u:=Rt B ac k;exact⟨h.ha,h.hb,fun i hi=>(kU.1 hi).1,fun i hi=>(kU.1 hi).1,by omega,by omega,by omega,by omega⟩
theorem Aj{A B:List (List G)}{off:Int}{X Y:List Nat}{x:Nat × Nat}(h:x∈sI A B off X Y):x.1<X.length∧x.2<Y.length∧dE A B X Y off x.1 x.2=true:=by
 obtain⟨_,b,_,d,e⟩:=zY _ _ _ x h;exact⟨by omega,d,e⟩
theorem af4(A B:List (List G))(off:Int)(X Y:List Nat):(sI A B off X Y).length≤X.length:=by
 have key:∀(F:Nat→Nat→Int) (m:Nat) (ok:Nat→Nat→Bool) (w:Nat→Nat→Int) (t i f:Nat),(eV F m ok w t i f).length≤t:=by
  intro F m ok w t
  induction t with
  |zero=>intro i f; exact aD _
  | succ t d =>
   intro i f;rw[eV];split
   ·rw [cD]
    exact Nat.succ_le_succ (d _ _)
   ·exact S5 (d _ _)
 exact key _ _ _ _ _ _ _
/-! ### d program -/
def GJ(r:List G):Prop:=∃ i k:Nat,r=[.i (i:Int),.i (k:Int)]∧i≤100000∧k≤100000
theorem af5:rP sg GJ kT:=by
 rintro _ _ ⟨i,k,rfl,h1,g⟩ ⟨d,k',rfl,h,q⟩;refine⟨(i:Int)-(d:Int),?_,?_⟩
 ·refine aa.toEq ?_
  unfold sg
  (dsimp +instances only[Aa,Ab,Ac,Ad,Ae,Af,Ag])
  exact aa.pos (kF.2 ⟨by omega,by omega⟩) (aa.some rfl)
 ·show (i : Int) - (d : Int) < 0 ↔ fC (i : Int) (d : Int) < 0
  rw[sD];omega
theorem GL:eS (bF kT) (fun _=>True):=Q8 (fun a b=>n4.flip _ _) fun a b d h1 g=>n4.le _ _ _ h1 g
theorem GM{A B:List (List G)}(h:gD A B){ac d:ByteArray}{off:Int}{k:GK}{r:List G}(g:r∈jB A B ac d off k) :
  ∃ i j:Nat,r=[.i (i:Int),.i (j:Int)]∧i∈bg A d k∧j∈bg B ac k∧lJ off (A.getD i []) (B.getD j [])=true:=by
 obtain⟨x,q,rfl⟩:=dp.1 g;obtain⟨a,b,c⟩:=Aj q;exact⟨_,_,rfl,n_ a,n_ b,c⟩
theorem GN{A B:List (List G)}(h:gD A B){ac g:ByteArray}{off:Int}{r:List G}(d:r∈gd A B ac g off) :
  ∃(k:GK) (i j:Nat),r=[.i (i:Int),.i (j:Int)]∧i∈bg A g k∧j∈bg B ac k∧lJ off (A.getD i []) (B.getD j [])=true:=by
 obtain⟨l,q,d⟩:=Ho.1 d;obtain⟨e,_,rfl⟩:=dp.1 q;obtain⟨i,j,h1⟩:=GM h d;exact⟨_,i,j,h1⟩
theorem GO{A B:List (List G)}(h:gD A B){ac d:ByteArray}{off:Int}:∀ r∈gd A B ac d off,GJ r:=fun r g=>by
 obtain⟨k,i,j,rfl,h1,q,_⟩:=GN h g;have:=(kU.1 h1).1;have:=(kU.1 q).1;have:=h.na;have:=h.nb;exact⟨i,j,rfl,by omega,by omega⟩
theorem GP{A B:List (List G)}(h:gD A B)(ac d:ByteArray)(off:Int):(gd A B ac d off).Pairwise fun a b=>(gi a 0).int≠(gi b 0).int:=by
 have M:=GI.to A d A.length;unfold gd;rw[List.pairwise_flatten];refine⟨fun l N=>?_,?_⟩
 ·obtain ⟨e, _, rfl⟩ := dp.1 N
  unfold jB;rw[wE];refine(Gv _ _ _).imp_of_mem fun {x y} g k v he=>?_;obtain⟨q,_,_⟩:=Aj (A:=A) (B:=B) (off:=off) g;obtain⟨b1,_,_⟩:=Aj (A:=A) (B:=B) (off:=off) k;have he:(((bg A d e.1).getD x.1 0:Nat):Int)=(((bg A d e.1).getD y.1 0:Nat):Int):=he;have U:=HL.1 (Ru A d e.1) x.1 y.1 q b1 v.1;rw[ct,bL q,ct,bL b1]at he;simp only[k9]at he;omega
 ·rw [wE]
  have I:(fE A d).Pairwise fun e e'=>e.1≠e'.1:=by
   have:=M.nd;unfold S6 at this
   rwa [wE]at this
  refine I.imp fun {e e'} J x g y k he=>?_;obtain⟨i,j,rfl,h1,_⟩:=GM h g;obtain⟨u,V,rfl,O,_⟩:=GM h k;have he:(i:Int)=(u:Int):=he;have he:i=u:=by omega
  subst he;exact J ((kU.1 h1).2.2.symm.trans (kU.1 O).2.2)
theorem Rv{A B:List (List G)}(h:gD A B)(ac d:ByteArray)(off:Int):∀ a∈gd A B ac d off,∀ b∈gd A B ac d off,bF kT a b=false→bF kT b a=false→a=b:=by
 intro a ha b hb h1 k;unfold bF kT at h1 k;rw[dS,decide_eq_false_iff_not,sD]at h1 k;have he:(gi a 0).int=(gi b 0).int:=by omega
 obtain⟨i,hi,rfl⟩:=ot ha;obtain⟨j,q,rfl⟩:=ot hb;have u:=HL.1 (GP h ac d off);rcases S2 i j with g|g|g
 ·exact(u i j hi q g he).elim
 ·subst g; rfl
 ·exact(u j i q hi g he.symm).elim
theorem af6{A B:List (List G)}(h:gD A B)(ac d:ByteArray)(off:Int){out:List (List G)}(g:out.Perm (gd A B ac d off))(k:out.length<100000):sk [.l out]=some [.l (iZ A B ac d off)]:=by
 have h1:=X5 (C:=sg) (Q:=GJ) af5 (GL.mono fun _ _=>trivial) out (fun y q=>GO h y (g.mem_iff.1 q)) k fun a ha b hb=>Rv h ac d off a (g.mem_iff.1 ha) b (g.mem_iff.1 hb);unfold sk;rw[h1];have e:cP (bF kT) (gd A B ac d off)=cP (bF kT) out:=XW GL g.symm (fun _ _=>trivial) (Rv h ac d off);rw[←e];rfl
def Ak(r:List G):GK:=((gi (gi r 0).row 0).str,(gi (gi r 0).row 1).int)
theorem Rw:∀(i:Nat) (L:List (GK × List Nat)) (r:List G),r∈bz i L→∃(j:Nat) (e:GK × List Nat),e∈L∧r=iY j e
 |_,[],_,h=>by cases h
 | i,e::L,r,h=>by
  rcases bY.1 h with rfl|h
  ·exact⟨i,e,cY,rfl⟩
  ·obtain ⟨j, e', h1, d⟩ := Rw (i + 1) L r h
   exact⟨j,e',di _ h1,d⟩
theorem Rx{β:Type}(f:GK→β):∀(i:Nat) (L:List (GK × List Nat)),(bz i L).map (fun r=>f (Ak r))=L.map fun e=>f e.1
 |_,[]=>rfl
 | i,e::L=>by
  simp only[bz,dx,Rx f (i+1) L];rfl
theorem Ry:∀(i:Nat) (L:List (GK × List Nat)),(bz i L).map c6=(dI L.length).map (i+·)
 |_,[]=>rfl
 | i,e::L=>by
  simp only[bz,dx,Ry (i+1) L,cD,List.range_succ_eq_map,ox];rw[show c6 (iY i e)=i from by simp[c6,iY,gi,G.int]];congr 1;refine List.map_congr_left fun x _=>?_;simp only[HD];omega
theorem Rz:∀ l:List Nat,l.Nodup→nodupB l=true
 | [],_=>rfl
 | a::l,d=>by
  obtain⟨h1,g⟩:=lW.1 d;simp only[nodupB,Rz l g,fT,mQ];cases h:l.any (ad a)with
  |false=>rfl
  | true =>
   obtain⟨x,k,e⟩:=jF.1 h;rw[Nat.eq_of_beq_eq_true e]at h1;exact(h1 k).elim
theorem af7(L:List (GK × List Nat)):lA (bz 0 L) L.length=true:=by
 have hb:(bz 0 L).map c6=dI L.length:=by
  rw[Ry];simp
 unfold lA;rw[hb,az];refine⟨Rz _ List.nodup_range,?_⟩;rw[cQ];intro r d;have:c6 r∈(bz 0 L).map c6:=dp.2 ⟨r,d,rfl⟩;rw[hb,eO]at this;simpa using this
theorem af8{st:List G→List G→Option (List G)}{bf:List G→Nat}{r:List G}{q:List (List G)}{d d':List G}(h:st r d=some d')(ha:bf d'=bf d):cL st bf (r::q) d=cL st bf q d':=by
 simp only[cL,h];rw[ha,show ad (bf d) (bf d)=true from wC _,cond_true]
theorem RA{A B:List (List G)}(h:gD A B)(ac g:ByteArray)(off:Int)(clk bf:Nat):∀(q out:List (List G)),(∀ r∈q,r∈bz 0 (fE A g))→out.length+1000*q.length≤1000000 →
  cL zD (fun d=>(gi d 8).int.toNat) q [.s ac,.l A,.s g,.l B,.l (bz 0 (fE B ac)),.i (clk:Int),.l out,.i off,.i (bf:Int)] =
   some [.s ac,.l A,.s g,.l B,.l (bz 0 (fE B ac)),.i (clk:Int),.l (out++(q.map fun r=>jB A B ac g off (Ak r)).flatten),.i off,.i (bf:Int)]
 | [],out,_,_=>by simp[cL]
 | r::q,out,k,u=>by
  simp only[cD]at u;obtain⟨j,e,he,rfl⟩:=Rw 0 _ r (k r cY);have v:=(GI.to A g A.length).pV e he;have hk:Ak (iY j e)=e.1:=rfl;have hX:e.2=bg A g e.1:=v.1;have J:=h.jc ac g e.1;have hlen:(jB A B ac g off e.1).length≤1000:=by
   unfold jB;rw[dO];exact mI (af4 _ _ _ _ _) J.nX
  have st:zD (iY j e) [.s ac,.l A,.s g,.l B,.l (bz 0 (fE B ac)),.i (clk:Int),.l out,.i off,.i (bf:Int)]=some [.s ac,.l A,.s g,.l B,.l (bz 0 (fE B ac)),.i (clk:Int),.l (out++jB A B ac g off e.1),.i off,.i (bf:Int)]:=by
   have y:(gi (gi (iY j e) 1).row 0).rows=bH e.2:=rfl;have I:aF [.str,.int .i64] (gi (iY j e) 0).row=dq e.1:=rfl;refine aa.toEq ?_;unfold zD;rw[y,I]
   (dsimp +instances only[Aa,Ab,Ac,Ad,Ae,Af,Ag])
   rw[af3,hX]
   (dsimp +instances only[Aa,Ab,Ac,Ad,Ae,Af,Ag])
   refine aa.cE (afX J off (zZ _ _ _ _)) ?_
   (dsimp +instances only[Aa,Ab,Ac,Ad,Ae,Af,Ag])
   simp only[a8];exact aa.pos (by
    show ((ad out.length out.length)&&decide (out.length+(jB A B ac g off e.1).length≤1048576))=true
    rw[wC,qa,decide_eq_true_eq];omega) (aa.pos (by rw[wC]; rfl) (aa.some rfl))
  rw[af8 st rfl,RA h ac g off clk bf q _ (fun x M=>k x (di _ M)) (by rw[fH]; omega)];rw[dx,List.flatten_cons,hk,gF]
theorem Al:∀(n:Nat) (l:List Nat),l.Nodup→(∀ x∈l,x<n)→l.length≤n
 | 0,l,_,h=>by
  cases l with
  |nil=>exact aD _
  |cons x l=>exact absurd (h x cY) (by omega)
 | n+1,l,g,h=>by
  by_cases hm:n∈l
  ·have h1:=Al n (l.erase n) (g.erase n) fun x d=>by
    have k:=h x (List.mem_of_mem_erase d);have q:x≠n:=fun e=>by
     subst e;exact(List.Nodup.not_mem_erase g) d
    omega
   rw[List.length_erase_of_mem hm]at h1;omega
  ·have:=Al n l g fun x d=>by
    have k:=h x d;have q:x≠n:=fun e=>hm (e▸d);omega
   omega
theorem af9{A B:List (List G)}(h:gD A B)(ac d:ByteArray)(off:Int) :
  Fx [.s ac,.l A,.s d,.l B,.l (bz 0 (fE A d)),.i ((fE A d).length:Int),.l (bz 0 (fE B ac)),.i ((fE B ac).length:Int),.l [],.i off]=some (some 0,[.l (iZ A B ac d off)]):=by
 have O:=GI.to A d A.length;have U:=O.len;have na:=h.na;show jx zF zG (bz 0 (fE A d)) (((fE A d).length:Int).toNat) _=_
 rw[a8];refine XX (af7 _) fun b p q=>⟨rfl,?_⟩
 have hpn:p.length≤1000:=by
  have:=q.length_eq;rw[vR]at this;have:(fE A d).length≤A.length:=U;omega
 have v:((p.map fun r=>jB A B ac d off (Ak r)).flatten).Perm (gd A B ac d off):=by
  unfold gd;rw[←Rx (fun k=>jB A B ac d off k) 0 (fE A d)];exact(q.map _).flatten
 have hall:(gd A B ac d off).length≤1000:=by
  have M:((gd A B ac d off).map fun r=>(gi r 0).int.toNat).Nodup:=by
   unfold S6;rw[wE];refine(GP h ac d off).imp_of_mem fun {x y} g V N he=>N ?_;obtain⟨i,k,rfl,_⟩:=GO h x g;obtain⟨I,k',rfl,_⟩:=GO h y V;have he:((i:Int)).toNat=((I:Int)).toNat:=he;show (i:Int)=(I:Int)
   omega
  have J:((gd A B ac d off).map fun r=>(gi r 0).int.toNat) ⊆ dI A.length:=by
   intro x g;obtain⟨r,u,rfl⟩:=dp.1 g;obtain⟨k,i,j,rfl,h1,_⟩:=GN h u;rw[eO];exact(kU.1 h1).1
  have:=Al A.length _ M fun x g=>eO.1 (J g);rw[dO]at this;omega
 refine⟨_,RA h ac d off (fE B ac).length b p [] (fun r u=>q.mem_iff.1 u) (by simp; omega),?_⟩;rw[k0];refine aa.toEq ?_;unfold zG
 (dsimp +instances only[Aa,Ab,Ac,Ad,Ae,Af,Ag])
 have W:=v.length_eq;refine aa.lE (aa.eq (af6 h ac d off v (by omega))) (by simp) ?_;rintro _ rfl
 (dsimp +instances only[Aa,Ab,Ac,Ad,Ae,Af,Ag])
 refine aa.pos ?_ (aa.some rfl);rw[W];unfold iZ;rw[yW,wC];rfl
theorem af_{A B:List (List G)}(h:gD A B)(ac d:ByteArray)(off:Int):zH [.l [[.s ac,.l A]],.l [[.s d,.l B]],.i off]=some [.l (iZ A B ac d off)]:=by
 have na:=h.na;have nb:=h.nb;refine aa.toEq ?_;unfold zH
 (dsimp +instances only[Aa,Ab,Ac,Ad,Ae,Af,Ag])
 refine aa.cE (Rs A (by omega) d) ?_
 (dsimp +instances only[Aa,Ab,Ac,Ad,Ae,Af,Ag])
 refine aa.cE (Rs B (by omega) ac) ?_
 (dsimp +instances only[Aa,Ab,Ac,Ad,Ae,Af,Ag])
 simp only[a8];refine aa.tail (P:=fun u g=>u=0∧g=[.l (iZ A B ac d off)]) ⟨_,af9 h ac d off,0,rfl,rfl,rfl⟩ (by first|rfl|simp) ?_;rintro _ _ ⟨rfl,rfl⟩
 (dsimp +instances only[Aa,Ab,Ac,Ad,Ae,Af,Ag])
 exact aa.pos (by simp) (aa.some rfl)
theorem RB(p q:List G):fS p q=fS q p:=by
 unfold fS;split<;>split<;>omega
theorem pW{off:Int}{p q:List G}:lJ off p q=true↔aU p=aU q∧lI p=lI q∧fS p q≤off:=by
 unfold lJ;rw[pS,az,az,fu,decide_eq_true_eq,decide_eq_true_eq,beq_iff_eq]
theorem af'(off:Int)(p q:List G):lJ off p q=lJ off q p:=by
 rw[lY,pW,pW,RB p q];constructor<;>rintro⟨a,b,c⟩<;>exact⟨a.symm,b.symm,c⟩
theorem aga(A B:List (List G))(X Y:List Nat)(off:Int)(i k:Nat):dE A B X Y off i k=dE B A Y X off k i:=af' _ _ _
theorem agb(A B:List (List G))(X Y:List Nat)(i k:Nat):wJ A B X Y i k=wJ B A Y X k i:=by
 unfold wJ;rw[RB]
def kV(A:List (List G)):Prop:=∀ i j,i≤j→j<A.length→c7 (A.getD i [])≤c7 (A.getD j [])
theorem RC{A:List (List G)}(h:kV A){s:ByteArray}{k:GK}{i j:Nat}(g:i<j)(d:j<(bg A s k).length):c7 (dM A (bg A s k) i)≤c7 (dM A (bg A s k) j):=by
 have q:=HL.1 (Ru A s k) i j (by omega) d g;have hm:=(kU.1 (n_ (z:=0) d)).1;unfold dM;refine h _ _ ?_ hm;rw[ct,bL (show i<(bg A s k).length by omega),ct,bL d];simp only[k9];omega
theorem Am{A:List (List G)}{s:ByteArray}{k:GK}{i:Nat}(hi:i<(bg A s k).length):aU (dM A (bg A s k) i)=k.1∧lI (dM A (bg A s k) i)=k.2:=by
 have h:=(kU.1 (n_ (z:=0) hi)).2.2;unfold fc at h;rw[Prod.ext_iff]at h;exact h
theorem agc{A B:List (List G)}(V:kV A)(W:kV B)(ac d:ByteArray)(off:Int)(hoff:off≤9999999999)(k:GK) :
  Fair (bg A d k).length (bg B ac k).length (dE A B (bg A d k) (bg B ac k) off) (wJ A B (bg A d k) (bg B ac k)):=by
 refine⟨fun i j hi hj ho=>?_,fun i p j q O g U h h1 h2=>?_⟩
 ·have := (pW.1 ho).2.2
  unfold wJ;omega
 ·have a1 := RC V O g
  have b1:=RC W U h;have I:=Am (A:=A) (s:=d) (k:=k) (show i<_ by omega);have J:=Am (A:=A) (s:=d) (k:=k) g;have M:=Am (A:=B) (s:=ac) (k:=k) (show j<_ by omega);have N:=Am (A:=B) (s:=ac) (k:=k) h;obtain⟨_,_,c1⟩:=pW.1 h1;obtain⟨_,_,c2⟩:=pW.1 h2;have e:∀ x y:List G,fS x y=if c7 y-c7 x>c7 x-c7 y then c7 y-c7 x else c7 x-c7 y:=fun _ _=>rfl
  have m1:fS (dM A (bg A d k) i) (dM B (bg B ac k) j)≤off∧fS (dM A (bg A d k) p) (dM B (bg B ac k) q)≤off∧fS (dM A (bg A d k) i) (dM B (bg B ac k) j)+fS (dM A (bg A d k) p) (dM B (bg B ac k) q)≤fS (dM A (bg A d k) i) (dM B (bg B ac k) q)+fS (dM A (bg A d k) p) (dM B (bg B ac k) j):=by
   rw[e]at c1 c2;rw[e,e,e,e];generalize c7 (dM A (bg A d k) i)=u at *;generalize c7 (dM A (bg A d k) p)=v at *;generalize c7 (dM B (bg B ac k) j)=x at *;generalize c7 (dM B (bg B ac k) q)=y at *;split at c1<;>split at c2<;>(refine⟨?_,?_,?_⟩<;>(repeat' split)<;>omega)
  refine⟨pW.2 ⟨I.1.trans M.1.symm,I.2.trans M.2.symm,m1.1⟩,pW.2 ⟨J.1.trans N.1.symm,J.2.trans N.2.symm,m1.2.1⟩,?_⟩;unfold wJ;omega
theorem agd{A B:List (List G)}(v:kV A)(y:kV B)(ac d:ByteArray)(off:Int)(u:off≤9999999999)(k:GK) :
  sI B A off (bg B ac k) (bg A d k)=(sI A B off (bg A d k) (bg B ac k)).map fun x=>(x.2,x.1):=by
 have h:=Gx (zZ (bg A d k).length (bg B ac k).length (dE A B (bg A d k) (bg B ac k) off) (wJ A B (bg A d k) (bg B ac k))) (agc v y ac d off u k) (bg A d k).length 0 0 (by omega);unfold sI;rw[h,Nat.sub_zero];have g:(fun(j i:Nat)=>dE A B (bg A d k) (bg B ac k) off i j)=dE B A (bg B ac k) (bg A d k) off:=by
  funext j i
  exact aga _ _ _ _ _ _ _
 have q:(fun(j i:Nat)=>wJ A B (bg A d k) (bg B ac k) i j)=wJ B A (bg B ac k) (bg A d k):=by
  funext j i
  exact agb _ _ _ _ _ _
 have I:(fun(j i:Nat)=>kR (bg A d k).length (bg B ac k).length (dE A B (bg A d k) (bg B ac k) off) (wJ A B (bg A d k) (bg B ac k)) i j)=kR (bg B ac k).length (bg A d k).length (dE B A (bg B ac k) (bg A d k) off) (wJ B A (bg B ac k) (bg A d k)):=by
  funext j i
  have hb:=(zZ (bg A d k).length (bg B ac k).length (dE A B (bg A d k) (bg B ac k) off) (wJ A B (bg A d k) (bg B ac k))).flip;rw[g,q]at hb;exact zX hb (zZ _ _ _ _) _ j i (aD _)
 rw[g,q,I]
theorem RD{A B:List (List G)}{ac d:ByteArray}{off:Int}{r:List G}:r∈gd A B ac d off↔∃ k,r∈jB A B ac d off k:=by
 constructor
 ·intro h
  obtain⟨l,q,u⟩:=Ho.1 h;obtain⟨e,_,rfl⟩:=dp.1 q;exact⟨_,u⟩
 ·rintro ⟨k, h⟩
  have h':=h;unfold jB at h';obtain⟨x,v,_⟩:=dp.1 h';have h1:=(Aj v).1;obtain⟨e,he,rfl⟩:=(GI.to A d A.length).all k (by
   intro g;have g:bg A d k=[]:=g;rw[g]at h1;simp at h1)
  exact Ho.2 ⟨_,dp.2 ⟨e,he,rfl⟩,h⟩
def RE(r:List G):List G:=[gi r 1,gi r 0]
theorem age{A B:List (List G)}(q:kV A)(u:kV B){ac d:ByteArray}{off:Int}(g:off≤9999999999){r:List G}(h:r∈gd A B ac d off):RE r∈gd B A d ac off:=by
 obtain⟨k,hk⟩:=RD.1 h;refine RD.2 ⟨k,?_⟩;unfold jB at hk⊢;obtain⟨x,v,rfl⟩:=dp.1 hk;rw[agd q u ac d off g k,ox];exact dp.2 ⟨x,v,rfl⟩
/-! ### g sorted d -/
theorem An(A B:List (List G))(ac d:ByteArray)(off:Int):(iZ A B ac d off).Perm (gd A B ac d off):=rO (lt:=bF kT) _
theorem agf{A B:List (List G)}(k:kV A)(q:kV B){ac d:ByteArray}{off:Int}(g:off≤9999999999){r:List G}(h:r∈iZ A B ac d off):RE r∈iZ B A d ac off :=
 (An B A d ac off).mem_iff.2 (age k q g ((An A B ac d off).mem_iff.1 h))
theorem agh{A B:List (List G)}(h:gD A B)(ac d:ByteArray)(off:Int):(iZ A B ac d off).Pairwise fun a b=>(gi a 0).int<(gi b 0).int:=by
 have h1:=uW (lt:=bF kT) GL (l:=gd A B ac d off) (fun _ _=>trivial);have k:(iZ A B ac d off).Pairwise fun a b=>(gi a 0).int≠(gi b 0).int:=(GP h ac d off).perm (An A B ac d off).symm (fun g e=>g e.symm);refine h1.imp₂ (fun {a b} g1 g2=>?_) k;unfold bF kT at g1;rw[dS,decide_eq_false_iff_not,sD]at g1;omega
theorem vT{A B:List (List G)}(h:gD A B){ac d:ByteArray}{off:Int}{r:List G}(q:r∈iZ A B ac d off) :
  ∃ i j:Nat,r=[.i (i:Int),.i (j:Int)]∧i<A.length∧j<B.length∧kS A d i=true∧kS B ac j=true∧lJ off (A.getD i []) (B.getD j [])=true:=by
 obtain⟨k,i,j,rfl,h1,u,v⟩:=GN h ((An A B ac d off).mem_iff.1 q);have g:=kU.1 h1;have a2:=kU.1 u;exact⟨i,j,rfl,g.1,a2.1,g.2.1,a2.2.1,v⟩
theorem agi{A B:List (List G)}(h:gD A B)(ac d:ByteArray)(off:Int):(iZ A B ac d off).length≤A.length:=by
 have k:((iZ A B ac d off).map fun r=>(gi r 0).int.toNat).Nodup:=by
  unfold S6;rw[wE];refine((agh h ac d off).imp_of_mem ?_);intro a b ha hb q e;obtain⟨i,j,rfl,_⟩:=vT h ha;obtain⟨g,y,rfl,_⟩:=vT h hb;have I:((i:Int)).toNat=((g:Int)).toNat:=e;have e':i=g:=by omega
  subst e';exact absurd q (Int.lt_irrefl _)
 have:=Al A.length _ k fun x u=>by
  obtain⟨r,v,rfl⟩:=dp.1 u;obtain⟨i,j,rfl,hi,_⟩:=vT h v;show ((i:Int).toNat)<_
  rwa [a8]
 simpa using this
theorem oe(ks:List Kd)(r:List G)(rs:List (List G))(key:List G):cw ks (r::rs) key=bif ba ks key (gi r 0).row then jP r else cw ks rs key:=by
 unfold cw;simp only[bX];cases ba ks key (gi r 0).row with
 |true=>rfl
 | false =>
  simp only[cond_false];rw[mC ks key rs (0+1)];cases bX ks key rs 0<;>rfl
theorem og(ks:List Kd)(r:List G)(rs:List (List G))(key:List G):eu ks (r::rs) key=bif ba ks key (gi r 0).row then (gi r 3).bool else eu ks rs key:=by
 unfold eu;simp only[bX];cases ba ks key (gi r 0).row with
 |true=>rfl
 | false =>
  simp only[cond_false];rw[mC ks key rs (0+1)];cases bX ks key rs 0<;>rfl
theorem RF(ks:List Kd)(r:List G)(rs:List (List G))(key:List G):gv ks (r::rs) key=bif ba ks key (gi r 0).row then [gi r 0,gi r 1,gi r 2,.t false]::rs else r::gv ks rs key:=by
 unfold gv;simp only[bX];cases ba ks key (gi r 0).row with
 |true=>rfl
 | false =>
  simp only[cond_false];rw[mC ks key rs (0+1)];cases bX ks key rs 0<;>rfl
theorem RG(ks:List Kd)(r:List G)(rs:List (List G))(key:List G)(v:List (List G))(c:Nat):kH ks (r::rs) key v c=bif ba ks key (gi r 0).row then [.l [key],.l [[.l v]],.i (gi r 2).int,.t true]::rs else r::kH ks rs key v c:=by
 unfold kH;simp only[bX];cases ba ks key (gi r 0).row with
 |true=>rfl
 | false =>
  simp only[cond_false];rw[mC ks key rs (0+1)];cases bX ks key rs 0<;>rfl
theorem GQ(ks:List Kd)(k key:List G):∀ rows:List (List G),cw ks (gv ks rows k) key=cw ks rows key
 | []=>rfl
 | r::rs=>by
  rw[RF];cases h:ba ks k (gi r 0).row with
  | true =>
   rw[cond_true,oe,oe];rfl
  |false=>rw[cond_false,oe,oe,GQ ks k key rs]
theorem GR(ks:List Kd){k key:List G}(d:ba ks key k=false):∀ rows:List (List G),eu ks (gv ks rows k) key=eu ks rows key
 | []=>rfl
 | r::rs=>by
  rw[RF];cases h:ba ks k (gi r 0).row with
  | true =>
   have e:ba ks key (gi r 0).row=false:=by rw[←uT h]; exact d
   rw[cond_true,og,og,e];show (bif ba ks key (gi r 0).row then _ else _)=_
   rw[e];rfl
  |false=>rw[cond_false,og,og,GR ks d rs]
theorem RH(ks:List Kd)(k key:List G)(v:List (List G))(c:Nat):∀ rows:List (List G),cw ks (kH ks rows k v c) key=bif ba ks key k then v else cw ks rows key
 | []=>by
  show cw ks [[.l [k],.l [[.l v]],.i (c:Int),.t true]] key=_
  rw[oe];rfl
 | r::rs=>by
  rw[RG,oe];cases h:ba ks k (gi r 0).row with
  | true =>
   rw[cond_true,oe];have e:ba ks key (gi r 0).row=ba ks key k:=(uT h).symm;rw[e];show (bif ba ks key k then _ else _)=_
   cases ba ks key k<;>rfl
  | false =>
   rw[cond_false,oe,RH ks k key v c rs];cases d:ba ks key (gi r 0).row with
   |false=>rfl
   | true =>
    cases g:ba ks key k with
    |false=>rfl
    | true =>
     have:ba ks k (gi r 0).row=true:=rL (by rw[pB]; exact g) d;rw[this]at h;cases h
theorem RI(ks:List Kd)(k key:List G)(v:List (List G))(c:Nat):∀ rows:List (List G),eu ks (kH ks rows k v c) key=bif ba ks key k then true else eu ks rows key
 | []=>by
  show eu ks [[.l [k],.l [[.l v]],.i (c:Int),.t true]] key=_
  rw[og];rfl
 | r::rs=>by
  rw[RG,og];cases h:ba ks k (gi r 0).row with
  | true =>
   rw[cond_true,og];have e:ba ks key (gi r 0).row=ba ks key k:=(uT h).symm;rw[e];show (bif ba ks key k then _ else _)=_
   cases ba ks key k<;>rfl
  | false =>
   rw[cond_false,og,RI ks k key v c rs];cases d:ba ks key (gi r 0).row with
   |false=>rfl
   | true =>
    cases g:ba ks key k with
    |false=>rfl
    | true =>
     have:ba ks k (gi r 0).row=true:=rL (by rw[pB]; exact g) d;rw[this]at h;cases h
theorem vU(s k:ByteArray):ba [.str] [.s s] [.s k]=decide (s=k):=by
 show ((s.toList==k.toList)&&true)=_
 rw[fT,pS]
structure gf (Q:List G→Prop) (m:List (List G)) (n:ByteArray→Nat):Prop where
 eu:∀ k,eu [.str] m [.s k]=true
 get:∀ k,(cw [.str] m [.s k]).length≤n k∧∀ z∈cw [.str] m [.s k],Q z
theorem gf.nil(Q:List G→Prop):gf Q [] fun _=>0:=⟨fun _=>rfl,fun _=>⟨aD _,by intro z d; cases d⟩⟩
theorem gf.add{Q:List G→Prop}{m:List (List G)}{n:ByteArray→Nat}(h:gf Q m n)(k:ByteArray){x:List G}(q:Q x)(c:Nat) :
  gf Q (kH [.str] (gv [.str] m [.s k]) [.s k] (cw [.str] m [.s k]++[x]) c) fun s=>if s=k then n s+1 else n s:=by
 refine⟨fun s=>?_,fun s=>?_⟩
 ·rw [RI, vU]
  by_cases e:s=k
  ·rw[decide_eq_true e]; rfl
  ·rw [decide_eq_false e, cond_false, GR _ (by rw [vU]; exact decide_eq_false e)]
   exact h.eu s
 ·rw [RH, vU]
  obtain⟨h1,g⟩:=h.get s;by_cases e:s=k
  ·subst e
   rw[decide_eq_true rfl,cond_true];simp only[if_true];refine⟨by rw[fH]; simp; omega,fun z d=>?_⟩;rcases cU.1 d with d|d
   ·exact g z d
   ·rw[wy.1 d]; exact q
  ·rw [decide_eq_false e, cond_false, GQ]
   simp only[if_neg e];exact⟨h1,g⟩
theorem gf.mono{Q:List G→Prop}{m:List (List G)}{n d:ByteArray→Nat}(h:gf Q m n)(g:∀ k,n k≤d k):gf Q m d :=
 ⟨h.eu,fun k=>⟨mI (h.get k).1 (g k),(h.get k).2⟩⟩
def jC(r:List G):Prop:=dn r∧0≤(gi r 0).int∧(gi r 0).int≤1000000
theorem agj{t m s h:Int}{b c x y:ByteArray}(d:0≤t∧t≤1000000)(hm:0≤m∧m≤10)(hb:b∈kP)(g:c∈calls)(u:0≤s∧s≤1000)(v:0≤h∧h≤1000)(k:x∈names)(q:y∈names) :
  jC [.i t,.i m,.s b,.s c,.i s,.i h,.s x,.s y] :=
 ⟨⟨t,m,b,c,s,h,x,y,rfl,by unfold small; omega,by unfold small; omega,by unfold small; omega,by unfold small; omega,hb,g,k,q⟩,d⟩
def i_(m:List (List G))(B:Int):Prop:=∀ k,0≤(gi (aB [.str] m [.s k] [.i 0]) 0).int∧(gi (aB [.str] m [.s k] [.i 0]) 0).int≤B
theorem i_.add{m:List (List G)}{B:Int}(h:i_ m B)(k:ByteArray)(c:Nat):i_ (aL [.str] m [.s k] [.i ((gi (aB [.str] m [.s k] [.i 0]) 0).int+1)] c) (B+1):=fun s=>by
 have h1:=h k;have d:=h s;rw[Dc,vU];by_cases e:s=k
 ·rw [decide_eq_true e, cond_true]
  show 0≤(gi (aB [.str] m [.s k] [.i 0]) 0).int+1∧(gi (aB [.str] m [.s k] [.i 0]) 0).int+1≤B+1
  omega
 ·rw [decide_eq_false e, cond_false]
  omega
theorem RJ{Q:List G→Prop}{l aI ser cs:List (List G)}{clk c2:Nat}{n:ByteArray→Nat}(d:gf Q aI n){a t nn i:Int}{b:ByteArray}(O:n b≤1000){g h q u:Int}{v y B I:ByteArray}(N:Q [.i g,.i h,.s v,.s y,.i q,.i u,.s B,.s I])(f:Bool) :
  ∃(J:List (List G)) (M:Nat),rX [.l l,.i a,.l aI,.i (clk:Int),.l ser,.i (c2:Int),.l cs,.i t,.s b,.l [[.i g,.i h,.s v,.s y,.i q,.i u,.s B,.s I]],.i nn,.i i,.t f] =
   some (some 0,[.l l,.i a,.l J,.i (M:Int),.l ser,.i (c2:Int),.l cs,.i t,.i nn,.i i])∧gf Q J (fun s=>if s=b then n s+1 else n s):=by
 have U:=(d.get b).1;cases f with
 | false =>
  refine⟨aI,clk,aa.toEq ?_,d.mono fun k=>by split<;>omega⟩;unfold rX
  (dsimp +instances only[Aa,Ab,Ac,Ad,Ae,Af,Ag])
  simp only[a8];exact aa.neg rfl (aa.some rfl)
 | true =>
  refine⟨kH [.str] (gv [.str] aI [.s b]) [.s b] (cw [.str] aI [.s b]++[[.i g,.i h,.s v,.s y,.i q,.i u,.s B,.s I]]) clk,bE [.str] (gv [.str] aI [.s b]) [.s b] clk,aa.toEq ?_,d.add b N clk⟩;unfold rX
  (dsimp +instances only[Aa,Ab,Ac,Ad,Ae,Af,Ag])
  simp only[a8];exact aa.pos rfl (aa.pos (d.eu b) (aa.pos (by simp; omega) (aa.pos (by simp) (aa.some rfl))))
theorem RL{Q:List G→Prop}{l aI ser cs:List (List G)}{clk c2:Nat}{n:ByteArray→Nat}(y:gf Q aI n){a t nn i:Int}(ha:0≤a)(ha1:a≤100000){b:ByteArray}(B:n b≤1000){I J M N:Int}{O k U V:ByteArray}(W:Q [.i I,.i J,.s O,.s k,.i M,.i N,.s U,.s V]) :
  ∃(d:List (List G)) (h:Nat) (q:Int),a≤q∧q≤a+1∧rY [.l l,.i a,.l aI,.i (clk:Int),.l ser,.i (c2:Int),.l cs,.i t,.s b,.l [[.i I,.i J,.s O,.s k,.i M,.i N,.s U,.s V]],.i nn,.i i] =
   some (some 0,[.l l,.i q,.l d,.i (h:Int),.l ser,.i (c2:Int),.l cs,.i t,.i nn,.i i])∧gf Q d (fun s=>if s=b then n s+1 else n s):=by
 cases hb : !(k.toList==b.toList)with
 | false =>
  obtain⟨d,h,h1,v⟩:=RJ (l:=l) (ser:=ser) (cs:=cs) (clk:=clk) (c2:=c2) y (a:=a) (t:=t) (nn:=nn) (i:=i) (b:=b) B W false;refine⟨d,h,a,la _,by omega,aa.toEq ?_,v⟩;unfold rY
  (dsimp +instances only[Aa,Ab,Ac,Ad,Ae,Af,Ag])
  simp only[a8];refine aa.neg hb ?_;refine aa.tail (P:=fun u g=>u=0∧g=[.l l,.i a,.l d,.i (h:Int),.l ser,.i (c2:Int),.l cs,.i t,.i nn,.i i]) ⟨_,h1,0,rfl,rfl,rfl⟩ (by first|rfl|simp) ?_;rintro _ _ ⟨rfl,rfl⟩
  (dsimp +instances only[Aa,Ab,Ac,Ad,Ae,Af,Ag])
  simp only[a8];exact aa.some rfl
 | true =>
  obtain⟨_,hf,f,rfl⟩:=afE l a 8 ha (by omega) (by omega) (by omega);obtain⟨d,h,h1,v⟩:=RJ (l:=l) (ser:=ser) (cs:=cs) (clk:=clk) (c2:=c2) y (a:=a+1) (t:=t) (nn:=nn) (i:=i) (b:=b) B W (!f);refine⟨d,h,a+1,by omega,la _,aa.toEq ?_,v⟩;unfold rY
  (dsimp +instances only[Aa,Ab,Ac,Ad,Ae,Af,Ag])
  simp only[a8];refine aa.pos hb ?_;refine aa.cE hf ?_
  (dsimp +instances only[Aa,Ab,Ac,Ad,Ae,Af,Ag])
  refine aa.tail (P:=fun u g=>u=0∧g=[.l l,.i (a+1),.l d,.i (h:Int),.l ser,.i (c2:Int),.l cs,.i t,.i nn,.i i]) ⟨_,h1,0,rfl,rfl,rfl⟩ (by first|rfl|simp) ?_;rintro _ _ ⟨rfl,rfl⟩
  (dsimp +instances only[Aa,Ab,Ac,Ad,Ae,Af,Ag])
  simp only[a8];exact aa.some rfl
theorem sJ{Q:List G→Prop}{l aI ser cs:List (List G)}{clk c2:Nat}{n:Nat}(y:gf Q aI fun _=>n){a t nn i:Int}(ha:0≤a)(M:a≤100000){q b:ByteArray}(hab:q≠b)(hn:n≤999){N O U V:Int}{W B x6 x7:ByteArray}(hx:Q [.i N,.i O,.s W,.s B,.i U,.i V,.s x6,.s x7]){y0 y1 y4 y5:Int}{y2 y3 y6 y7:ByteArray}(hy:Q [.i y0,.i y1,.s y2,.s y3,.i y4,.i y5,.s y6,.s y7]) :
  ∃(h:List (List G)) (v:Nat) (d:Int),a≤d∧d≤a+1∧lH [.l l,.i a,.l aI,.i (clk:Int),.l ser,.i (c2:Int),.i N,.i O,.s W,.s B,.i U,.i V,.s x6,.s x7,.l cs,.i t,.s q,.s b,.l [[.i y0,.i y1,.s y2,.s y3,.i y4,.i y5,.s y6,.s y7]],.i nn,.i i] =
   some (some 0,[.l l,.i d,.l h,.i (v:Int),.l ser,.i (c2:Int),.l cs,.i t,.i nn,.i i])∧gf Q h (fun _=>n+1):=by
 have hl:=(y.get q).1;cases hc : !(B.toList==q.toList)with
 | false =>
  obtain⟨h,v,d,g1,g2,h1,I⟩:=RL (l:=l) (ser:=ser) (cs:=cs) (clk:=clk) (c2:=c2) y (a:=a) (t:=t) (nn:=nn) (i:=i) ha M (b:=b) (by omega) hy;refine⟨h,v,d,g1,g2,aa.toEq ?_,I.mono fun k=>by split<;>omega⟩;unfold lH
  (dsimp +instances only[Aa,Ab,Ac,Ad,Ae,Af,Ag])
  simp only[a8];refine aa.neg hc ?_;refine aa.tail (P:=fun u g=>u=0∧g=[.l l,.i d,.l h,.i (v:Int),.l ser,.i (c2:Int),.l cs,.i t,.i nn,.i i]) ⟨_,h1,0,rfl,rfl,rfl⟩ (by first|rfl|simp) ?_;rintro _ _ ⟨rfl,rfl⟩
  (dsimp +instances only[Aa,Ab,Ac,Ad,Ae,Af,Ag])
  simp only[a8];exact aa.some rfl
 | true =>
  obtain⟨h,v,d,g1,g2,h1,I⟩:=RL (l:=l) (ser:=ser) (cs:=cs) (clk:=bE [.str] (gv [.str] aI [.s q]) [.s q] clk) (c2:=c2) (y.add q hx clk) (a:=a) (t:=t) (nn:=nn) (i:=i) ha M (b:=b) (by split<;>omega) hy;refine⟨h,v,d,g1,g2,aa.toEq ?_,I.mono fun k=>?_⟩
  ·unfold lH
   (dsimp +instances only[Aa,Ab,Ac,Ad,Ae,Af,Ag])
   simp only[a8];refine aa.pos hc (aa.pos (y.eu q) (aa.pos (by simp; omega) (aa.pos (by simp) ?_)));refine aa.tail (P:=fun u g=>u=0∧g=[.l l,.i d,.l h,.i (v:Int),.l ser,.i (c2:Int),.l cs,.i t,.i nn,.i i]) ⟨_,h1,0,rfl,rfl,rfl⟩ (by first|rfl|simp) ?_;rintro _ _ ⟨rfl,rfl⟩
   (dsimp +instances only[Aa,Ab,Ac,Ad,Ae,Af,Ag])
   simp only[a8];exact aa.some rfl
  ·by_cases J : k = b
   ·rw [if_pos J, if_neg (fun e => hab (e.symm.trans J))]
    exact aD _
   ·rw [if_neg J]
    split<;>omega
theorem i_.mono{m:List (List G)}{B d:Int}(h:i_ m B)(hb:B≤d):i_ m d:=fun k=>⟨(h k).1,AN (h k).2 hb⟩
theorem i_.nil:i_ [] 0:=fun k=>⟨la 0,la 0⟩
theorem sK{X:Option (Option Nat × List G)}{l d ser cs:List (List G)}{k t nn i:Int}{h c2:Nat}
  (hX:X=some (some 0,[.l l,.i k,.l d,.i (h:Int),.l ser,.i (c2:Int),.l cs,.i t,.i nn,.i i])) (hi:aq (i+1)=true) :
  aa (aN true (bW X) fun v g17=>(aN true (bW (iV [.l (gi g17 0).rows,.i (gi g17 1).int,.l (gi g17 2).rows,.i (((gi g17 3).int.toNat:Nat):Int),.l (gi g17 4).rows,.i (((gi g17 5).int.toNat:Nat):Int),.l (gi g17 6).rows,.i (gi g17 7).int,.i (gi g17 8).int,.i (gi g17 9).int])) fun y g18=>some ((none:Option Nat),([.l (gi g18 0).rows,.i (gi g18 1).int,.l (gi g18 2).rows,.i (((gi g18 3).int.toNat:Nat):Int),.l (gi g18 4).rows,.i (((gi g18 5).int.toNat:Nat):Int),.l (gi g18 6).rows,.i (gi g18 7).int,.i (gi g18 8).int,.i (gi g18 9).int]:List G))))
   fun o=>o=(none,[.l l,.i k,.l d,.i (h:Int),.l ser,.i (c2:Int),.l cs,.i t,.i nn,.i (i+1)]):=by
 refine aa.tail (P:=fun u g=>u=0∧g=[.l l,.i k,.l d,.i (h:Int),.l ser,.i (c2:Int),.l cs,.i t,.i nn,.i i]) ⟨_,hX,0,rfl,rfl,rfl⟩ (by first|rfl|simp) ?_;rintro _ _ ⟨rfl,rfl⟩
 (dsimp +instances only[Aa,Ab,Ac,Ad,Ae,Af,Ag])
 simp only[a8];have q:iV [.l l,.i k,.l d,.i (h:Int),.l ser,.i (c2:Int),.l cs,.i t,.i nn,.i i]=some (some 0,[.l l,.i k,.l d,.i (h:Int),.l ser,.i (c2:Int),.l cs,.i t,.i nn,.i (i+1)]):=by
  refine aa.toEq ?_;unfold iV
  (dsimp +instances only[Aa,Ab,Ac,Ad,Ae,Af,Ag])
  simp only[a8];exact aa.pos hi (aa.some rfl)
 refine aa.tail (P:=fun u g=>u=0∧g=[.l l,.i k,.l d,.i (h:Int),.l ser,.i (c2:Int),.l cs,.i t,.i nn,.i (i+1)]) ⟨_,q,0,rfl,rfl,rfl⟩ (by first|rfl|simp) ?_;rintro _ _ ⟨rfl,rfl⟩
 (dsimp +instances only[Aa,Ab,Ac,Ad,Ae,Af,Ag])
 simp only[a8];exact aa.some rfl
theorem agk{l d ser cs:List (List G)}{k t nn i:Int}{h c2:Nat}(hi:aq (i+1)=true) :
  aa (aN true (bW (iV [.l l,.i k,.l d,.i (h:Int),.l ser,.i (c2:Int),.l cs,.i t,.i nn,.i i])) fun v g18=>some ((none:Option Nat),([.l (gi g18 0).rows,.i (gi g18 1).int,.l (gi g18 2).rows,.i (((gi g18 3).int.toNat:Nat):Int),.l (gi g18 4).rows,.i (((gi g18 5).int.toNat:Nat):Int),.l (gi g18 6).rows,.i (gi g18 7).int,.i (gi g18 8).int,.i (gi g18 9).int]:List G)))
   fun o=>o=(none,[.l l,.i k,.l d,.i (h:Int),.l ser,.i (c2:Int),.l cs,.i t,.i nn,.i (i+1)]):=by
 have q:iV [.l l,.i k,.l d,.i (h:Int),.l ser,.i (c2:Int),.l cs,.i t,.i nn,.i i]=some (some 0,[.l l,.i k,.l d,.i (h:Int),.l ser,.i (c2:Int),.l cs,.i t,.i nn,.i (i+1)]):=by
  refine aa.toEq ?_;unfold iV
  (dsimp +instances only[Aa,Ab,Ac,Ad,Ae,Af,Ag])
  simp only[a8];exact aa.pos hi (aa.some rfl)
 refine aa.tail (P:=fun u g=>u=0∧g=[.l l,.i k,.l d,.i (h:Int),.l ser,.i (c2:Int),.l cs,.i t,.i nn,.i (i+1)]) ⟨_,q,0,rfl,rfl,rfl⟩ (by first|rfl|simp) ?_;rintro _ _ ⟨rfl,rfl⟩
 (dsimp +instances only[Aa,Ab,Ac,Ad,Ae,Af,Ag])
 simp only[a8];exact aa.some rfl
theorem agl{l aI ser cs:List (List G)}{clk c2 n:Nat}{B:Int}(N:gf jC aI fun _=>n)(hS:i_ ser B)(hc0:(dA 1 cs.length&&dA cs.length 1000000)=true) (hcs:(cs.all fun x=>j0 calls (gi x 0).str)=true)
  (hB:0≤B) (hB1:B≤900) {a t nn i:Int} (ha:0≤a) (ha1:a≤90000) (ht:0≤t) (ht1:t≤900000) (hn:n≤900) (hi0:0≤i) (hi:i<nn) (hnn:nn≤100000) :
  aa (rZ [.l l,.i a,.l aI,.i (clk:Int),.l ser,.i (c2:Int),.l cs,.i t,.i nn,.i i]) fun o=>∃(b:Int) (g:List (List G)) (J:Nat) (ser':List (List G)) (c2':Nat) (t':Int),o=(none,[.l l,.i b,.l g,.i (J:Int),.l ser',.i (c2':Int),.l cs,.i t',.i nn,.i (i+1)]) ∧
   a≤b∧b≤a+10∧gf jC g (fun _=>n+1)∧i_ ser' (B+2)∧t≤t'∧t'≤t+1000:=by
 have M:aq (i+1)=true:=by simp only[aq,sl]<;>omega
 unfold rZ
 (dsimp +instances only[Aa,Ab,Ac,Ad,Ae,Af,Ag])
 (repeat first|refine aa.p ?_|refine aa.n ?_)
 refine aa.call (Gi 0 1000 l a _ ha (by omega) (by kernel_rfl) (by kernel_rfl)) ?_;rintro _ ⟨v,rfl,hd0,hd1⟩
 (dsimp +instances only[Aa,Ab,Ac,Ad,Ae,Af,Ag])
 (repeat first|refine aa.p ?_|refine aa.n ?_)
 refine aa.call (sB calls l (a+1) cs (by omega) (by omega) hc0 hcs) ?_;rintro _ ⟨I,rfl,hca⟩
 (dsimp +instances only[Aa,Ab,Ac,Ad,Ae,Af,Ag])
 refine aa.call (sB calls l (a+1+1) _ (by omega) (by omega) (by kernel_rfl) (by kernel_rfl)) ?_;rintro _ ⟨b,rfl,hb⟩
 (dsimp +instances only[Aa,Ab,Ac,Ad,Ae,Af,Ag])
 simp only[a8];by_cases k:I=b
 ·refine aa.pos (by rw [k, pS]; exact decide_eq_true rfl) ?_
  refine(agk M).mono ?_;rintro _ rfl;exact⟨_,_,_,_,_,_,rfl,by omega,by omega,N.mono fun _=>by omega,hS.mono (by omega),by omega,by omega⟩
 refine aa.neg (by rw[pS]; exact decide_eq_false k) ?_;obtain⟨s1,e1⟩:∃ z,z=aL [.str] ser [.s I] [.i ((gi (aB [.str] ser [.s I] [.i 0]) 0).int+1)] c2:=⟨_,rfl⟩
 have hS1:i_ s1 (B+1):=e1▸hS.add I c2;obtain⟨k1,f1⟩:∃ z,z=bE [.str] ser [.s I] c2:=⟨_,rfl⟩
 obtain⟨s2,e2⟩:∃ z,z=aL [.str] s1 [.s b] [.i ((gi (aB [.str] s1 [.s b] [.i 0]) 0).int+1)] k1:=⟨_,rfl⟩
 have u:i_ s2 (B+2):=by
  have:=hS1.add b k1;rw[←e2]at this;exact this.mono (by omega)
 obtain⟨V,f2⟩:∃ z,z=bE [.str] s1 [.s b] k1:=⟨_,rfl⟩
 simp only[←f1,←e1];simp only[←f2,←e2];have v1:=hS I;have v2:=hS1 b;obtain⟨p,ep⟩:∃ p,p=(gi (aB [.str] s2 [.s I] [.i 0]) 0).int:=⟨_,rfl⟩
 obtain⟨q,eq⟩:∃ p,p=(gi (aB [.str] s2 [.s b] [.i 0]) 0).int:=⟨_,rfl⟩
 simp only[←ep,←eq];have v3:0≤p∧p≤B+2:=ep▸u I;have v4:0≤q∧q≤B+2:=eq▸u b
 (repeat first|refine aa.p ?_|refine aa.n ?_)
 refine aa.call (sB kP l (a+1+1+1) _ (by omega) (by omega) (by kernel_rfl) (by kernel_rfl)) ?_;rintro _ ⟨bd,rfl,O⟩
 (dsimp +instances only[Aa,Ab,Ac,Ad,Ae,Af,Ag])
 refine aa.call (Gi 1 2 l (a+1+1+1+1) _ (by omega) (by omega) (by kernel_rfl) (by kernel_rfl)) ?_;rintro _ ⟨m,rfl,hm0,hm1⟩
 (dsimp +instances only[Aa,Ab,Ac,Ad,Ae,Af,Ag])
 refine aa.call (Gi 0 200 l (a+1+1+1+1+1) _ (by omega) (by omega) (by kernel_rfl) (by kernel_rfl)) ?_;rintro _ ⟨d2,rfl,hd2,hd3⟩
 (dsimp +instances only[Aa,Ab,Ac,Ad,Ae,Af,Ag])
 (repeat first|refine aa.p ?_|refine aa.n ?_)
 refine aa.call (vM l (a+1+1+1+1+1+1) 8 (by omega) (by omega) (by omega) (by omega)) ?_;rintro _ ⟨cs',rfl,hc3,hc4⟩
 (dsimp +instances only[Aa,Ab,Ac,Ad,Ae,Af,Ag])
 have hb':b∈calls:=hb;have hx0:(⟨#[]⟩:ByteArray)∈names:=zV (by kernel_rfl);have U:(⟨#[120]⟩:ByteArray)∈names:=zV (by kernel_rfl);have mk:∀{t' m' s h:Int} {b' c x y:ByteArray},0≤t'∧t'≤1000000→0≤m'∧m'≤10→b'∈kP→c∈calls→0≤s∧s≤1000→0≤h∧h≤1000→x∈names→y∈names→jC [.i t',.i m',.s b',.s c,.i s,.i h,.s x,.s y]:=fun h1 d h3 h4 h5 h6 h7 h8=>agj h1 d h3 h4 h5 h6 h7 h8;have W:∀{c:ByteArray} {h:Int} {y:ByteArray},c∈calls→0≤h∧h≤1000→y∈names→jC [.i (t+v),.i m,.s bd,.s c,.i p,.i h,.s ⟨#[]⟩,.s y]:=fun h1 d h3=>mk (by omega) (by omega) O h1 (by omega) d hx0 h3;have hy:∀{b' c:ByteArray},b'∈kP→c∈calls→jC [.i (t+v+d2),.i m,.s b',.s c,.i q,.i p,.s ⟨#[120]⟩,.s ⟨#[]⟩]:=fun h0 h1=>mk (by omega) (by omega) h0 h1 (by omega) (by omega) U hx0;by_cases c0:cs'=0
 ·refine aa.pos (by simp [c0]) ?_
  refine aa.call (sB calls l (a+1+1+1+1+1+1+1) _ (by omega) (by omega) (by kernel_rfl) (by kernel_rfl)) ?_;rintro _ ⟨w,rfl,hw⟩
  (dsimp +instances only[Aa,Ab,Ac,Ad,Ae,Af,Ag])
  obtain⟨g,J,a',g1,g2,h1,d⟩:=sJ (l:=l) (ser:=s2) (cs:=cs) (clk:=clk) (c2:=V) N (a:=a+1+1+1+1+1+1+1+1) (t:=t+v) (nn:=nn) (i:=i) (by omega) (by omega) k (by omega) (W hw (h:=q) (by omega) U) (hy O hca);refine(sK h1 M).mono ?_;rintro _ rfl;exact⟨_,_,_,_,_,_,rfl,by omega,by omega,d,u,by omega,by omega⟩
 refine aa.neg (by simp[c0]) ?_;by_cases c1:cs'=1
 ·refine aa.pos (by simp [c1]) ?_
  refine aa.call (sB calls l (a+1+1+1+1+1+1+1) _ (by omega) (by omega) (by kernel_rfl) (by kernel_rfl)) ?_;rintro _ ⟨w,rfl,hw⟩
  (dsimp +instances only[Aa,Ab,Ac,Ad,Ae,Af,Ag])
  obtain⟨g,J,a',g1,g2,h1,d⟩:=sJ (l:=l) (ser:=s2) (cs:=cs) (clk:=clk) (c2:=V) N (a:=a+1+1+1+1+1+1+1+1) (t:=t+v) (nn:=nn) (i:=i) (by omega) (by omega) k (by omega) (W hb (h:=q) (by omega) U) (hy O hw);refine(sK h1 M).mono ?_;rintro _ rfl;exact⟨_,_,_,_,_,_,rfl,by omega,by omega,d,u,by omega,by omega⟩
 refine aa.neg (by simp[c1]) ?_;by_cases c2':cs'=2
 ·refine aa.pos (by simp [c2']) ?_
  (repeat first|refine aa.p ?_|refine aa.n ?_)
  obtain⟨g,J,a',g1,g2,h1,d⟩:=sJ (l:=l) (ser:=s2) (cs:=cs) (clk:=clk) (c2:=V) N (a:=a+1+1+1+1+1+1+1) (t:=t+v) (nn:=nn) (i:=i) (by omega) (by omega) k (by omega) (W hb (h:=q+1) (by omega) U) (hy O hca);refine(sK h1 M).mono ?_;rintro _ rfl;exact⟨_,_,_,_,_,_,rfl,by omega,by omega,d,u,by omega,by omega⟩
 refine aa.neg (by simp[c2']) ?_;by_cases c3:cs'=3
 ·refine aa.pos (by simp [c3]) ?_
  obtain⟨g,J,a',g1,g2,h1,d⟩:=sJ (l:=l) (ser:=s2) (cs:=cs) (clk:=clk) (c2:=V) N (a:=a+1+1+1+1+1+1+1) (t:=t+v) (nn:=nn) (i:=i) (by omega) (by omega) k (by omega) (W hb (h:=q) (by omega) hx0) (hy O hca);refine(sK h1 M).mono ?_;rintro _ rfl;exact⟨_,_,_,_,_,_,rfl,by omega,by omega,d,u,by omega,by omega⟩
 refine aa.neg (by simp[c3]) ?_;by_cases c4:cs'=4
 ·refine aa.pos (by simp [c4]) ?_
  refine aa.call (sB kP l (a+1+1+1+1+1+1+1) _ (by omega) (by omega) (by kernel_rfl) (by kernel_rfl)) ?_;rintro _ ⟨w,rfl,hw⟩
  (dsimp +instances only[Aa,Ab,Ac,Ad,Ae,Af,Ag])
  obtain⟨g,J,a',g1,g2,h1,d⟩:=sJ (l:=l) (ser:=s2) (cs:=cs) (clk:=clk) (c2:=V) N (a:=a+1+1+1+1+1+1+1+1) (t:=t+v) (nn:=nn) (i:=i) (by omega) (by omega) k (by omega) (W hb (h:=q) (by omega) U) (hy hw hca);refine(sK h1 M).mono ?_;rintro _ rfl;exact⟨_,_,_,_,_,_,rfl,by omega,by omega,d,u,by omega,by omega⟩
 refine aa.neg (by simp[c4]) ?_;obtain⟨g,J,a',g1,g2,h1,d⟩:=sJ (l:=l) (ser:=s2) (cs:=cs) (clk:=clk) (c2:=V) N (a:=a+1+1+1+1+1+1+1) (t:=t+v) (nn:=nn) (i:=i) (by omega) (by omega) k (by omega) (W hb (h:=q) (by omega) U) (hy O hca);refine(sK h1 M).mono ?_;rintro _ rfl;exact⟨_,_,_,_,_,_,rfl,by omega,by omega,d,u,by omega,by omega⟩
theorem RM{l cs:List (List G)}(v:(dA 1 cs.length&&dA cs.length 1000000)=true) (y:(cs.all fun x=>j0 calls (gi x 0).str)=true) {n:Nat} (W:n≤14):∀(k i:Nat) (aI ser:List (List G)) (clk c2:Nat) (a t:Int),i+k=n→0≤a→a≤1000+10*i→0≤t→t≤1000*i→gf jC aI (fun _=>i)→i_ ser (2*i) →
  aZ rZ [.l l,.i a,.l aI,.i (clk:Int),.l ser,.i (c2:Int),.l cs,.i t,.i (n:Int),.i (i:Int)] (k+1) fun c g=>c=0∧∃(b:Int) (d:List (List G)) (q:Nat),g=[.l l,.i b,.l d,.i (q:Int),.l cs]∧a≤b∧b≤a+10*k∧gf jC d (fun _=>n)
 | 0,i,aI,ser,clk,c2,a,t,hi,ha,O,B,U,u,I=>by
  refine aZ.stop (x:=0) (aa.toEq ?_) ⟨rfl,a,aI,clk,rfl,by omega,by omega,u.mono fun _=>by omega⟩;unfold rZ
  (dsimp +instances only[Aa,Ab,Ac,Ad,Ae,Af,Ag])
  simp only[a8]
  (repeat first|refine aa.p ?_|refine aa.n ?_)
  exact aa.some rfl
 | k+1,i,aI,ser,clk,c2,a,t,hi,ha,O,B,U,u,I=>by
  obtain⟨_,h,b,d,q,M,V,t',rfl,g1,g2,g3,g4,g5,g6⟩:=agl (l:=l) (clk:=clk) (c2:=c2) u I v y (by omega) (by omega) (a:=a) (t:=t) (nn:=n) (i:=i) ha (by omega) B (by omega) (by omega) (by omega) (by omega) (by omega);have ih:=RM (l:=l) v y W k (i+1) d M q V b t' (by omega) (by omega) (by omega) (by omega) (by omega) g3 (g4.mono (by omega));refine aZ.next h (ih.mono ?_)
  rintro c g ⟨rfl,b',J,N,rfl,q1,q2,q3⟩;exact⟨rfl,b',J,N,rfl,by omega,by omega,q3⟩
def oh(r s:List G):Bool:=bS r s==0
theorem agm:uV [.int .i64,.int .i64,.str,.str,.int .i64,.int .i64,.str,.str] vk dn oh:=⟨fun r s d g=>by
 refine aa.toEq ?_;unfold vk
 (dsimp +instances only[Aa,Ab,Ac,Ad,Ae,Af,Ag])
 simp only[d.eta,g.eta];refine aa.cE (Gk d g) ?_;exact aa.some rfl,fun _ h=>h.eta⟩
def zS:List G:=[.i 0,.i 0,.s (⟨#[]⟩:ByteArray),.s (⟨#[]⟩:ByteArray),.i 0,.i 0,.s (⟨#[]⟩:ByteArray),.s (⟨#[]⟩:ByteArray)]
def GS(c:ByteArray)(r:List G):Prop:=∃ L:List (List G),r=[.s c,.l L]∧(∀ z∈L,jC z)∧L.length≤14
def j7(c:ByteArray):List G:=[.s c]
theorem RN{l:List (List G)}{a:Int}:∀(q p:List ByteArray) (aI acc:List (List G)) (clk:Nat),(∀ c∈q,eu [.str] aI [.s c]=true∧(cw [.str] aI [.s c]).length≤14∧∀ z∈cw [.str] aI [.s c],jC z)→q.Pairwise (·≠·)→acc.length=p.length→p.length+q.length≤100 →
  aZ r7 [.l l,.i a,.l aI,.i (clk:Int),.l acc,.l ((p++q).map j7),.i ((p.length+q.length:Nat):Int),.i (p.length:Int)] (q.length+1) fun c g=>c=0∧∃ L:List (List G),g=[.l l,.i a,.l (acc++L)]∧L.length=q.length∧∀ i,i<q.length→GS (q.getD i ⟨#[]⟩) (L.getD i [])
 | [],p,aI,acc,clk,k,u,I,N=>by
  refine aZ.stop (x:=0) (aa.toEq ?_) ⟨rfl,[],rfl,rfl,fun i hi=>by cases hi⟩;unfold r7
  (dsimp +instances only[Aa,Ab,Ac,Ad,Ae,Af,Ag])
  (repeat first|refine aa.p ?_|refine aa.n ?_)
  exact aa.some (by simp)
 | c::q,p,aI,acc,clk,k,u,I,N=>by
  simp only[cD]at N;obtain⟨h1,h2,v⟩:=k c (by simp);have g1:((p++c::q).map j7).getD (p.length:Int).toNat []=j7 c:=by
   rw[ke,dx];exact jZ _ _ _ _ _ (by simp)
  have hc:((p++c::q).map j7).length=p.length+(q.length+1):=by simp
  obtain⟨M,O⟩:∃ M,M=cw [.str] aI [.s c]:=⟨_,rfl⟩
  rw[←O]at h2 v;have U:=LM (lt:=bF bS) v;have hsl:=yW (bF bS) M;have hle:(fb oh (cP (bF bS) M)).length≤(cP (bF bS) M).length:=LS _ _;have V:=RN (l:=l) (a:=a) q (p++[c]) (gv [.str] aI [.s c]) (acc++[[.s c,.l (fb oh (cP (bF bS) M))]]) clk (by
   intro x W;obtain⟨y,B,q3⟩:=k x (di _ W);have hne:x≠c:=fun e=>(k_.1 u).1 x W e.symm;rw[GQ,GR _ (by rw[vU]; exact decide_eq_false hne)];exact⟨y,B,q3⟩) (k_.1 u).2 (by simp[I]) (by simp; omega)
  have key:aa (r7 [.l l,.i a,.l aI,.i (clk:Int),.l acc,.l ((p++c::q).map j7),.i ((p.length+(c::q).length:Nat):Int),.i (p.length:Int)]) fun o=>o=(none,[.l l,.i a,.l (gv [.str] aI [.s c]),.i (clk:Int),.l (acc++[[.s c,.l (fb oh (cP (bF bS) M))]]),.l ((p++c::q).map j7),.i ((p.length+(c::q).length:Nat):Int),.i ((p.length:Int)+1)]):=by
   unfold r7
   (dsimp +instances only[Aa,Ab,Ac,Ad,Ae,Af,Ag])
   simp only[g1,hc,j7,cD]
   (dsimp +instances only[Aa,Ab,Ac,Ad,Ae,Af,Ag])
   simp only[a8,←O]
   (repeat first|refine aa.p ?_|refine aa.n ?_)
   refine aa.lE (aa.eq (LP afF M (fun z d=>(v z d).1) (by omega))) (by simp) ?_;rintro _ rfl
   (dsimp +instances only[Aa,Ab,Ac,Ad,Ae,Af,Ag])
   refine aa.lE (P:=fun g=>∃ J,g=[.l (fb oh (cP (bF bS) M)++J),.i ((fb oh (cP (bF bS) M)).length:Int)]∧(fb oh (cP (bF bS) M)++J).length=(cP (bF bS) M).length)
    (LV (Z:=zS) agm (cP (bF bS) M) (fun z d=>(U z d).1) (by omega)) (by simp[hsl]) ?_
   rintro _ ⟨J,rfl,hJ⟩
   (dsimp +instances only[Aa,Ab,Ac,Ad,Ae,Af,Ag])
   simp only[a8,List.take_left'];refine aa.pos (by simp) (aa.pos (by simp; omega) (aa.p (aa.pos (by simp) (aa.some ?_))));rfl
  obtain⟨_,h,rfl⟩:=key;have e:((p++[c])++q).map j7=(p++c::q).map j7:=by simp
  have e2:(((p++[c]).length+q.length:Nat):Int)=((p.length+(c::q).length:Nat):Int):=by simp; omega
  have e3:(((p++[c]).length:Nat):Int)=(p.length:Int)+1:=by simp
  rw[e,e2,e3]at V;refine aZ.next h (V.mono ?_)
  rintro x g ⟨rfl,L,rfl,y,B⟩;refine⟨rfl,[.s c,.l (fb oh (cP (bF bS) M))]::L,by simp,by simp[y],fun i hi=>?_⟩;cases i with
  |zero=>exact⟨_,rfl,fun z d=>U z (Dh d),by omega⟩
  |succ i=>exact B i (by simpa using hi)
def C4:List ByteArray:=[⟨#[107,49,97,98]⟩,⟨#[111,104,50,97,98,99]⟩,⟨#[111,104,50,97,98,100]⟩,⟨#[119,49,97,119]⟩]
theorem agn(l:List (List G)):aa (zo [.l l,.i 0]) fun g=>∃(b:Int) (L:List (List G)) (m:Nat),g=[.l l,.i b,.l L]∧0≤b∧b≤1000∧1≤m∧m≤4∧L.length=m∧∀ i,i<m→GS (C4.getD i ⟨#[]⟩) (L.getD i []):=by
 unfold zo
 (dsimp +instances only[Aa,Ab,Ac,Ad,Ae,Af,Ag])
 refine aa.call (Gh l 0 1 4 (by omega) (by omega) (by omega) (by omega) (by omega)) ?_;rintro _ ⟨m,rfl,O,U⟩;obtain⟨m,rfl⟩:=aij (by omega:0≤m)
 (dsimp +instances only[Aa,Ab,Ac,Ad,Ae,Af,Ag])
 (repeat first|refine aa.p ?_|refine aa.n ?_)
 refine aa.call (Gh l (0+1) 0 14 (by omega) (by omega) (by omega) (by omega) (by omega)) ?_;rintro _ ⟨n,rfl,v,V⟩;obtain⟨n,rfl⟩:=aij v
 (dsimp +instances only[Aa,Ab,Ac,Ad,Ae,Af,Ag])
 obtain⟨cs,k⟩:∃ cs,cs=C4.take m:=⟨_,rfl⟩
 have y:cs.length=m:=by
  rw[k,List.length_take];show min m 4=m
  omega
 have B:([[.s (⟨#[107,49,97,98]⟩:ByteArray)],[.s (⟨#[111,104,50,97,98,99]⟩:ByteArray)],[.s (⟨#[111,104,50,97,98,100]⟩:ByteArray)],[.s (⟨#[119,49,97,119]⟩:ByteArray)]]:List (List G)).take ((m:Int).toNat)=cs.map j7:=by
  rw[k,List.map_take];rfl
 simp only[B];have I:=RM (l:=l) (cs:=cs.map j7) (by rw[dO,y]; simp; omega) (by
  rw[List.all_map,cQ];intro c q;rw[k]at q;have:c∈C4:=List.mem_of_mem_take q;have d:C4.all (fun c=>j0 calls c)=true:=by kernel_rfl
  exact cQ.1 d c this) (by omega:n≤14) n 0 [] [] 0 0 (0+1+1) 0 (by omega) (by omega) (by omega) (by omega) (by omega) (gf.nil _) (by exact i_.nil)
 refine aa.loop (I.to (by omega)) (by(first|rfl|assumption|(simp only[aq,sl]<;>omega))) ?_;rintro c g ⟨rfl,b,aI,clk,rfl,W,h3,d⟩
 (dsimp +instances only[Aa,Ab,Ac,Ad,Ae,Af,Ag])
 simp only[a8];have J:cs.Pairwise (·≠·):=by
  rw[k];refine aiC ?_;have d:(decide (C4.Pairwise fun a b=>a.data.toList≠b.data.toList))=true:=by kernel_rfl
  exact(of_decide_eq_true d).imp fun h e=>h (by rw[e])
 have u:=RN (l:=l) (a:=b) cs [] aI [] clk (fun c _=>⟨d.eu c,mI (d.get c).1 (by omega),(d.get c).2⟩) J rfl (by simp; omega);simp only[k0,lZ,cT]at u;have M:((cs.map j7).length:Int)=(cs.length:Int):=by rw[dO]
 simp only[M];refine aa.loop (u.to (by omega)) (by(first|rfl|assumption|(simp only[aq,sl]<;>omega))) ?_;rintro c g ⟨rfl,L,rfl,q1,N⟩
 (dsimp +instances only[Aa,Ab,Ac,Ad,Ae,Af,Ag])
 refine aa.pos (by simp) (aa.some ⟨b,L,m,rfl,by omega,by omega,by omega,by omega,by omega,fun i hi=>?_⟩);have:=N i (by omega)
 rwa [k,ct,List.getElem?_take,if_pos hi,←ct]at this
def vV(K:List Kd)(C:List G→Option (List G))(d:List G):Option (Option Nat × List G) :=
 (bif (ai (gi d 3).int (gi d 2).int) then (bif ((aw (gi d 3).int)&&(ai (gi d 3).int (((gi d 0).rows.length:Nat):Int))) then (aA (C [.l [(aF K ((gi d 0).rows.getD (((gi d 3).int).toNat) []))],.l [(aF [.str,.list K] (gi d 1).row)]]) fun g1=>(bif (gi g1 0).bool then some (some 0,[.i (gi d 3).int]) else (bif (aq ((gi d 3).int+1)) then some (none,[.l (gi d 0).rows,.l [(aF [.str,.list K] (gi d 1).row)],.i (gi d 2).int,.i ((gi d 3).int+1)]) else none))) else none) else some (some 1,[]))
def RO(K:List Kd)(C:List G→Option (List G))(d:List G):Option (List G) :=
 (aA (aN true (bG (vV K C) [.l (gi d 0).rows,.l [(aF [.str,.list K] (aF [.str,.list K] (gi d 1).row))],.i (((gi d 0).rows.length:Nat):Int),.i 0]) fun g g2=>(bif ad g 0 then some [.i (gi g2 0).int] else some [.i (-1)])) fun g1=>some [.t (a_ 0 (gi g1 0).int)])
def j8(c:ByteArray)(L:List (List G)):Bool:=L.any fun z=>(gi z 3).str.toList==c.toList
section
variable {C:List G→Option (List G)} {c:ByteArray} {A:List (List G)} (hC:∀ z,dn z→C [.l [z],.l [[.s c,.l A]]]=some [.t ((gi z 3).str.toList==c.toList)])
include hC
theorem RP:∀(q p:List (List G)),(∀ z∈p++q,dn z)→p.length+q.length<100000 →
  aZ (vV [.int .i64,.int .i64,.str,.str,.int .i64,.int .i64,.str,.str] C) [.l (p++q),.l [[.s c,.l A]],.i ((p.length+q.length:Nat):Int),.i (p.length:Int)] (q.length+1) fun x g=>(x=0∧j8 c q=true∧∃ v:Int,0≤v∧g=[.i v])∨x=1∧j8 c q=false
 | [],p,k,u=>by
  refine aZ.stop (x:=1) (d':=[]) (aa.toEq ?_) (.inr ⟨rfl,rfl⟩);unfold vV
  (dsimp +instances only[Aa,Ab,Ac,Ad,Ae,Af,Ag])
  (repeat first|refine aa.p ?_|refine aa.n ?_)
  exact aa.some rfl
 | x::q,p,k,u=>by
  simp only[cD]at u;have d:dn x:=k x (by simp);have g1:(p++x::q).getD (p.length:Int).toNat []=x:=jZ _ _ _ _ _ (by simp);have hlen:(p++x::q).length=p.length+q.length+1:=by simp; omega
  cases h:(gi x 3).str.toList==c.toList with
  | true =>
   refine aZ.stop (x:=0) (d':=[.i (p.length:Int)]) (aa.toEq ?_) (.inl ⟨rfl,by simp only[j8,HO,h,Bool.true_or],_,by omega,rfl⟩);unfold vV
   (dsimp +instances only[Aa,Ab,Ac,Ad,Ae,Af,Ag])
   simp only[g1,hlen,cD,d.eta]
   (repeat first|refine aa.p ?_|refine aa.n ?_)
   refine aa.cE (hC x d) ?_
   (dsimp +instances only[Aa,Ab,Ac,Ad,Ae,Af,Ag])
   exact aa.pos h (aa.some rfl)
  | false =>
   have y:=RP q (p++[x]) (by simpa using k) (by simp; omega);have B:(p++[x])++q=p++x::q:=by simp
   have I:(((p++[x]).length+q.length:Nat):Int)=((p.length+(x::q).length:Nat):Int):=by simp; omega
   have J:(((p++[x]).length:Nat):Int)=(p.length:Int)+1:=by simp
   rw[B,I,J]at y;have M:j8 c (x::q)=j8 c q:=by simp only[j8,HO,h,Bool.false_or]
   rw[M];refine aZ.next (aa.toEq ?_) y
   unfold vV
   (dsimp +instances only[Aa,Ab,Ac,Ad,Ae,Af,Ag])
   simp only[g1,hlen,cD,d.eta]
   (repeat first|refine aa.p ?_|refine aa.n ?_)
   refine aa.cE (hC x d) ?_
   (dsimp +instances only[Aa,Ab,Ac,Ad,Ae,Af,Ag])
   refine aa.neg h (aa.p (aa.some rfl))
theorem RQ(L:List (List G))(h:∀ z∈L,dn z)(k:L.length<100000):RO [.int .i64,.int .i64,.str,.str,.int .i64,.int .i64,.str,.str] C [.l L,.l [[.s c,.l A]]]=some [.t (j8 c L)]:=by
 refine aa.toEq ?_;unfold RO
 (dsimp +instances only[Aa,Ab,Ac,Ad,Ae,Af,Ag])
 have h1:=RP hC L [] (by simpa using h) (by simpa using k);have h0:((0:Nat):Int)=0:=rfl;simp only[k0,lZ,cT,h0]at h1;refine aa.call (P:=fun g=>∃ v:Int,g=[.i v]∧a_ 0 v=j8 c L) ?_ ?_
 ·refine aa.loop (h1.to (by omega)) (by (first|rfl|assumption|(simp only [aq,sl]<;>omega))) ?_
  rintro x g (⟨rfl,d,v,q,rfl⟩|⟨rfl,d⟩)
  ·exact aa.some ⟨v,rfl,by rw[d,fu]; exact decide_eq_true q⟩
  ·exact aa.some ⟨-1,rfl,by rw[d]; rfl⟩
 ·rintro _ ⟨v, rfl, d⟩
  exact aa.some (congrArg (fun b=>[G.t b]) d)
end
def kW(c:ByteArray)(L:List (List G)):Int:=bif !jA c then 3 else bif gN L != 0 then gN L else bif j8 c L then 6 else 0
theorem Ao{c:ByteArray}{L:List (List G)}(h:kW c L=0):gN L=0:=by
 unfold kW at h;cases h1:jA c with
 |false=>rw[h1]at h; cases h
 | true =>
  rw[h1]at h;cases d:gN L != 0 with
  |false=>simpa using d
  | true =>
   rw[d]at h;simp only[Hx,cond_false,cond_true]at h;exact h
theorem RR{c:ByteArray}(h:c∈calls){L:List (List G)}(d:∀ z∈L,dn z)(g:L.length<100000):vm [.l [[.s c,.l L]]]=some [.i (kW c L)]:=by
 refine aa.toEq ?_;unfold vm kW
 (dsimp +instances only[Aa,Ab,Ac,Ad,Ae,Af,Ag])
 refine aa.cE (Gn h) ?_
 (dsimp +instances only[Aa,Ab,Ac,Ad,Ae,Af,Ag])
 cases jA c with
 |false=>exact aa.some rfl
 | true =>
  refine aa.neg rfl ?_;refine aa.cE (Q4 L d g) ?_
  (dsimp +instances only[Aa,Ab,Ac,Ad,Ae,Af,Ag])
  cases gN L != 0 with
  |true=>exact aa.some rfl
  | false =>
   refine aa.neg rfl ?_;refine aa.call (aa.eq (RQ (C:=zt) (c:=c) (A:=L) (fun z k=>by
    refine aa.toEq ?_;unfold zt
    (dsimp +instances only[Aa,Ab,Ac,Ad,Ae,Af,Ag])
    exact aa.some rfl) L d g)) ?_
   rintro _ rfl
   (dsimp +instances only[Aa,Ab,Ac,Ad,Ae,Af,Ag])
   cases j8 c L<;>exact aa.some rfl
theorem ago{r s:List G}(h:¬ 0≤bS r s):c7 r≤c7 s:=by
 unfold bS sC at h;unfold c7;have h1:fC (gi r 0).int (gi s 0).int=if (gi r 0).int<(gi s 0).int then -1 else if (gi s 0).int<(gi r 0).int then 1 else 0:=rfl
 rw[h1]at h;by_cases d:(gi r 0).int<(gi s 0).int
 ·omega
 ·by_cases g : (gi s 0).int < (gi r 0).int
  ·rw [if_neg d, if_pos g] at h
   refine absurd ?_ h;rw[if_pos (by decide:(1:Int)≠0)]
   decide
  ·omega
theorem RS{y x:List G}{q:List (List G)}(h:eA (some y) (x::q)=0):c7 y≤c7 x∧eA (some x) q=0:=by
 unfold eA at h;split at h
 ·contradiction
 ·split at h
  ·cases h
  ·exact⟨ago (by assumption),h⟩
theorem GU:∀(q:List (List G)) (y:List G),eA (some y) q=0→∀ j,j<q.length→c7 y≤c7 (q.getD j [])
 | [],_,_,j,d=>by cases d
 | x::q,y,h,j,d=>by
  obtain⟨h1,g⟩:=RS h;cases j with
  |zero=>exact h1
  |succ j=>exact AN h1 (GU q x g j (by simpa using d))
theorem RT:∀(q:List (List G)) (y:List G),eA (some y) q=0→kV q
 | [],_,_,i,j,_,d=>by cases d
 | x::q,y,h,i,j,k,d=>by
  obtain⟨h1,g⟩:=RS h;cases i with
  | zero =>
   cases j with
   |zero=>exact la _
   |succ j=>exact GU q x g j (by simpa using d)
  | succ i =>
   cases j with
   |zero=>cases k
   |succ j=>exact RT q x g i j (by omega) (by simpa using d)
theorem RU{L:List (List G)}(h:gN L=0):kV L:=by
 unfold gN at h;split at h
 ·cases h
 ·match L, h with
  | [],_=>intro i j _ d; cases d
  | x::q,h =>
   unfold eA at h;split at h
   ·contradiction
   intro i j g d;cases i with
   | zero =>
    cases j with
    |zero=>exact la _
    |succ j=>exact GU q x h j (by simpa using d)
   | succ i =>
    cases j with
    |zero=>cases g
    |succ j=>exact RT q x h i j (by omega) (by simpa using d)
theorem jC.m{z:List G}(h:jC z):fR z:=by
 obtain⟨h,h0,h1⟩:=h;exact⟨h.eta,by unfold c7; omega,by unfold c7; omega⟩
theorem RV{X:List (List G)}(hX:∀ i,i<X.length→∃ c L,X.getD i []=[.s c,.l L]∧c∈calls∧(∀ z∈L,dn z)∧L.length<100000)(J:X.length≤100):∀(k i:Nat),i+k=X.length →
  aZ r9 [.l X,.l X,.i (X.length:Int),.i (i:Int)] (k+1) fun x g=>(x=0∧∃ e:Int,g=[.i e]∧e≠0)∨x=1∧∀ j,i≤j→j<X.length→∀ c L,X.getD j []=[.s c,.l L]→kW c L=0
 | 0,i,hi=>by
  refine aZ.stop (x:=1) (d':=[]) (aa.toEq ?_) (.inr ⟨rfl,fun j h1 d=>by omega⟩);unfold r9
  (dsimp +instances only[Aa,Ab,Ac,Ad,Ae,Af,Ag])
  (repeat first|refine aa.p ?_|refine aa.n ?_)
  exact aa.some rfl
 | k+1,i,hi=>by
  obtain⟨c,L,y,q,B,v⟩:=hX i (by omega);have M:=RV hX J k (i+1) (by omega);have step:aa (r9 [.l X,.l X,.i (X.length:Int),.i (i:Int)]) fun o=>(∃ e:Int,o=(some 0,[.i e])∧e≠0)∨(o=(none,[.l X,.l X,.i (X.length:Int),.i ((i:Int)+1)])∧kW c L=0):=by
   unfold r9
   (dsimp +instances only[Aa,Ab,Ac,Ad,Ae,Af,Ag])
   simp only[a8,y]
   (dsimp +instances only[Aa,Ab,Ac,Ad,Ae,Af,Ag])
   refine aa.p (aa.p ?_);refine aa.cE (Gn q) ?_
   (dsimp +instances only[Aa,Ab,Ac,Ad,Ae,Af,Ag])
   refine aa.test (fun _=>aa.some (.inl ⟨3,rfl,by decide⟩)) fun _=>?_;refine aa.test (fun I=>?_) fun _=>?_
   ·rw [dS, decide_eq_true_eq] at I
    refine aa.p (aa.p ?_);refine aa.test (fun _=>aa.some (.inl ⟨7,rfl,by decide⟩)) fun _=>?_;refine aa.cE (RR (L:=L) q B v) ?_
    (dsimp +instances only[Aa,Ab,Ac,Ad,Ae,Af,Ag])
    refine aa.test (fun h=>aa.some (.inl ⟨_,rfl,by simpa using h⟩)) fun h=>?_;exact aa.p (aa.some (.inr ⟨rfl,by simpa using h⟩))
   ·refine aa.call (aa.eq (RR (L := L) q B v)) ?_
    rintro _ rfl
    (dsimp +instances only[Aa,Ab,Ac,Ad,Ae,Af,Ag])
    refine aa.test (fun h=>aa.some (.inl ⟨_,rfl,by simpa using h⟩)) fun h=>?_;exact aa.p (aa.some (.inr ⟨rfl,by simpa using h⟩))
  obtain⟨o,h,⟨e,rfl,he⟩|⟨rfl,N⟩⟩:=step
  ·exact aZ.stop h (.inl ⟨rfl,e,rfl,he⟩)
  ·refine aZ.next h (M.mono ?_)
   rintro x g (d|⟨rfl,d⟩)
   ·exact .inl d
   ·refine .inr ⟨rfl, fun j h3 O U V u => ?_⟩
    by_cases W:j=i
    ·subst W
     rw[y]at u;cases u;exact N
    ·exact d j (by omega) O U V u
theorem agp{X:List (List G)}(hX:∀ i,i<X.length→∃ c L,X.getD i []=[.s c,.l L]∧c∈calls∧(∀ z∈L,dn z)∧L.length<100000)(d:X.length≤100) :
  aa (zu [.l X]) fun g=>∃ e:Int,g=[.i e]∧(e=0→∀ j,j<X.length→∀ c L,X.getD j []=[.s c,.l L]→kW c L=0):=by
 unfold zu
 (dsimp +instances only[Aa,Ab,Ac,Ad,Ae,Af,Ag])
 refine aa.neg (by rw[dS]; exact decide_eq_false (by omega)) ?_;have:=RV hX d X.length 0 (by omega);refine aa.loop (this.to (by omega)) rfl ?_;rintro x g (⟨rfl,e,rfl,he⟩|⟨rfl,h⟩)
 ·exact aa.some ⟨e,rfl,fun h=>absurd h he⟩
 ·exact aa.some ⟨0,rfl,fun _ j k=>h j (eC _) k⟩
def fF(k:Nat):List Nat→Option Nat
 | []=>none
 |a::l=>bif a==k then some 0 else (fF k l).map (·+1)
theorem GV{k:Nat}:∀{l:List Nat},fF k l=none↔k∉l
 | []=>by simp[fF]
 | a::l=>by
  unfold fF;cases h:a==k with
  |true=>simp at h; simp[h]
  | false =>
   simp at h;simp only[cond_false,Option.map_eq_none_iff,GV,bY,not_or];exact⟨fun g=>⟨fun e=>h e.symm,g⟩,fun g=>g.2⟩
theorem Ap{k:Nat}:∀{l:List Nat} {n:Nat},fF k l=some n→n<l.length∧l.getD n 0=k
 | [],n,h=>by cases h
 | a::l,n,h=>by
  unfold fF at h;cases e:a==k with
  | true =>
   rw[e]at h;cases h;simp at e;exact⟨by simp,by simpa using e⟩
  | false =>
   rw[e]at h;simp only[cond_false,Option.map_eq_some_iff]at h;obtain⟨m,h1,rfl⟩:=h;obtain⟨g,d⟩:=Ap h1;exact⟨by simp; omega,by simpa using d⟩
theorem GW{k:Nat}:∀{l:List Nat},k∉l→fF k (l++[k])=some l.length
 | [],_=>by simp[fF]
 | a::l,h=>by
  simp only[bY,not_or]at h;have e:(a==k)=false:=by simp; exact fun e=>h.1 e.symm
  show (bif a==k then some 0 else (fF k (l++[k])).map (·+1))=_
  rw[e,GW h.2];rfl
theorem GX(a b:Int):ba [.int .i64] [.i a] [.i b]=decide (a=b):=by
 show ((a==b)&&true)=decide (a=b)
 rw[fT];exact Bool.beq_eq_decide_eq a b
def bp:Nat→List Nat→List (List G)
 |_,[]=>[]
 |i,k::ks=>[.l [[.i (k:Int)]],.i (i:Int),.i (i:Int)]::bp (i+1) ks
theorem RW:∀(i:Nat) (A B:List Nat),bp i (A++B)=bp i A++bp (i+A.length) B
 |i,[],B=>by simp[bp]
 | i,a::A,B=>by
  show _::bp (i+1) (A++B)=_::(bp (i+1) A++bp (i+(A.length+1)) B)
  rw[RW (i+1) A B,show i+1+A.length=i+(A.length+1) by omega]
theorem GY(k:Nat):∀(ks:List Nat) (i j:Nat),bX [.int .i64] [.i (k:Int)] (bp i ks) j=(fF k ks).map fun n=>(j+n,([.l [[.i (k:Int)]],.i ((i+n:Nat):Int),.i ((i+n:Nat):Int)]:List G))
 | [],_,_=>rfl
 | a::ks,i,j=>by
  have d:=GY k ks (i+1) (j+1);have e:ba [.int .i64] [.i (k:Int)] ((gi [.l [[.i (a:Int)]],.i (i:Int),.i (i:Int)] 0).row)=(a==k):=by
   show ba [.int .i64] [.i (k:Int)] [.i (a:Int)]=_
   rw[GX];by_cases h:a=k
   ·subst h; simp
   ·have g : ¬ (k : Int) = (a : Int) := fun e => h (by omega)
    simp[h,g]
  show (bif _ then some (j,_) else bX _ _ (bp (i+1) ks) (j+1))=_
  rw[e,d];show _=Option.map _ (bif a==k then some 0 else (fF k ks).map (·+1))
  cases h:a==k with
  | true =>
   simp at h;subst h;rfl
  | false =>
   simp only[cond_false,Option.map_map];congr 1
   funext n
   simp only[HD];rw[show j+1+n=j+(n+1) by omega,show i+1+n=i+(n+1) by omega]
theorem agq(k:Nat)(ks:List Nat):dT [.int .i64] (bp 0 ks) [.i (k:Int)]=(fF k ks).isSome:=by
 unfold dT;rw[GY,Option.isSome_map]
theorem Aq(k:Nat)(ks:List Nat):fv [.int .i64] (bp 0 ks) [.i (k:Int)]=fF k ks:=by
 unfold fv;rw[GY];cases h:fF k ks with
 |none=>rfl
 | some n =>
  show (bif a_ 0 ((0+n:Nat):Int) then some ((0+n:Nat):Int).toNat else none)=some n
  rw[fu,decide_eq_true (by omega:(0:Int)≤((0+n:Nat):Int))];simp
theorem GZ(r:List G):∀(ks:List Nat) (i j c:Nat),i+ks.length≤c→fa (c:Int) (bp i ks++[r]) j=fa (c:Int) [r] (j+ks.length)
 | [],i,j,c,_=>rfl
 | a::ks,i,j,c,h=>by
  simp only[cD]at h;have d:=GZ r ks (i+1) (j+1) c (by omega);show (bif ((i:Int).toNat:Int)==(c:Int) then _ else fa (c:Int) (bp (i+1) ks++[r]) (j+1))=_
  have e:(((i:Int).toNat:Int)==(c:Int))=false:=by
   rw[a8];simp;omega
  rw[e,d,show j+1+ks.length=j+(ks.length+1) by omega];rfl
theorem RX:∀(i:Nat) (ks:List Nat),(bp i ks).length=ks.length
 |_,[]=>rfl
 |i,_::ks=>by simp[bp,RX (i+1) ks]
def sL(k c:Nat):List G:=[.l [[.i (k:Int)]],.i (-1),.i (c:Int)]
theorem RY(k c j:Nat):fa (c:Int) [sL k c] j=some (j,sL k c):=by
 show (bif ((c:Int).toNat:Int)==(c:Int) then _ else _)=_
 rw[a8];simp
theorem agr(k:Nat)(ks:List Nat):qW (bp 0 ks++[sL k ks.length]) (ks.length:Int)=true:=by
 unfold qW;rw[GZ _ _ _ _ _ (by omega),RY];rfl
theorem ags(k:Nat)(ks:List Nat):qX (bp 0 ks++[sL k ks.length]) (ks.length:Int) ks.length=bp 0 (ks++[k]):=by
 unfold qX;rw[GZ _ _ _ _ _ (by omega),RY,RW];show (bp 0 ks++[sL k ks.length]).set (0+ks.length) _=_
 rw[vS (bp 0 ks) _ _ [] _ (by rw[RX,cT])];rw[cT];rfl
def gg(d:List G→List G × List G)(q:List (List G))(a:List (List G) × Nat):List (List G) × Nat :=
 q.foldl (fun a r=>(aL [.int .i64] a.1 (d r).1 (d r).2 a.2,bE [.int .i64] a.1 (d r).1 a.2)) a
def lM(a:List (List G) × Nat):List G:=[.l a.1,.i (a.2:Int)]
def sM(r:List G):List G × List G:=([.i (gi r 0).int],[.i (gi r 1).int])
def RZ(r:List G):List G × List G:=([.i (gi r 1).int],[.t true])
def dG(p:List (List G)):List G:=lM (gg sM p ([],0))
def dH(p:List (List G)):List G:=lM (gg RZ p ([],0))
theorem R0(d:List G→List G × List G)(p:List (List G))(r:List G)(a:List (List G) × Nat) :
  gg d (p++[r]) a=(aL [.int .i64] (gg d p a).1 (d r).1 (d r).2 (gg d p a).2,bE [.int .i64] (gg d p a).1 (d r).1 (gg d p a).2):=by
 unfold gg;rw[aih];rfl
theorem R3(M:List (List G))(a:List (List G) × Nat)(key val:List G) :
  qV (M++[lM a]) (some M.length) [.int .i64] key val=M++[lM (aL [.int .i64] a.1 key val a.2,bE [.int .i64] a.1 key a.2)]:=by
 unfold qV;have e:gx (M++[lM a]) (some M.length)=lM a:=by
  show (M++[lM a]).getD M.length []=_
  rw[ct];simp
 rw[e];show (M++[lM a]).set M.length _=_
 rw[vS M _ _ [] _ rfl];show M++[[.l (aL [.int .i64] a.1 key val (a.2:Int).toNat),.i ((bE [.int .i64] a.1 key (a.2:Int).toNat:Nat):Int)]]=_
 rw[a8];rfl
theorem R4(M:List (List G))(x:List G):kI (M++[x]) (some M.length)=true:=by
 show ft M.length (M++[x]).length=true
 simp
theorem R5(d:List G→List G × List G)(key:List G):∀(q:List (List G)) (a:List (List G) × Nat),dT [.int .i64] (gg d q a).1 key=(q.any (fun r=>ba [.int .i64] key (d r).1)||dT [.int .i64] a.1 key)
 | [],a=>rfl
 | r::q,a=>by
  show dT [.int .i64] (gg d q (_,_)).1 key=_
  rw[R5 d key q];simp only[HO];rw[LH];cases ba [.int .i64] key (d r).1<;>cases dT [.int .i64] a.1 key<;>simp
theorem R6(d:List G→List G × List G)(key z:List G):∀(q:List (List G)) (a:List (List G) × Nat),(∃ r∈q,ba [.int .i64] key (d r).1=true∧aB [.int .i64] (gg d q a).1 key z=(d r).2) ∨
  (∀ r∈q,ba [.int .i64] key (d r).1=false)∧aB [.int .i64] (gg d q a).1 key z=aB [.int .i64] a.1 key z
 | [],a=>.inr ⟨fun _ h=>(by cases h),rfl⟩
 | r::q,a=>by
  show (∃ _,_∧_∧aB [.int .i64] (gg d q (aL [.int .i64] a.1 (d r).1 (d r).2 a.2,_)).1 key z=_)∨_∧aB [.int .i64] (gg d q (aL [.int .i64] a.1 (d r).1 (d r).2 a.2,_)).1 key z=_
  rcases R6 d key z q (aL [.int .i64] a.1 (d r).1 (d r).2 a.2,bE [.int .i64] a.1 (d r).1 a.2)with⟨s,h1,g,u⟩|⟨h1,g⟩
  ·exact .inl ⟨s,di _ h1,g,u⟩
  ·rw [g, Dc]
   cases e:ba [.int .i64] key (d r).1 with
   |true=>exact .inl ⟨r,by simp,e,rfl⟩
   | false =>
    refine .inr ⟨fun s k=>?_,rfl⟩;rcases bY.1 k with rfl|k
    ·exact e
    ·exact h1 s k
structure fG (m i:Nat) (r:List (List G)):Prop where
 len:r.length=m
 val:∀ j,j<m→∃ v:Int,r.getD j []=[.i v]∧0≤v∧v≤(i:Int)+(j:Int)
theorem fG.set{m i k:Nat}{r:List (List G)}(h:fG m i r){v:Int}(h0:0≤v)(h1:v≤(i:Int)+(k:Int)):fG m i (r.set k [.i v]):=by
 refine⟨by rw[mM,h.len],fun j d=>?_⟩;by_cases e:k=j
 ·subst e
  refine⟨v,?_,h0,h1⟩;rw[ct,bC (by rw[h.len]; exact d)];rfl
 ·obtain ⟨w, g1, g2⟩ := h.val j d
  refine⟨w,?_,g2⟩;rw[ct,List.getElem?_set_ne e,←ct,g1]
theorem fG.zero(m i:Nat):fG m i (bN m [.i 0]):=by
 refine⟨wm ..,fun j d=>⟨0,?_,la 0,by omega⟩⟩;rw[ct,aif,if_pos d];rfl
def G0(r0 r1 r2:List (List G))(a b:ByteArray)(i m:Nat)(h k q u:Int)(x:Nat)(g:List G):Prop :=
 x=0∧∃ d:List (List G),g=[.l r0,.l r1,.l r2,.l d,.s a,.s b,.i (i:Int),.i h,.i k,.i q,.i u]∧fG m i d
def agt(r:List G)(x:Nat)(g:List G):Prop:=x=0∧g=r
theorem agu{r0 r1 r2 row:List (List G)}{a b:ByteArray}{i k m:Nat}{g q u y:Int}{f:Bool}(hk:k<m)(d:fG m i row)(I:f=true→2≤i∧2≤k∧fG m (i-2) r1)(hi:i≤1000)(hm:m≤1000) :
  aa (nW [.l r0,.l r1,.l r2,.l row,.s a,.s b,.i (i:Int),.i (k:Int),.i g,.i q,.i u,.i y,.t f]) fun o=>∃ x,o.1=some x∧G0 r0 r1 r2 a b i m g q u y x o.2:=by
 unfold nW
 (dsimp +instances only[Aa,Ab,Ac,Ad,Ae,Af,Ag])
 refine aa.test (fun h=>?_) fun h=>?_
 ·obtain ⟨h1, O, B⟩ := I h
  obtain⟨v,J,v0,v1⟩:=d.val k hk;obtain⟨w,hw,U,V⟩:=B.val (k-2) (by omega);have M:((k:Int)).toNat=k:=a8 k;have N:((k:Int)-2).toNat=k-2:=by omega
  have W:=d.len;have l2:=B.len;simp only[M,N,cT,J,hw,sG]
  (dsimp +instances only[Aa,Ab,Ac,Ad,Ae,Af,Ag])
  refine aa.p (aa.p (aa.p (aa.p (aa.p (aa.p (aa.p (aa.p ?_)))))));refine aa.some ⟨0,rfl,rfl,_,rfl,d.set ?_ ?_⟩<;>split<;>omega
 ·exact aa.p (aa.some ⟨0,rfl,rfl,_,rfl,d⟩)
theorem agv{r0 r1 r2 row:List (List G)}{a b:ByteArray}{i k m:Nat}{c d q u v:Int}(hk1:1≤k)(hk:k<m)(hb:m=b.size+1)(hi1:1≤i)(ha:i≤a.size)(y:fG m i row)(B:fG m (i-1) r2)(h1:2≤i→fG m (i-2) r1)(c0:0≤c)(c1:c≤1)(hi:i≤1000)(hm:m≤1000) :
  aa (sn [.l r0,.l r1,.l r2,.l row,.s a,.s b,.i (i:Int),.i (k:Int),.i c,.i d,.i q,.i u,.i v]) fun o=>∃ x,o.1=some x∧G0 r0 r1 r2 a b i m d q u v x o.2:=by
 unfold sn
 (dsimp +instances only[Aa,Ab,Ac,Ad,Ae,Af,Ag])
 obtain⟨v1,N,v10,v11⟩:=B.val k hk;obtain⟨v2,O,v20,v21⟩:=y.val (k-1) (by omega);obtain⟨v3,U,v30,v31⟩:=B.val (k-1) (by omega);have n1:((k:Int)).toNat=k:=a8 k;have n2:((k:Int)-1).toNat=k-1:=by omega
 have l1:=y.len;have l2:=B.len;simp only[n1,n2,cT,N,O,U,sG]
 (dsimp +instances only[Aa,Ab,Ac,Ad,Ae,Af,Ag])
 obtain⟨V,hV,V0,V1⟩:∃ V:Int,(if v3+c<(if v2+1<v1+1 then v2+1 else v1+1) then v3+c else (if v2+1<v1+1 then v2+1 else v1+1))=V∧0≤V∧V≤(i:Int)+(k:Int):=by
  refine⟨_,rfl,?_,?_⟩<;>split<;>(try split)<;>omega
 simp only[hV];have J:=y.set V0 V1;refine aa.p (aa.p (aa.p (aa.p (aa.p (aa.p (aa.p (aa.p (aa.p (aa.p (aa.p ?_))))))))));have fin:∀(f:Bool),(f=true→2≤i∧2≤k)→aa (aN (ad row.length (row.set k [.i V]).length&&true) (bW (nW [.l r0,.l r1,.l r2,.l (row.set k [.i V]),.s a,.s b,.i (i:Int),.i (k:Int),.i d,.i q,.i u,.i v,.t f])) fun cg g=>(bif (ad (gi g 3).rows.length (gi g 3).rows.length)&&true then some ((some 0:Option Nat),[G.l (gi g 0).rows,.l (gi g 1).rows,.l (gi g 2).rows,.l (gi g 3).rows,.s (gi g 4).str,.s (gi g 5).str,.i (gi g 6).int,.i (gi g 7).int,.i (gi g 8).int,.i (gi g 9).int,.i (gi g 10).int]) else none))
   fun o=>∃ x,o.1=some x∧G0 r0 r1 r2 a b i m d q u v x o.2:=fun f I=>by
  refine aa.tail (agu hk J (fun h=>⟨(I h).1,(I h).2,h1 (I h).1⟩) hi hm) (by(first|rfl|assumption|(simp only[aq,sl]<;>omega))) ?_;rintro _ _ ⟨rfl,M,rfl,W⟩
  (dsimp +instances only[Aa,Ab,Ac,Ad,Ae,Af,Ag])
  exact aa.p (aa.some ⟨0,rfl,rfl,M,rfl,W⟩)
 refine aa.test (fun g1=>?_) fun g1=>fin false (fun h=>by cases h);rw[dS,decide_eq_true_eq]at g1;refine aa.test (fun g2=>?_) fun g2=>fin false (fun h=>by cases h);rw[dS,decide_eq_true_eq]at g2;refine aa.p (aa.p (aa.p (aa.p ?_)));refine aa.test (fun g3=>?_) fun g3=>fin false (fun h=>by cases h);refine aa.p (aa.p (aa.p (aa.p ?_)));exact fin _ fun _=>⟨by omega,by omega⟩
theorem G1{r0 r1 r2 row:List (List G)}{a b:ByteArray}{d g h q:Int}{k:Nat}(hk:k≤1000) :
  aa (nV [.l r0,.l r1,.l r2,.l row,.s a,.s b,.i d,.i g,.i h,.i q,.i (k:Int)]) fun o=>∃ x,o.1=some x∧agt [.l r0,.l r1,.l r2,.l row,.s a,.s b,.i d,.i g,.i h,.i q,.i ((k:Int)+1)] x o.2:=by
 unfold nV
 (dsimp +instances only[Aa,Ab,Ac,Ad,Ae,Af,Ag])
 exact aa.p (aa.p (aa.some ⟨0,rfl,rfl,rfl⟩))
theorem R7{r0 r1 r2:List (List G)}{a b:ByteArray}{i m:Nat}{n:Int}(hb:m=b.size+1)(ha:i≤a.size)(v:1≤i→fG m (i-1) r2)(h1:2≤i→fG m (i-2) r1)(hi:i≤1000)(hm:m≤1000):∀(t k:Nat) (row:List (List G)),k+t=m→fG m i row →
  aZ so [.l r0,.l r1,.l r2,.l row,.s a,.s b,.i (i:Int),.i n,.i (i:Int),.i (m:Int),.i (k:Int)] (t+1) fun x g=>x=0∧∃ d,g=[.l r0,.l r1,.l r2,.l d,.s a,.s b,.i n,.i (i:Int)]∧fG m i d
 | 0,k,row,hk,q=>by
  refine aZ.stop (x:=0) (aa.toEq ?_) ⟨rfl,row,rfl,q⟩;unfold so
  (dsimp +instances only[Aa,Ab,Ac,Ad,Ae,Af,Ag])
  exact aa.n (aa.p (aa.some rfl))
 | t+1,k,row,hk,q=>by
  have step:aa (so [.l r0,.l r1,.l r2,.l row,.s a,.s b,.i (i:Int),.i n,.i (i:Int),.i (m:Int),.i (k:Int)]) fun o=>∃ d,o=(none,[.l r0,.l r1,.l r2,.l d,.s a,.s b,.i (i:Int),.i n,.i (i:Int),.i (m:Int),.i ((k:Int)+1)])∧fG m i d:=by
   unfold so
   (dsimp +instances only[Aa,Ab,Ac,Ad,Ae,Af,Ag])
   have M:=q.len;have y:((k:Int)).toNat=k:=a8 k;simp only[y,cT,sG];refine aa.p (aa.test (fun g0=>?_) fun g0=>aa.test (fun g1=>?_) fun g1=>?_)
   ·refine aa.p (aa.p ?_)
    refine aa.tail (G1 (k:=k) (by omega)) (by(first|rfl|assumption|(simp only[aq,sl]<;>omega))) ?_;rintro _ _ ⟨rfl,rfl⟩
    (dsimp +instances only[Aa,Ab,Ac,Ad,Ae,Af,Ag])
    exact aa.p (aa.some ⟨_,rfl,q.set (by omega) (by omega)⟩)
   ·refine aa.p (aa.p ?_)
    refine aa.tail (G1 (k:=k) (by omega)) (by(first|rfl|assumption|(simp only[aq,sl]<;>omega))) ?_;rintro _ _ ⟨rfl,rfl⟩
    (dsimp +instances only[Aa,Ab,Ac,Ad,Ae,Af,Ag])
    exact aa.p (aa.some ⟨_,rfl,q.set (by omega) (by omega)⟩)
   ·have i1:1≤i:=by
     have:¬ ((i:Int)=0):=by simpa using g0
     omega
    have B:1≤k:=by
     have:¬ ((k:Int)=0):=by simpa using g1
     omega
    have fin:∀ c:Int,0≤c→c≤1→aa (aN (ad row.length row.length&&true) (bW (sn [.l r0,.l r1,.l r2,.l row,.s a,.s b,.i (i:Int),.i (k:Int),.i c,.i n,.i (i:Int),.i (m:Int),.i (k:Int)])) fun I g=>aN (ad (gi g 3).rows.length (gi g 3).rows.length&&true) (bW (nV [.l (gi g 0).rows,.l (gi g 1).rows,.l (gi g 2).rows,.l (gi g 3).rows,.s (gi g 4).str,.s (gi g 5).str,.i (gi g 6).int,.i (gi g 7).int,.i (gi g 8).int,.i (gi g 9).int,.i (gi g 10).int])) fun I g=>(bif (ad (gi g 3).rows.length (gi g 3).rows.length)&&true then some ((none:Option Nat),[G.l (gi g 0).rows,.l (gi g 1).rows,.l (gi g 2).rows,.l (gi g 3).rows,.s (gi g 4).str,.s (gi g 5).str,.i (gi g 6).int,.i (gi g 7).int,.i (gi g 8).int,.i (gi g 9).int,.i (gi g 10).int]) else none))
      fun o=>∃ d,o=(none,[.l r0,.l r1,.l r2,.l d,.s a,.s b,.i (i:Int),.i n,.i (i:Int),.i (m:Int),.i ((k:Int)+1)])∧fG m i d:=fun c J c1=>by
     refine aa.tail (agv B (by omega) hb i1 ha q (v i1) h1 J c1 hi hm) (by(first|rfl|assumption|(simp only[aq,sl]<;>omega))) ?_;rintro _ _ ⟨rfl,d,rfl,u⟩
     (dsimp +instances only[Aa,Ab,Ac,Ad,Ae,Af,Ag])
     refine aa.tail (G1 (k:=k) (by omega)) (by(first|rfl|assumption|(simp only[aq,sl]<;>omega))) ?_;rintro _ _ ⟨rfl,rfl⟩
     (dsimp +instances only[Aa,Ab,Ac,Ad,Ae,Af,Ag])
     exact aa.p (aa.some ⟨d,rfl,u⟩)
    refine aa.p (aa.p (aa.p (aa.p ?_)));exact aa.test (fun _=>fin 0 (by omega) (by omega)) fun _=>fin 1 (by omega) (by omega)
  obtain⟨o,h,d,rfl,u⟩:=step;exact aZ.next h (R7 hb ha v h1 hi hm t (k+1) d (by omega) u)
theorem R8{a b:ByteArray}{m:Nat}(hb:m=b.size+1)(ha:a.size≤100)(hm:m≤1000):∀(t i:Nat) (r0 r1 r2:List (List G)),i+t=a.size+1→(1≤i→fG m (i-1) r2)→(2≤i→fG m (i-2) r1) →
  aZ sq [.l r0,.l r1,.l r2,.s a,.s b,.i ((a.size:Nat)+1:Int),.i (i:Int)] (t+1) fun x g=>x=0∧∃ r0 r1 r2,g=[.l r0,.l r1,.l r2,.s b]∧r2.length=m
 | 0,i,r0,r1,r2,hi,d,h1=>by
  refine aZ.stop (x:=0) (aa.toEq ?_) ⟨rfl,r0,r1,r2,rfl,(d (by omega)).len⟩;unfold sq
  (dsimp +instances only[Aa,Ab,Ac,Ad,Ae,Af,Ag])
  exact aa.n (aa.some rfl)
 | t+1,i,r0,r1,r2,hi,d,h1=>by
  have step:aa (sq [.l r0,.l r1,.l r2,.s a,.s b,.i ((a.size:Nat)+1:Int),.i (i:Int)]) fun o=>∃ row,o=(none,[.l r1,.l r2,.l row,.s a,.s b,.i ((a.size:Nat)+1:Int),.i ((i:Int)+1)])∧fG m i row:=by
   unfold sq
   (dsimp +instances only[Aa,Ab,Ac,Ad,Ae,Af,Ag])
   have q:(((b.size:Nat):Int)+1).toNat=m:=by omega
   simp only[q];refine aa.p (aa.p (aa.p ?_));refine aa.loop ((R7 hb (by omega) d h1 (by omega) hm m 0 _ (by omega) (fG.zero m i)).to (by omega)) (by(first|rfl|assumption|(simp only[aq,sl]<;>omega))) ?_;rintro _ _ ⟨rfl,row,rfl,k⟩
   (dsimp +instances only[Aa,Ab,Ac,Ad,Ae,Af,Ag])
   exact aa.p (aa.p (aa.some ⟨row,rfl,k⟩))
  obtain⟨o,h,row,rfl,k⟩:=step;exact aZ.next h (R8 hb ha hm t (i+1) r1 r2 row (by omega) (fun _=>k) (fun h=>d (by omega)))
theorem agw{a b:ByteArray}(ha:a.size≤100)(hb:b.size≤100):aa (zI [.s a,.s b]) fun g=>∃ v:Int,g=[.i v]:=by
 unfold zI
 (dsimp +instances only[Aa,Ab,Ac,Ad,Ae,Af,Ag])
 refine aa.p ?_;refine aa.loop ((R8 (m:=b.size+1) rfl ha (by omega) (a.size+1) 0 [] [] [] (by omega) (fun h=>by omega) (fun h=>by omega)).to (by omega)) (by(first|rfl|assumption|(simp only[aq,sl]<;>omega))) ?_;rintro _ _ ⟨rfl,r0,r1,r2,rfl,d⟩
 (dsimp +instances only[Aa,Ab,Ac,Ad,Ae,Af,Ag])
 exact aa.p (aa.some ⟨_,rfl⟩)
structure mH (L:List (List G)) (C:Nat→ByteArray) (A:Nat→List (List G)):Prop where
 get:∀ i,i<L.length→L.getD i []=[.s (C i),.l (A i)]
 n:L.length≤4
 pX:∀ i,i<L.length→∀ z∈A i,fR z∧(gi z 3).str.size≤100
 na:∀ i,i<L.length→(A i).length≤14
 cs:∀ i,i<L.length→(C i).size≤100
 pY:∀ i j,i<j→j<L.length→dL (C i) (C j)<0
theorem agx:((dI 8).all fun n=>dY .u64 (IntKind.u64.wrap ((n:Nat):Int)) 1==((n / 2:Nat):Int))=true:=by kernel_rfl
theorem agy(i j:Nat)(h:i+j<8):dY .u64 (IntKind.u64.wrap ((i:Int)+(j:Int))) 1=(((i+j) / 2:Nat):Int):=by
 have:=cQ.1 agx (i+j) (eO.2 h);rw[beq_iff_eq]at this;rw[←this];congr 2
section
variable {L:List (List G)} {C:Nat→ByteArray} {A:Nat→List (List G)} (S:mH L C A)
include S
theorem mH.two{i k:Nat}(hi:i<L.length)(hk:k<L.length):gD (A i) (A k) :=
 ⟨fun z d=>(S.pX i hi z d).1,fun z d=>(S.pX k hk z d).1,by have:=S.na i hi; omega,by have:=S.na k hk; omega⟩
theorem mH.mem{i j:Nat}(hi:i<L.length)(d:j<(A i).length):fR ((A i).getD j [])∧(gi ((A i).getD j []) 3).str.size≤100 :=
 S.pX i hi _ (by rw[ct,bL d]; exact mT d)
theorem mH.key{i:Nat}(hi:i<L.length):(gi (L.getD i []) 0).str=C i:=by rw[S.get i hi]; rfl
theorem G2(s:ByteArray):∀(m i j:Nat),j≤i+m→i≤j→j≤L.length→(∀ t,t<i→dL (C t) s<0)→(∀ t,j≤t→t<L.length→¬ dL (C t) s<0) →
  aZ r_ [.l L,.s s,.i (L.length:Int),.i (i:Int),.i (j:Int)] (m+1) fun x g=>x=0∧∃ p:Nat,g=[.l L,.s s,.i (L.length:Int),.i (p:Int)]∧p≤L.length∧(∀ t,t<p→dL (C t) s<0)∧(∀ t,p≤t→t<L.length→¬ dL (C t) s<0)
 | m,i,j,hm,M,u,h1,v=>by
  have N:=S.n;by_cases he:i=j
  ·subst he
   refine aZ.stop (x:=0) (aa.toEq ?_) ⟨rfl,i,rfl,u,h1,v⟩;unfold r_
   (dsimp +instances only[Aa,Ab,Ac,Ad,Ae,Af,Ag])
   exact aa.n (aa.some rfl)
  ·obtain ⟨m', rfl⟩ : ∃ m', m = m' + 1 := ⟨m - 1, by omega⟩
   have I:=agy i j (by omega);have q:(i+j) / 2<L.length:=by omega
   have y:=S.get _ q;have step:∀ o,(bif ai (dL (C ((i+j) / 2)) s) 0 then some ((none:Option Nat),[G.l L,.s s,.i (L.length:Int),.i (((i+j) / 2+1:Nat):Int),.i (j:Int)]) else some (none,[.l L,.s s,.i (L.length:Int),.i (i:Int),.i (((i+j) / 2:Nat):Int)]))=some o →
     r_ [.l L,.s s,.i (L.length:Int),.i (i:Int),.i (j:Int)]=some o:=fun o ho=>by
    refine aa.toEq ?_;unfold r_
    (dsimp +instances only[Aa,Ab,Ac,Ad,Ae,Af,Ag])
    simp only[I,a8,y];refine aa.p (aa.p (aa.p (aa.p ?_)));refine aa.call (P:=fun g=>g=[.i (dL (C ((i+j) / 2)) s)]) (aa.eq rfl) ?_;rintro _ rfl
    (dsimp +instances only[Aa,Ab,Ac,Ad,Ae,Af,Ag])
    refine aa.test (fun h=>?_) fun h=>?_
    ·rw [h, cond_true] at ho
     refine aa.p (aa.some ?_);cases ho;rfl
    ·rw [h, cond_false] at ho
     refine aa.some ?_;cases ho;rfl
   by_cases d:dL (C ((i+j) / 2)) s<0
   ·refine aZ.next (step _ (by rw [dS, decide_eq_true d]; rfl)) (G2 s m' _ j (by omega) (by omega) u (fun t J => ?_) v)
    rcases jb t ((i+j) / 2)with h|h
    ·exact n5.tr _ _ _ (S.pY t _ h q) d
    ·rw [show t = (i + j) / 2 by omega]
     exact d
   ·refine aZ.next (step _ (by rw [dS, decide_eq_false d]; rfl)) (G2 s m' i _ (by omega) (by omega) (by omega) h1 (fun t J B k => ?_))
    rcases jb ((i+j) / 2) t with h|h
    ·exact d (n5.tr _ _ _ (S.pY _ t h B) k)
    ·rw [show t = (i + j) / 2 by omega] at k
     exact d k
theorem G3(s:ByteArray):aa (sa [.l L,.s s]) fun g=>∃(p:Nat) (b:Bool),g=[.i (p:Int),.t b]∧(b=true→p<L.length∧C p=s)∧(b=false→∀ k,k<L.length→C k≠s):=by
 have I:=S.n;unfold sa
 (dsimp +instances only[Aa,Ab,Ac,Ad,Ae,Af,Ag])
 refine aa.call (P:=fun g=>∃(p:Nat) (b:Bool),g=[.i (p:Int),.t b]∧(b=true→p<L.length∧C p=s)∧(b=false→∀ k,k<L.length→C k≠s)) ?_ ?_
 ·unfold Fc
  (dsimp +instances only[Aa,Ab,Ac,Ad,Ae,Af,Ag])
  refine aa.loop ((G2 S s L.length 0 L.length (by omega) (by omega) (aD _) (fun t v=>by omega) (fun t h1 d=>by omega)).to (by omega)) rfl ?_;rintro _ _ ⟨rfl,p,rfl,J,y,B⟩
  (dsimp +instances only[Aa,Ab,Ac,Ad,Ae,Af,Ag])
  have q:∀ t,t<L.length→C t=s→t=p:=fun t v e=>by
   have h0:dL (C t) s=0:=pR.2 e;have h1:p≤t:=aik fun h=>by have:=y t h; omega
   refine Nat.le_antisymm (aik fun h=>?_) h1;have d:=S.pY p t h v;rw[e]at d;exact B p (aD _) (by omega) d
  refine aa.test (fun h=>?_) fun h=>?_
  ·simp only [dS, decide_eq_true_eq] at h
   have u:p<L.length:=by omega
   simp only[a8,S.get p u];refine aa.p ?_;refine aa.call (P:=fun g=>g=[.i (dL (C p) s)]) (aa.eq rfl) ?_;rintro _ rfl;refine aa.some ⟨p,_,rfl,fun hb=>⟨u,?_⟩,fun hb k hk e=>?_⟩
   ·have hb : (dL (C p) s == 0) = true := hb
    rw[beq_iff_eq]at hb;exact pR.1 hb
   ·have := q k hk e
    subst this;have hb:(dL (C k) s==0)=false:=hb;rw[pR.2 e]at hb;cases hb
  ·simp only [dS, decide_eq_false_iff_not] at h
   exact aa.some ⟨p,false,rfl,fun hb=>(by cases hb),fun _ k hk e=>by have:=q k hk e; omega⟩
 ·rintro _ ⟨p, b, rfl, h⟩
  exact aa.some ⟨p,b,rfl,h⟩
end
def bA(A:Nat→List (List G))(C:Nat→ByteArray)(own:Nat)(off:Int)(k:Nat):List (List G):=iZ (A own) (A k) (C own) (C k) off
def ja(k:Nat)(ks:List Nat):List Nat:=match fF k ks with
 |some _=>ks
 |none=>ks++[k]
theorem R9(k:Nat)(ks:List Nat):∃ n,fF k (ja k ks)=some n:=by
 unfold ja;cases h:fF k ks with
 |some n=>exact⟨n,h⟩
 |none=>exact⟨_,GW (GV.1 h)⟩
theorem R_{L R1 R2 M T:List (List G)}{own off k:Int}{c1 c2:Nat}(h1:fv [.int .i64] R1 [.i k]=some M.length)(d:fv [.int .i64] R2 [.i k]=some T.length):∀(q p:List (List G)),p.length+q.length≤100000 →
  aZ vA [.l L,.i own,.i off,.l R1,.l (M++[lM (gg sM p ([],0))]),.i (c1:Int),.l R2,.l (T++[lM (gg RZ p ([],0))]),.i (c2:Int),.i k,.l (p++q),.i ((p.length+q.length:Nat):Int),.i (p.length:Int)] (q.length+1) fun x g =>
   x=0∧g=[.l L,.i own,.i off,.l R1,.l (M++[dG (p++q)]),.i (c1:Int),.l R2,.l (T++[dH (p++q)]),.i (c2:Int)]
 | [],p,h=>by
  refine aZ.stop (x:=0) (aa.toEq ?_) ⟨rfl,rfl⟩;unfold vA
  (dsimp +instances only[Aa,Ab,Ac,Ad,Ae,Af,Ag])
  refine aa.n (aa.some ?_);rw[da];rfl
 | r::q,p,h=>by
  simp only[cD]at h;have u:=R_ (L:=L) (own:=own) (off:=off) (c1:=c1) (c2:=c2) h1 d q (p++[r]) (by simp; omega);have g1:(p++r::q).getD (p.length:Int).toNat []=r:=jZ _ _ _ _ _ (by simp);rw[a8]at g1;have hlen:(p++r::q).length=p.length+q.length+1:=by simp; omega
  have v:(p++[r])++q=p++r::q:=by simp
  have y:(((p++[r]).length+q.length:Nat):Int)=((p.length+(r::q).length:Nat):Int):=by simp; omega
  have B:(((p++[r]).length:Nat):Int)=(p.length:Int)+1:=by simp
  rw[v,y,B]at u;refine aZ.next (aa.toEq ?_) u
  unfold vA
  (dsimp +instances only[Aa,Ab,Ac,Ad,Ae,Af,Ag])
  simp only[g1,hlen,cD,a8,h1,d];refine aa.p (aa.p (aa.pos rfl (aa.pos (R4 _ _) (aa.pos rfl (aa.pos (R4 _ _) (aa.p (aa.some ?_)))))));rw[R3,R3,R0,R0];rfl
section
variable {L:List (List G)} {C:Nat→ByteArray} {A:Nat→List (List G)} (S:mH L C A) {own:Nat} (ho:own<L.length) (off:Int)
include S ho
theorem R'{k:Nat}(hk:k<L.length)(ks:List Nat):vB [G.l L,.i (own:Int),.i off,.l (bp 0 ks),.l (ks.map fun k=>dG (bA A C own off k)),.i ((ks.length:Nat):Int),.l (bp 0 ks),.l (ks.map fun k=>dH (bA A C own off k)),.i ((ks.length:Nat):Int),.i (k:Int)]=some [G.l L,.i (own:Int),.i off,.l (bp 0 (ja k ks)),.l ((ja k ks).map fun k=>dG (bA A C own off k)),.i (((ja k ks).length:Nat):Int),.l (bp 0 (ja k ks)),.l ((ja k ks).map fun k=>dH (bA A C own off k)),.i (((ja k ks).length:Nat):Int)]:=by
 refine aa.toEq ?_;unfold vB
 (dsimp +instances only[Aa,Ab,Ac,Ad,Ae,Af,Ag])
 simp only[Aq,agq,a8];unfold ja;cases h:fF k ks with
 |some n=>exact aa.pos rfl (aa.some rfl)
 | none =>
  have d:=agr k ks;have g:=ags k ks;unfold sL at d g;refine aa.pos rfl (aa.neg rfl (aa.pos rfl (aa.pos d (aa.pos rfl (aa.pos d (aa.p (aa.p ?_)))))));simp only[S.get own ho,S.get k hk];refine aa.cE (af_ (S.two ho hk) (C own) (C k) off) ?_
  (dsimp +instances only[Aa,Ab,Ac,Ad,Ae,Af,Ag])
  simp only[dO];rw[g];have hb:=agi (S.two ho hk) (C own) (C k) off;have v:=S.na own ho;have q:fv [.int .i64] (bp 0 (ks++[k])) [.i (k:Int)]=some ks.length:=by rw[Aq]; exact GW (GV.1 h)
  have u:=R_ (L:=L) (own:=(own:Int)) (off:=off) (k:=(k:Int)) (R1:=bp 0 (ks++[k])) (R2:=bp 0 (ks++[k])) (M:=ks.map fun k=>dG (bA A C own off k)) (T:=ks.map fun k=>dH (bA A C own off k)) (c1:=ks.length+1) (c2:=ks.length+1)
   (by rw[dO]; exact q) (by rw[dO]; exact q) (bA A C own off k) [] (by unfold bA; simp; omega)
  simp only[k0,lZ,cT]at u;refine aa.loop (u.to (by unfold bA; omega)) rfl ?_;rintro _ _ ⟨rfl,rfl⟩
  (dsimp +instances only[Aa,Ab,Ac,Ad,Ae,Af,Ag])
  refine aa.some ?_;simp only[a8,ke,dx,sY,fH,ail]
def vW(x y:List G):Bool:=(gi x 4).int==(gi y 5).int&&(gi x 6).str.toList==(gi y 7).str.toList
omit S ho in
theorem Sa(x y:List G):vC [.l [x],.l [y]]=some [.t (vW x y)]:=by
 refine aa.toEq ?_;unfold vC vW
 (dsimp +instances only[Aa,Ab,Ac,Ad,Ae,Af,Ag])
 refine aa.test (fun h=>aa.some ?_) fun h=>aa.some ?_<;>rw[h]<;>rfl
theorem Sb{k:Nat}(hk:k<L.length){t m s h:Int}{b c x y:ByteArray}(u:fR [.i t,.i m,.s b,.s c,.i s,.i h,.s x,.s y]){ks:List Nat}{n:Nat}(q:fF k ks=some n):∀(d i:Nat),i+d=(A k).length →
  aZ sr [G.l L,.i (own:Int),.i off,.l (bp 0 ks),.l (ks.map fun k=>dG (bA A C own off k)),.i ((ks.length:Nat):Int),.l (bp 0 ks),.l (ks.map fun k=>dH (bA A C own off k)),.i ((ks.length:Nat):Int),.i t,.i m,.s b,.s c,.i s,.i h,.s x,.s y,.i (k:Int),.l (A k),.i ((A k).length:Int),.i (i:Int)] (d+1) fun e g =>
   (e=0∧∃ v:Nat,v<(A k).length∧g=[G.l L,.i (own:Int),.i off,.l (bp 0 ks),.l (ks.map fun k=>dG (bA A C own off k)),.i ((ks.length:Nat):Int),.l (bp 0 ks),.l (ks.map fun k=>dH (bA A C own off k)),.i ((ks.length:Nat):Int),.i (v:Int)])∨e=1∧g=[G.l L,.i (own:Int),.i off,.l (bp 0 ks),.l (ks.map fun k=>dG (bA A C own off k)),.i ((ks.length:Nat):Int),.l (bp 0 ks),.l (ks.map fun k=>dH (bA A C own off k)),.i ((ks.length:Nat):Int)]
 | 0,i,hi=>by
  refine aZ.stop (x:=1) (aa.toEq ?_) (.inr ⟨rfl,rfl⟩);unfold sr
  (dsimp +instances only[Aa,Ab,Ac,Ad,Ae,Af,Ag])
  refine aa.n (aa.some ?_);simp only[a8]
 | d+1,i,hi=>by
  have N:=S.na k hk;have M:=Sb hk u q d (i+1) (by omega);obtain⟨B,O⟩:=S.mem (i:=k) (j:=i) hk (by omega);have step:aa (sr [G.l L,.i (own:Int),.i off,.l (bp 0 ks),.l (ks.map fun k=>dG (bA A C own off k)),.i ((ks.length:Nat):Int),.l (bp 0 ks),.l (ks.map fun k=>dH (bA A C own off k)),.i ((ks.length:Nat):Int),.i t,.i m,.s b,.s c,.i s,.i h,.s x,.s y,.i (k:Int),.l (A k),.i ((A k).length:Int),.i (i:Int)]) fun o =>
    o=(some 0,[G.l L,.i (own:Int),.i off,.l (bp 0 ks),.l (ks.map fun k=>dG (bA A C own off k)),.i ((ks.length:Nat):Int),.l (bp 0 ks),.l (ks.map fun k=>dH (bA A C own off k)),.i ((ks.length:Nat):Int),.i (i:Int)])∨o=(none,[G.l L,.i (own:Int),.i off,.l (bp 0 ks),.l (ks.map fun k=>dG (bA A C own off k)),.i ((ks.length:Nat):Int),.l (bp 0 ks),.l (ks.map fun k=>dH (bA A C own off k)),.i ((ks.length:Nat):Int),.i t,.i m,.s b,.s c,.i s,.i h,.s x,.s y,.i (k:Int),.l (A k),.i ((A k).length:Int),.i ((i:Int)+1)]):=by
   unfold sr
   (dsimp +instances only[Aa,Ab,Ac,Ad,Ae,Af,Ag])
   have I:=(Ap q).1;have J:kI (ks.map fun k=>dH (bA A C own off k)) (some n)=true:=by
    show ft n (ks.map fun k=>dH (bA A C own off k)).length=true
    rw[dO];simpa using I
   simp only[a8,Aq,q,B.1];refine aa.p (aa.p (aa.p ?_));have out:aa (bif aq ((i:Int)+1) then some ((none:Option Nat),[G.l L,.i (own:Int),.i off,.l (bp 0 ks),.l (ks.map fun k=>dG (bA A C own off k)),.i ((ks.length:Nat):Int),.l (bp 0 ks),.l (ks.map fun k=>dH (bA A C own off k)),.i ((ks.length:Nat):Int),.i t,.i m,.s b,.s c,.i s,.i h,.s x,.s y,.i (k:Int),.l (A k),.i ((A k).length:Int),.i ((i:Int)+1)]) else none) fun o =>
    o=(some 0,[G.l L,.i (own:Int),.i off,.l (bp 0 ks),.l (ks.map fun k=>dG (bA A C own off k)),.i ((ks.length:Nat):Int),.l (bp 0 ks),.l (ks.map fun k=>dH (bA A C own off k)),.i ((ks.length:Nat):Int),.i (i:Int)])∨o=(none,[G.l L,.i (own:Int),.i off,.l (bp 0 ks),.l (ks.map fun k=>dG (bA A C own off k)),.i ((ks.length:Nat):Int),.l (bp 0 ks),.l (ks.map fun k=>dH (bA A C own off k)),.i ((ks.length:Nat):Int),.i t,.i m,.s b,.s c,.i s,.i h,.s x,.s y,.i (k:Int),.l (A k),.i ((A k).length:Int),.i ((i:Int)+1)]):=aa.p (aa.some (.inr rfl))
   refine aa.test (fun _=>?_) fun _=>out;refine aa.cE (GA off u B) ?_;refine aa.test (fun _=>?_) fun _=>out;refine aa.pos rfl (aa.pos J (aa.test (fun _=>?_) fun _=>out));refine aa.cE (Sa _ _) ?_;exact aa.test (fun _=>aa.some (.inl rfl)) fun _=>out
  obtain⟨o,h,rfl|rfl⟩:=step
  ·exact aZ.stop h (.inl ⟨rfl,i,by omega,rfl⟩)
  ·exact aZ.next h M
theorem agz{k:Nat}(hk:k<L.length){t m s h:Int}{b c x y:ByteArray}(u:fR [.i t,.i m,.s b,.s c,.i s,.i h,.s x,.s y])(q:c.size≤100)(ks:List Nat) :
  aa (zJ [G.l L,.i (own:Int),.i off,.l (bp 0 ks),.l (ks.map fun k=>dG (bA A C own off k)),.i ((ks.length:Nat):Int),.l (bp 0 ks),.l (ks.map fun k=>dH (bA A C own off k)),.i ((ks.length:Nat):Int),.l [[.i t,.i m,.s b,.s c,.i s,.i h,.s x,.s y]],.i (k:Int)]) fun g=>∃(d:List Nat) (v:Int),g=[G.l L,.i (own:Int),.i off,.l (bp 0 d),.l (d.map fun k=>dG (bA A C own off k)),.i ((d.length:Nat):Int),.l (bp 0 d),.l (d.map fun k=>dH (bA A C own off k)),.i ((d.length:Nat):Int),.i v]∧(0≤v→v<((A k).length:Int)):=by
 have I:=S.na k hk;unfold zJ
 (dsimp +instances only[Aa,Ab,Ac,Ad,Ae,Af,Ag])
 simp only[a8,S.get k hk];refine aa.p ?_;refine aa.call (agw (S.cs k hk) q) ?_;rintro _ ⟨v,rfl⟩
 (dsimp +instances only[Aa,Ab,Ac,Ad,Ae,Af,Ag])
 refine aa.test (fun _=>aa.some ⟨ks,-1,rfl,fun h=>by omega⟩) fun _=>?_;refine aa.cE (R' S ho off hk ks) ?_
 (dsimp +instances only[Aa,Ab,Ac,Ad,Ae,Af,Ag])
 simp only[a8,S.get k hk];refine aa.p ?_;obtain⟨n,B⟩:=R9 k ks;refine aa.loop ((Sb S ho off hk u B (A k).length 0 (by omega)).to (by omega)) rfl ?_;rintro _ _ (⟨rfl,v,J,rfl⟩|⟨rfl,rfl⟩)
 ·(dsimp +instances only [Aa,Ab,Ac,Ad,Ae,Af,Ag])
  simp only[a8];exact aa.pos rfl (aa.some ⟨ja k ks,(v:Int),rfl,fun _=>by omega⟩)
 ·(dsimp +instances only [Aa,Ab,Ac,Ad,Ae,Af,Ag])
  simp only[a8];exact aa.neg rfl (aa.some ⟨ja k ks,-1,rfl,fun h=>by omega⟩)
def Ar(L:List (List G))(A:Nat→List (List G))(s v:Int):Prop:=0≤s→∃ k:Nat,s=(k:Int)∧k<L.length∧0≤v∧v<((A k).length:Int)
theorem Sc{t m s h:Int}{b c x y:ByteArray}(M:fR [.i t,.i m,.s b,.s c,.i s,.i h,.s x,.s y])(J:c.size≤100):∀(d i:Nat) (ks:List Nat) (u v:Int),i+d=L.length→Ar L A u v →
  aZ su [G.l L,.i (own:Int),.i off,.l (bp 0 ks),.l (ks.map fun k=>dG (bA A C own off k)),.i ((ks.length:Nat):Int),.l (bp 0 ks),.l (ks.map fun k=>dH (bA A C own off k)),.i ((ks.length:Nat):Int),.i t,.i m,.s b,.s c,.i s,.i h,.s x,.s y,.i u,.i v,.l L,.i (L.length:Int),.i (i:Int)] (d+1) fun e g =>
   (e=0∨e=1)∧∃(q:List Nat) (u v:Int),g=[G.l L,.i (own:Int),.i off,.l (bp 0 q),.l (q.map fun k=>dG (bA A C own off k)),.i ((q.length:Nat):Int),.l (bp 0 q),.l (q.map fun k=>dH (bA A C own off k)),.i ((q.length:Nat):Int),.i u,.i v]∧Ar L A u v
 | 0,i,ks,u,v,hi,B=>by
  refine aZ.stop (x:=1) (aa.toEq ?_) ⟨.inr rfl,ks,u,v,rfl,B⟩;unfold su
  (dsimp +instances only[Aa,Ab,Ac,Ad,Ae,Af,Ag])
  refine aa.n (aa.some ?_);simp only[a8]
 | d+1,i,ks,u,v,hi,B=>by
  have V:=S.n;have I:i<L.length:=by omega
  have step:aa (su [G.l L,.i (own:Int),.i off,.l (bp 0 ks),.l (ks.map fun k=>dG (bA A C own off k)),.i ((ks.length:Nat):Int),.l (bp 0 ks),.l (ks.map fun k=>dH (bA A C own off k)),.i ((ks.length:Nat):Int),.i t,.i m,.s b,.s c,.i s,.i h,.s x,.s y,.i u,.i v,.l L,.i (L.length:Int),.i (i:Int)]) fun o =>
    (∃ q:List Nat,o=(some 0,[G.l L,.i (own:Int),.i off,.l (bp 0 q),.l (q.map fun k=>dG (bA A C own off k)),.i ((q.length:Nat):Int),.l (bp 0 q),.l (q.map fun k=>dH (bA A C own off k)),.i ((q.length:Nat):Int),.i (-1),.i (-1)]))∨∃(q:List Nat) (u v:Int),o=(none,[G.l L,.i (own:Int),.i off,.l (bp 0 q),.l (q.map fun k=>dG (bA A C own off k)),.i ((q.length:Nat):Int),.l (bp 0 q),.l (q.map fun k=>dH (bA A C own off k)),.i ((q.length:Nat):Int),.i t,.i m,.s b,.s c,.i s,.i h,.s x,.s y,.i u,.i v,.l L,.i (L.length:Int),.i ((i:Int)+1)])∧Ar L A u v:=by
   unfold su
   (dsimp +instances only[Aa,Ab,Ac,Ad,Ae,Af,Ag])
   simp only[a8,S.get i I];refine aa.p (aa.p ?_);refine aa.test (fun _=>aa.p (aa.some (.inr ⟨ks,u,v,rfl,B⟩))) fun _=>?_;refine aa.test (fun _=>aa.p (aa.some (.inr ⟨ks,u,v,rfl,B⟩))) fun _=>?_;refine aa.call (agz S ho off I M J ks) ?_;rintro _ ⟨q,w,rfl,hw⟩
   (dsimp +instances only[Aa,Ab,Ac,Ad,Ae,Af,Ag])
   simp only[a8];refine aa.test (fun h0=>?_) fun _=>aa.p (aa.some (.inr ⟨q,u,v,rfl,B⟩));rw[fu,decide_eq_true_eq]at h0;refine aa.test (fun _=>aa.some (.inl ⟨q,rfl⟩)) fun _=>?_;exact aa.p (aa.some (.inr ⟨q,(i:Int),w,rfl,fun _=>⟨i,rfl,I,h0,hw h0⟩⟩))
  obtain⟨o,h,⟨q,rfl⟩|⟨q,O,U,rfl,N⟩⟩:=step
  ·exact aZ.stop h ⟨.inl rfl,q,-1,-1,rfl,fun h=>by omega⟩
  ·exact aZ.next h (Sc M J d (i+1) q O U (by omega) N)
theorem agA{t m s h:Int}{b c x y:ByteArray}(I:fR [.i t,.i m,.s b,.s c,.i s,.i h,.s x,.s y])(B:c.size≤100)(ks:List Nat) :
  aa (sv [G.l L,.i (own:Int),.i off,.l (bp 0 ks),.l (ks.map fun k=>dG (bA A C own off k)),.i ((ks.length:Nat):Int),.l (bp 0 ks),.l (ks.map fun k=>dH (bA A C own off k)),.i ((ks.length:Nat):Int),.l [[.i t,.i m,.s b,.s c,.i s,.i h,.s x,.s y]]]) fun g=>∃(d:List Nat) (u v:Int),g=[G.l L,.i (own:Int),.i off,.l (bp 0 d),.l (d.map fun k=>dG (bA A C own off k)),.i ((d.length:Nat):Int),.l (bp 0 d),.l (d.map fun k=>dH (bA A C own off k)),.i ((d.length:Nat):Int),.i u,.i v]∧Ar L A u v:=by
 have J:=S.n;unfold sv
 (dsimp +instances only[Aa,Ab,Ac,Ad,Ae,Af,Ag])
 simp only[a8];refine aa.loop ((Sc S ho off I B L.length 0 ks (-1) 0 (by omega) (fun h=>by omega)).to (by omega)) rfl ?_;rintro _ _ ⟨rfl|rfl,d,u,v,rfl,q⟩
 ·(dsimp +instances only [Aa,Ab,Ac,Ad,Ae,Af,Ag])
  simp only[a8];exact aa.pos rfl (aa.some ⟨d,u,v,rfl,q⟩)
 ·(dsimp +instances only [Aa,Ab,Ac,Ad,Ae,Af,Ag])
  simp only[a8];exact aa.neg rfl (aa.some ⟨d,u,v,rfl,q⟩)
end
theorem agB(f:Nat→List G){ks:List Nat}{n k:Nat}(h:fF k ks=some n):gx (ks.map f) (some n)=f k:=by
 obtain⟨h1,d⟩:=Ap h;show (ks.map f).getD n []=_
 rw[ct,ch];rw[ct]at d;rw[bL h1]at d⊢;simp only[k9]at d;simp only[eM,k9,d]
theorem agC(f:Nat→List G){ks:List Nat}{n k:Nat}(h:fF k ks=some n):kI (ks.map f) (some n)=true:=by
 obtain⟨h1,d⟩:=Ap h;show ft n (ks.map f).length=true
 rw[dO];simpa using h1
section
variable {L:List (List G)} {C:Nat→ByteArray} {A:Nat→List (List G)} (S:mH L C A)
include S
theorem mH.inj{i j:Nat}(hi:i<L.length)(g:j<L.length)(h:C i=C j):i=j:=by
 rcases S2 i j with d|d|d
 ·have := S.pY i j d g
  rw[pR.2 h]at this;omega
 ·exact d
 ·have := S.pY j i d hi
  rw[pR.2 h.symm]at this;omega
end
def G4(L:List (List G))(C:Nat→ByteArray)(A:Nat→List (List G))(own:Nat)(off:Int)(i:Nat):Prop :=
 ∃ k j:Nat,k<L.length∧C k=(gi ((A own).getD i []) 3).str∧[G.i (i:Int),.i (j:Int)]∈bA A C own off k
def G5(L:List (List G))(C:Nat→ByteArray)(A:Nat→List (List G))(own:Nat)(off:Int)(i:Nat)(row:List G):Prop :=
 ∃ (d:Int) (w:ByteArray) (v:Int),row=[.i (i:Int),.i d,.s w,.i v] ∧
  ((∃ k j : Nat, k < L.length ∧ j < (A k).length ∧ C k = (gi ((A own).getD i []) 3).str ∧ w = C k ∧ v = (j : Int) ∧ [G.i (i : Int), .i (j : Int)] ∈ bA A C own off k ∧
    ((d=1∧vW ((A k).getD j []) ((A own).getD i [])=true)∨(d=3∧vW ((A k).getD j []) ((A own).getD i [])=false))) ∨
   (¬ G4 L C A own off i∧((d=2∧∃ k:Nat,k<L.length∧w=C k∧0≤v∧v<((A k).length:Int))∨((d=4∨d=5)∧w=⟨#[]⟩∧v = -1))))
def G6(L:List (List G))(C:Nat→ByteArray)(A:Nat→List (List G))(own:Nat)(off:Int)(i:Nat)(row:List G):Prop :=
 row=[.i (i:Int),.i 6,.s ⟨#[]⟩,.i (-1)]∨G5 L C A own off i row
def kX(L:List (List G))(C:Nat→ByteArray)(A:Nat→List (List G))(own:Nat)(off:Int)(d:List (List G)):Prop :=
 ∀ j,j<d.length→G6 L C A own off j (d.getD j [])
section
variable {L:List (List G)} {C:Nat→ByteArray} {A:Nat→List (List G)} (S:mH L C A) {own:Nat} (ho:own<L.length) (off:Int)
include S ho
theorem agD{k:Nat}(hk:k<L.length)(i:Nat):(dT [.int .i64] (gg sM (bA A C own off k) ([],0)).1 [.i (i:Int)]=true→∃ j:Nat,j<(A k).length∧[G.i (i:Int),.i (j:Int)]∈bA A C own off k∧aB [.int .i64] (gg sM (bA A C own off k) ([],0)).1 [.i (i:Int)] [.i 0]=[.i (j:Int)]) ∧
  (dT [.int .i64] (gg sM (bA A C own off k) ([],0)).1 [.i (i:Int)]=false→∀ j:Nat,[G.i (i:Int),.i (j:Int)]∉bA A C own off k):=by
 have q:∀ r∈bA A C own off k,∃ a b:Nat,r=[.i (a:Int),.i (b:Int)]∧b<(A k).length:=fun r u=>by
  obtain⟨a,b,h1,_,d,_⟩:=vT (S.two ho hk) u;exact⟨a,b,h1,d⟩
 rw[R5,LD,HG];constructor
 ·intro h
  rcases R6 sM [.i (i:Int)] [.i 0] (bA A C own off k) ([],0)with⟨r,h1,d,g⟩|⟨h1,_⟩
  ·obtain ⟨a, b, rfl, hb⟩ := q r h1
   have d:ba [.int .i64] [.i (i:Int)] [.i (a:Int)]=true:=d;rw[GX,decide_eq_true_eq]at d;have:i=a:=by omega
   subst this;exact⟨b,hb,h1,g⟩
  ·obtain ⟨r, d, g⟩ := jF.1 h
   rw[h1 r d]at g;cases g
 ·intro h j v
  have:=List.any_eq_false.1 h _ v;apply this;show ba [.int .i64] [.i (i:Int)] [.i (i:Int)]=true
  rw[GX];simp
theorem agE{i:Nat}(hi:i<(A own).length)(ks:List Nat):aa (zK [G.l L,.i (own:Int),.i off,.l (bp 0 ks),.l (ks.map fun k=>dG (bA A C own off k)),.i ((ks.length:Nat):Int),.l (bp 0 ks),.l (ks.map fun k=>dH (bA A C own off k)),.i ((ks.length:Nat):Int),.i (i:Int)]) fun g=>∃(d:List Nat) (row:List G),g=[G.l L,.i (own:Int),.i off,.l (bp 0 d),.l (d.map fun k=>dG (bA A C own off k)),.i ((d.length:Nat):Int),.l (bp 0 d),.l (d.map fun k=>dH (bA A C own off k)),.i ((d.length:Nat):Int),.l [row]]∧G5 L C A own off i row:=by
 obtain⟨J,U⟩:=S.mem ho hi;have hna:=S.na own ho;have B:=S.n;have V:fR (aF [.int .i64,.int .i64,.str,.str,.int .i64,.int .i64,.str,.str] ((A own).getD i [])):=by rw[J.1]; exact J
 unfold zK
 (dsimp +instances only[Aa,Ab,Ac,Ad,Ae,Af,Ag])
 simp only[a8,S.get own ho]
 (dsimp +instances only[Aa,Ab,Ac,Ad,Ae,Af,Ag])
 refine aa.p (aa.p ?_);refine aa.call (G3 S _) ?_;rintro _ ⟨p,b,rfl,hT,hF⟩
 (dsimp +instances only[Aa,Ab,Ac,Ad,Ae,Af,Ag])
 have last:∀(ks:List Nat) (b:Bool),¬ G4 L C A own off i→aa (aA (sv [G.l L,.i (own:Int),.i off,.l (bp 0 ks),.l (ks.map fun k=>dG (bA A C own off k)),.i ((ks.length:Nat):Int),.l (bp 0 ks),.l (ks.map fun k=>dH (bA A C own off k)),.i ((ks.length:Nat):Int),.l [aF [.int .i64,.int .i64,.str,.str,.int .i64,.int .i64,.str,.str] ((A own).getD i [])]]) fun g=>(bif a_ 0 (gi g 9).int then (bif (aw (gi g 9).int)&&(ai (gi g 9).int (((gi g 0).rows.length:Nat):Int)) then some [.l (gi g 0).rows,.i (gi g 1).int,.i (gi g 2).int,.l (gi g 3).rows,.l (gi g 4).rows,.i (((gi g 5).int.toNat:Nat):Int),.l (gi g 6).rows,.l (gi g 7).rows,.i (((gi g 8).int.toNat:Nat):Int),.l [[.i (i:Int),.i 2,.s (gi ((gi g 0).rows.getD ((gi g 9).int.toNat) []) 0).str,.i (gi g 10).int]]] else none) else (bif b then some [.l (gi g 0).rows,.i (gi g 1).int,.i (gi g 2).int,.l (gi g 3).rows,.l (gi g 4).rows,.i (((gi g 5).int.toNat:Nat):Int),.l (gi g 6).rows,.l (gi g 7).rows,.i (((gi g 8).int.toNat:Nat):Int),.l [[.i (i:Int),.i 4,.s ⟨#[]⟩,.i (-1)]]] else some [.l (gi g 0).rows,.i (gi g 1).int,.i (gi g 2).int,.l (gi g 3).rows,.l (gi g 4).rows,.i (((gi g 5).int.toNat:Nat):Int),.l (gi g 6).rows,.l (gi g 7).rows,.i (((gi g 8).int.toNat:Nat):Int),.l [[.i (i:Int),.i 5,.s ⟨#[]⟩,.i (-1)]]])))
   fun g=>∃(d:List Nat) (row:List G),g=[G.l L,.i (own:Int),.i off,.l (bp 0 d),.l (d.map fun k=>dG (bA A C own off k)),.i ((d.length:Nat):Int),.l (bp 0 d),.l (d.map fun k=>dH (bA A C own off k)),.i ((d.length:Nat):Int),.l [row]]∧G5 L C A own off i row:=fun ks b q=>by
  refine aa.call (agA S ho off V U ks) ?_;rintro _ ⟨d,u,v,rfl,hm⟩
  (dsimp +instances only[Aa,Ab,Ac,Ad,Ae,Af,Ag])
  simp only[a8];refine aa.test (fun h0=>?_) fun _=>?_
  ·rw [fu, decide_eq_true_eq] at h0
   obtain⟨k,rfl,hk,W,hv1⟩:=hm h0;simp only[a8,S.get k hk];refine aa.p (aa.some ⟨d,_,rfl,2,C k,v,rfl,.inr ⟨q,.inl ⟨rfl,k,hk,rfl,W,hv1⟩⟩⟩)
  ·refine aa.test (fun _=>aa.some ⟨d,_,rfl,4,⟨#[]⟩,-1,rfl,.inr ⟨q,.inr ⟨.inl rfl,rfl,rfl⟩⟩⟩) fun _=>aa.some ⟨d,_,rfl,5,⟨#[]⟩,-1,rfl,.inr ⟨q,.inr ⟨.inr rfl,rfl,rfl⟩⟩⟩
 refine aa.test (fun hb=>?_) fun hb=>?_
 ·obtain ⟨h, y⟩ := hT hb
  refine aa.cE (R' S ho off h ks) ?_
  (dsimp +instances only[Aa,Ab,Ac,Ad,Ae,Af,Ag])
  obtain⟨n,B⟩:=R9 p ks;simp only[a8,Aq,B,agB (fun k=>dG (bA A C own off k)) B];refine aa.pos rfl (aa.pos (agC _ B) ?_);obtain⟨j1,j2⟩:=agD S ho off h i;refine aa.test (fun hm=>?_) fun hm=>?_
  ·obtain ⟨j, q, N, hjg⟩ := j1 hm
   have hnk:=S.na p h;have hg:aB [.int .i64] (gi (dG (bA A C own off p)) 0).rows [.i (i:Int)] [.i 0]=[.i (j:Int)]:=hjg;simp only[hg]
   (dsimp +instances only[Aa,Ab,Ac,Ad,Ae,Af,Ag])
   simp only[a8,S.get own ho,S.get p h]
   (dsimp +instances only[Aa,Ab,Ac,Ad,Ae,Af,Ag])
   obtain⟨hy,hys⟩:=S.mem h q;simp only[J.1,hy.1];refine aa.p (aa.p ?_);refine aa.cE (Sa _ _) ?_
   (dsimp +instances only[Aa,Ab,Ac,Ad,Ae,Af,Ag])
   refine aa.test (fun M=>?_) fun M=>?_
   ·exact aa.some ⟨ja p ks,_,rfl,1,_,(j:Int),rfl,.inl ⟨p,j,h,q,y,y.symm,rfl,N,.inl ⟨rfl,M⟩⟩⟩
   ·exact aa.some ⟨ja p ks,_,rfl,3,_,(j:Int),rfl,.inl ⟨p,j,h,q,y,y.symm,rfl,N,.inr ⟨rfl,M⟩⟩⟩
  ·refine last (ja p ks) b ?_
   rintro⟨k,j,hk,I,O⟩;have:=S.inj hk h (I.trans y.symm);subst this;exact j2 hm j O
 ·refine last ks b ?_
  rintro⟨k,j,hk,I,O⟩;exact hF hb k hk I
theorem Sd{len:Nat}(hlen:len=(A own).length):∀(d i:Nat) (ks:List Nat) (seen:List (List G)) (clk:Nat) (out:List (List G)),i+d=len→out.length=i→kX L C A own off out →
  aZ sw [G.l L,.i (own:Int),.i off,.l (bp 0 ks),.l (ks.map fun k=>dG (bA A C own off k)),.i ((ks.length:Nat):Int),.l (bp 0 ks),.l (ks.map fun k=>dH (bA A C own off k)),.i ((ks.length:Nat):Int),.l seen,.i (clk:Int),.l out,.l (A own),.i (len:Int),.i (i:Int)] (d+1) fun e g =>
   e=0∧∃(q:List Nat) (out:List (List G)),g=[G.l L,.i (own:Int),.i off,.l (bp 0 q),.l (q.map fun k=>dG (bA A C own off k)),.i ((q.length:Nat):Int),.l (bp 0 q),.l (q.map fun k=>dH (bA A C own off k)),.i ((q.length:Nat):Int),.l out]∧out.length=len∧kX L C A own off out
 | 0,i,ks,seen,clk,out,hi,M,I=>by
  refine aZ.stop (x:=0) (aa.toEq ?_) ⟨rfl,ks,out,rfl,by omega,I⟩;unfold sw
  (dsimp +instances only[Aa,Ab,Ac,Ad,Ae,Af,Ag])
  refine aa.n (aa.p (aa.some ?_));simp only[a8]
 | d+1,i,ks,seen,clk,out,hi,M,I=>by
  have O:=S.na own ho;have add:∀ row,G6 L C A own off i row→kX L C A own off (out++[row]):=fun row u j N=>by
   rw[fH,ail]at N;by_cases e:j=i
   ·subst e
    rw[ct,List.getElem?_append_right (by omega),show j-out.length=0 by omega];exact u
   ·have := I j (by omega)
    rw[ct]at this⊢;rw[List.getElem?_append_left (by omega)];exact this
  have step:aa (sw [G.l L,.i (own:Int),.i off,.l (bp 0 ks),.l (ks.map fun k=>dG (bA A C own off k)),.i ((ks.length:Nat):Int),.l (bp 0 ks),.l (ks.map fun k=>dH (bA A C own off k)),.i ((ks.length:Nat):Int),.l seen,.i (clk:Int),.l out,.l (A own),.i (len:Int),.i (i:Int)]) fun o =>
    ∃(q:List Nat) (y:List (List G)) (B:Nat) (row:List G),o=(none,[G.l L,.i (own:Int),.i off,.l (bp 0 q),.l (q.map fun k=>dG (bA A C own off k)),.i ((q.length:Nat):Int),.l (bp 0 q),.l (q.map fun k=>dH (bA A C own off k)),.i ((q.length:Nat):Int),.l y,.i (B:Int),.l (out++[row]),.l (A own),.i (len:Int),.i ((i:Int)+1)])∧G6 L C A own off i row:=by
   unfold sw
   (dsimp +instances only[Aa,Ab,Ac,Ad,Ae,Af,Ag])
   simp only[a8];refine aa.p (aa.p ?_);refine aa.test (fun _=>?_) fun _=>?_
   ·exact aa.p (aa.p (aa.p (aa.some ⟨ks,_,_,_,rfl,.inl rfl⟩)))
   ·refine aa.call (agE S ho off (by omega) ks) ?_
    rintro _ ⟨q,row,rfl,u⟩;have J:aF d_ row=row:=by
     obtain⟨U,w,v,rfl,_⟩:=u;rfl
    (dsimp +instances only[Aa,Ab,Ac,Ad,Ae,Af,Ag])
    simp only[a8,J];refine aa.test (fun _=>?_) fun _=>?_
    ·exact aa.p (aa.p (aa.p (aa.some ⟨q,_,_,row,rfl,.inr u⟩)))
    ·exact aa.p (aa.p (aa.p (aa.some ⟨q,_,_,row,rfl,.inr u⟩)))
  obtain⟨o,h,q,y,B,row,rfl,u⟩:=step;exact aZ.next h (Sd hlen d (i+1) q y B (out++[row]) (by omega) (by simp; omega) (add row u))
theorem agF:aa (zL [.l L,.i (own:Int),.i off,.l [],.i 0,.l [],.i 0]) fun g=>∃ out,g=[.l [],.l [],.l [],.l out]∧out.length=(A own).length∧kX L C A own off out:=by
 have q:=S.na own ho;have v:=S.n;unfold zL
 (dsimp +instances only[Aa,Ab,Ac,Ad,Ae,Af,Ag])
 simp only[a8,S.get own ho]
 (dsimp +instances only[Aa,Ab,Ac,Ad,Ae,Af,Ag])
 refine aa.pos rfl (aa.p ?_);have d:=Sd S ho off (len:=(A own).length) rfl (A own).length 0 [] [] 0 [] (by omega) rfl (fun j h=>by cases h);refine aa.loop (d.to (by omega)) rfl ?_;rintro _ _ ⟨rfl,u,out,rfl,h1,k⟩
 (dsimp +instances only[Aa,Ab,Ac,Ad,Ae,Af,Ag])
 exact aa.p (aa.some ⟨out,rfl,h1,k⟩)
omit ho in
theorem agG(h0:0≤off)(h1:off≤300)(h:pM [.l L]=some [.i 0])(s:ByteArray):aa (pP [.l L,.s s,.i off]) fun g =>
  (∃ own out,own<L.length∧C own=s∧g=[.l out,.i (own:Int),.i 0]∧out.length=(A own).length∧kX L C A own off out)∨(∀ k,k<L.length→C k≠s)∧g=[.l [],.i 0,.i 8]:=by
 unfold pP
 (dsimp +instances only[Aa,Ab,Ac,Ad,Ae,Af,Ag])
 refine aa.cE h ?_;refine aa.neg rfl ?_;refine aa.call (P:=fun g=>g=[.i 0]) ?_ ?_
 ·unfold E8
  (dsimp +instances only[Aa,Ab,Ac,Ad,Ae,Af,Ag])
  refine aa.cE (vN off 0 3600000) ?_;refine aa.neg ?_ (aa.some rfl);show (!(a_ 0 off&&a_ off 3600000))=false
  rw[fu,fu,decide_eq_true h0,decide_eq_true (by omega:off≤3600000)];rfl
 rintro _ rfl;refine aa.neg rfl ?_;refine aa.call (G3 S s) ?_;rintro _ ⟨p,b,rfl,u,v⟩
 (dsimp +instances only[Aa,Ab,Ac,Ad,Ae,Af,Ag])
 refine aa.test (fun hb=>aa.some (.inr ⟨v (by simpa using hb),rfl⟩)) fun hb=>?_;obtain⟨d,q⟩:=u (by simpa using hb);refine aa.call (P:=fun g=>g=[.l L,.i (p:Int),.i off,.l [],.i 0,.l [],.i 0]) (aa.eq rfl) ?_;rintro _ rfl
 (dsimp +instances only[Aa,Ab,Ac,Ad,Ae,Af,Ag])
 refine aa.call (agF S d off) ?_;rintro _ ⟨out,rfl,y,B⟩;exact aa.some (.inl ⟨p,out,d,q,rfl,y,B⟩)
theorem G7(h0:0≤off)(h1:off≤300)(h:pM [.l L]=some [.i 0]):aa (pP [.l L,.s (C own),.i off]) fun g =>
  ∃ out,g=[.l out,.i (own:Int),.i 0]∧out.length=(A own).length∧kX L C A own off out:=by
 refine(agG S off h0 h1 h (C own)).mono ?_;rintro _ (⟨p,out,q,k,rfl,d,u⟩|⟨d,_⟩)
 ·have := S.inj q ho k
  subst this;exact⟨out,rfl,d,u⟩
 ·exact absurd rfl (d own ho)
theorem Se(h0:0≤off)(h1:off≤300)(d:pM [.l L]=some [.i 0]):aa (vD [.l L,.s (C own),.i off]) fun g =>
  ∃ out,g=[.l out,.i 0]∧out.length=(A own).length∧kX L C A own off out:=by
 unfold vD
 (dsimp +instances only[Aa,Ab,Ac,Ad,Ae,Af,Ag])
 refine aa.call (G7 S ho off h0 h1 d) ?_;rintro _ ⟨out,rfl,h,k⟩;exact aa.some ⟨out,rfl,h,k⟩
end
theorem vX{r:List G}:fQ r=0↔eb (gi r 0).int 0 345686399999=true∧eb (gi r 1).int 1 3=true∧kQ (gi r 2).str=true∧jA (gi r 3).str=true∧eb (gi r 4).int 0 99999=true∧eb (gi r 5).int 0 99999=true ∧
  j5 (gi r 6).str=true∧j5 (gi r 7).str=true:=by
 unfold fQ;generalize eb (gi r 0).int 0 345686399999=b1;generalize eb (gi r 1).int 1 3=d;generalize kQ (gi r 2).str=g;generalize jA (gi r 3).str=h;generalize eb (gi r 4).int 0 99999=k;generalize eb (gi r 5).int 0 99999=q;generalize j5 (gi r 6).str=u;generalize j5 (gi r 7).str=v;cases b1<;>cases d<;>cases g<;>cases h<;>cases k<;>cases q<;>cases u<;>cases v<;>simp
theorem Sf:∀{l:List (List G)} {o:Option (List G)},eA o l=0→∀ x∈l,fQ x=0
 | [],_,_,_,h=>by cases h
 | y::q,o,h,x,d=>by
  have key:fQ y=0∧eA (some y) q=0:=by
   cases o with
   | none =>
    simp only[eA]at h;split at h
    ·contradiction
    ·rename_i h1
     exact⟨by simpa using h1,h⟩
   | some z =>
    simp only[eA]at h;split at h
    ·contradiction
    ·rename_i h1
     split at h
     ·cases h
     ·exact⟨by simpa using h1,h⟩
  rcases bY.1 d with rfl|d
  ·exact key.1
  ·exact Sf key.2 x d
theorem agH{l:List (List G)}(h:gN l=0):∀ x∈l,fQ x=0:=by
 unfold gN at h;split at h
 ·cases h
 ·exact Sf h
theorem Sg{c:ByteArray}{L:List (List G)}(h:kW c L=0):jA c=true∧j8 c L=false:=by
 unfold kW at h;cases h1:jA c with
 |false=>rw[h1]at h; cases h
 | true =>
  rw[h1]at h;cases d:gN L != 0 with
  | true =>
   rw[d]at h;simp only[Hx,cond_false,cond_true]at h;rw[h]at d;cases d
  | false =>
   rw[d]at h;cases g:j8 c L with
   |true=>rw[g]at h; cases h
   |false=>exact⟨rfl,rfl⟩
structure pZ (L:List (List G)) (C:Nat→ByteArray) (A:Nat→List (List G)):Prop where
 get:∀ i,i<L.length→L.getD i []=[.s (C i),.l (A i)]
 n:L.length≤4
 pX:∀ i,i<L.length→∀ z∈A i,dn z
 na:∀ i,i<L.length→(A i).length≤14
 call:∀ i,i<L.length→C i∈calls
 pY:∀ i j,i<j→j<L.length→dL (C i) (C j)<0
 less:∀ i,0<i→i<L.length→(lO (C i).toList (C (i-1)).toList||((C i).toList==(C (i-1)).toList))=false
 fault:∀ i,i<L.length→kW (C i) (A i)=0
theorem Si{c:ByteArray}(h:c∈calls):c.size≤100:=by
 have d:calls.all (fun c=>dA c.size 100)=true:=by kernel_rfl
 simpa using cQ.1 d c h
section
variable {L:List (List G)} {C:Nat→ByteArray} {A:Nat→List (List G)} (R:pZ L C A)
include R
theorem pZ.Sj{i:Nat}(hi:i<L.length):∀ z∈A i,dn z∧fQ z=0:=fun z d=>⟨R.pX i hi z d,agH (Ao (R.fault i hi)) z d⟩
theorem pZ.om:mH L C A:=by
 refine⟨R.get,R.n,fun i hi z g=>?_,R.na,fun i hi=>Si (R.call i hi),R.pY⟩;obtain⟨h1,k⟩:=R.Sj hi z g;have d:=(vX.1 k).1;unfold eb at d;simp only[fu,az,decide_eq_true_eq]at d;refine⟨⟨h1.eta,?_,?_⟩,?_⟩
 ·unfold c7; omega
 ·unfold c7; omega
 ·obtain ⟨t, m, b, c, s, h, x, y, rfl, _, _, _, _, _, q, _⟩ := h1
  exact Si q
theorem agI{i:Nat}(hi:i<L.length):zw [.l [[.i (i:Int)]],.l [[.s (C i),.l (A i)]],.l [[.l L]]]=some [.i 0]:=by
 have k:=R.n;refine aa.toEq ?_;unfold zw
 (dsimp +instances only[Aa,Ab,Ac,Ad,Ae,Af,Ag])
 refine aa.test (fun h=>?_) fun _=>aa.some rfl;rw[dS,decide_eq_true_eq]at h;have e:((i:Int)-1).toNat=i-1:=by omega
 have d:=R.less i (by omega) hi;have g:=R.get (i-1) (by omega);simp only[e,g]
 (dsimp +instances only[Aa,Ab,Ac,Ad,Ae,Af,Ag])
 refine aa.p (aa.p (aa.neg ?_ (aa.some rfl)));exact d
theorem agJ{i:Nat}(hi:i<L.length):zy [.l [[.s (C i),.l (A i)]],.l [[.i (i:Int)]],.l [[.s (C i),.l (A i)]],.l [[.l L]]]=some [.i 0]:=by
 have d:=R.fault i hi;obtain⟨h1,g⟩:=Sg d;have h:=Ao d;have k:=R.na i hi;refine aa.toEq ?_;unfold zy
 (dsimp +instances only[Aa,Ab,Ac,Ad,Ae,Af,Ag])
 refine aa.cE (Q0 (R.call i hi)) ?_
 (dsimp +instances only[Aa,Ab,Ac,Ad,Ae,Af,Ag])
 refine aa.neg (by rw[h1]; rfl) ?_;refine aa.cE (agI R hi) ?_;refine aa.neg rfl ?_;refine aa.cE (afL (A i) (R.pX i hi) (by omega)) ?_
 (dsimp +instances only[Aa,Ab,Ac,Ad,Ae,Af,Ag])
 rw[h];refine aa.neg rfl ?_;refine aa.call (aa.eq (RQ (C:=zx) (c:=C i) (A:=A i) (fun z q=>by
  refine aa.toEq ?_;unfold zx
  (dsimp +instances only[Aa,Ab,Ac,Ad,Ae,Af,Ag])
  exact aa.some rfl) (A i) (R.pX i hi) (by omega))) ?_
 rintro _ rfl
 (dsimp +instances only[Aa,Ab,Ac,Ad,Ae,Af,Ag])
 exact aa.neg g (aa.some rfl)
theorem Sk:∀(k i:Nat),i+k=L.length→aZ vn [.l L,.l L,.i (L.length:Int),.i (i:Int)] (k+1) fun x _=>x=1
 | 0,i,hi=>by
  refine aZ.stop (x:=1) (d':=[]) (aa.toEq ?_) rfl;unfold vn
  (dsimp +instances only[Aa,Ab,Ac,Ad,Ae,Af,Ag])
  exact aa.n (aa.some rfl)
 | k+1,i,hi=>by
  have d:=R.n;refine aZ.next (d1:=[.l L,.l L,.i (L.length:Int),.i ((i:Int)+1)]) (aa.toEq ?_) (Sk k (i+1) (by omega))
  unfold vn
  (dsimp +instances only[Aa,Ab,Ac,Ad,Ae,Af,Ag])
  simp only[a8,R.get i (by omega:i<L.length)];refine aa.p (aa.p ?_);refine aa.cE (agJ R (i:=i) (by omega)) ?_;exact aa.neg rfl (aa.p (aa.some rfl))
theorem As:pM [.l L]=some [.i 0]:=by
 have d:=R.n;refine aa.toEq ?_;unfold pM
 (dsimp +instances only[Aa,Ab,Ac,Ad,Ae,Af,Ag])
 refine aa.n ?_;refine aa.loop ((Sk R L.length 0 (by omega)).to (by omega)) rfl ?_;rintro x g rfl;exact aa.neg rfl (aa.some rfl)
end
/-! ### g order of d -/
theorem Au(r s:List G):bS r s=iX (fC (gi r 0).int (gi s 0).int) (iX (dL (gi r 3).str (gi s 3).str) (iX (dL (gi r 2).str (gi s 2).str) (fC (gi r 1).int (gi s 1).int))):=rfl
theorem j9(r s:List G):bS s r = - bS r s:=by
 rw[Au,Au];exact Gr (n4.flip _ _) (Gr (n5.flip _ _) (Gr (n5.flip _ _) (n4.flip _ _)))
theorem vY(a b d:List G)(h1:bS a b≤0)(g:bS b d≤0):bS a d≤0:=by
 rw[Au]at *;exact Gp n4 _ _ _ _ _ _ h1 g fun g1 g2=>Gp n5 _ _ _ _ _ _ g1 g2 fun h k=>Gp n5 _ _ _ _ _ _ h k fun m1 m2=>n4.le _ _ _ m1 m2
theorem agK(a b d:List G)(h1:bS a b<0)(g:bS b d<0):bS a d<0:=by
 rw[Au]at *;exact Gq n4 _ _ _ _ _ _ h1 g fun g1 g2=>Gq n5 _ _ _ _ _ _ g1 g2 fun h k=>Gq n5 _ _ _ _ _ _ h k fun m1 m2=>n4.tr _ _ _ m1 m2
theorem agL:eS (bF bS) (fun _=>True):=Q8 (fun a b=>j9 a b) vY
theorem G8:∀(q:List (List G)) (y z:List G),bS z y≤0→0≤bS z y→(y::q).Pairwise (fun a b=>bS a b≤0)→(z::cX iW y q).Pairwise (fun a b=>bS a b<0)
 | [],y,z,_,_,_=>by simp[cX]
 | x::q,y,z,h1,O,u=>by
  obtain⟨v,d⟩:=k_.1 u;obtain⟨U,I⟩:=k_.1 d;have g:=v x cY;have V:=j9 x y;show (z::(bif iW x y then cX iW x q else x::cX iW x q)).Pairwise _
  cases e:iW x y with
  | true =>
   unfold iW at e;rw[beq_iff_eq]at e;have J:=j9 z y;have M:=j9 x z;have B:bS z x≤0:=vY _ _ _ h1 g;have a2:bS x z≤0:=vY x y z (by omega) (by omega);have a3:=j9 x z;exact G8 q x z B (by omega) d
  | false =>
   unfold iW at e;have W:bS x y≠0:=by simpa using e
   have N:bS y x<0:=by omega
   have k:=G8 q x x (by have:=j9 x x; omega) (by have:=j9 x x; omega) d;have h:bS z x<0:=by
    have b1:bS z x≤0:=vY _ _ _ h1 g;have b2:bS z x≠0:=fun e3=>by
     have b3:=j9 z x;have b4:=j9 z y;have:bS x y≤0:=vY x z y (by omega) h1;omega
    omega
   refine k_.2 ⟨fun w hw=>?_,k⟩;rcases bY.1 hw with rfl|hw
   ·exact h
   ·exact agK _ _ _ h ((k_.1 k).1 w hw)
theorem agM{l:List (List G)}(h:l.Pairwise fun a b=>bS a b≤0):(fb iW l).Pairwise fun a b=>bS a b<0:=by
 cases l with
 |nil=>exact List.Pairwise.nil
 |cons x q=>exact G8 q x x (by have:=j9 x x; omega) (by have:=j9 x x; omega) h
theorem Sl:∀{l:List (List G)} {y:List G},(∀ x∈l,fQ x=0)→(y::l).Pairwise (fun a b=>bS a b<0)→eA (some y) l=0
 | [],_,_,_=>rfl
 | x::q,y,h0,h=>by
  obtain⟨h1,d⟩:=k_.1 h;have k:=h1 x cY;simp only[eA];rw[if_neg (by simpa using h0 x cY),if_neg (by omega)];exact Sl (fun z g=>h0 z (di _ g)) d
theorem agN{l:List (List G)}(h0:∀ x∈l,fQ x=0)(h:l.Pairwise (fun a b=>bS a b<0))(g:l.length≤2000):gN l=0:=by
 unfold gN;rw[if_neg (by omega)];cases l with
 |nil=>rfl
 | cons x q =>
  simp only[eA];rw[if_neg (by simpa using h0 x cY)];exact Sl (fun z d=>h0 z (di _ d)) h
def Good(z:List G):Prop:=dn z∧fQ z=0
theorem Sm{L:List (List G)}{C:Nat→ByteArray}{A:Nat→List (List G)}{own:Nat}{off:Int}{g:List (List G)}(u:kX L C A own off g){j:Nat}(y:j<g.length) :
  ∃(d:Int) (w:ByteArray) (v:Int),g.getD j []=[.i (j:Int),.i d,.s w,.i v]∧(d=2→∃ k:Nat,k<L.length∧w=C k)∧(d=3→∃ k i:Nat,k<L.length∧i<(A k).length∧w=C k∧v=(i:Int)):=by
 rcases u j y with h|⟨d,w,v,h,⟨k,i,h1,q,J,B,I,M,N⟩|⟨_,⟨rfl,k,h1,q,_⟩|⟨h1,rfl,rfl⟩⟩⟩
 ·exact⟨6,_,_,h,fun e=>(by omega),fun e=>(by omega)⟩
 ·exact⟨d,w,v,h,fun e=>(by omega),fun _=>⟨k,i,h1,q,B,I⟩⟩
 ·exact⟨2,w,v,h,fun _=>⟨k,h1,q⟩,fun e=>(by omega)⟩
 ·exact⟨d,_,_,h,fun e=>(by omega),fun e=>(by omega)⟩
section
variable {L:List (List G)} {C:Nat→ByteArray} {A:Nat→List (List G)} (R:pZ L C A) {own:Nat} (ho:own<L.length) (off:Int)
include R ho
theorem pZ.row{j:Nat}(d:j<(A own).length):Good ((A own).getD j []) :=
 R.Sj ho _ (by rw[ct,bL d]; exact mT d)
theorem Sn{k:List (List G)}(N:k.length=(A own).length)(y:kX L C A own off k):∀(d i:Nat) (out:List (List G)),i+d=k.length→out.length≤i→(∀ z∈out,Good z) →
  aZ sx [.l out,.l L,.i (own:Int),.l k,.i (k.length:Int),.i (i:Int)] (d+1) fun x g=>x=0∧∃ v,g=[.l v]∧v.length≤k.length∧∀ z∈v,Good z
 | 0,i,out,hi,J,u=>by
  refine aZ.stop (x:=0) (aa.toEq ?_) ⟨rfl,out,rfl,by omega,u⟩;unfold sx
  (dsimp +instances only[Aa,Ab,Ac,Ad,Ae,Af,Ag])
  exact aa.n (aa.p (aa.some rfl))
 | d+1,i,out,hi,J,u=>by
  have U:=R.na own ho;obtain⟨V,w,v,O,_,_⟩:=Sm y (j:=i) (by omega);have B:=R.row ho (j:=i) (by omega);have step:aa (sx [.l out,.l L,.i (own:Int),.l k,.i (k.length:Int),.i (i:Int)]) fun o=>∃ q,o=(none,[.l q,.l L,.i (own:Int),.l k,.i (k.length:Int),.i ((i:Int)+1)])∧(q=out∨q=out++[(A own).getD i []]):=by
   unfold sx
   (dsimp +instances only[Aa,Ab,Ac,Ad,Ae,Af,Ag])
   simp only[a8,O,R.get own ho]
   (dsimp +instances only[Aa,Ab,Ac,Ad,Ae,Af,Ag])
   simp only[a8,B.1.eta];refine aa.p (aa.p ?_);refine aa.test (fun _=>?_) fun _=>aa.test (fun _=>?_) fun _=>?_
   ·exact aa.p (aa.p (aa.p (aa.p (aa.p (aa.some ⟨_,rfl,.inr rfl⟩)))))
   ·exact aa.p (aa.p (aa.p (aa.p (aa.p (aa.some ⟨_,rfl,.inr rfl⟩)))))
   ·exact aa.p (aa.p (aa.some ⟨_,rfl,.inl rfl⟩))
  obtain⟨o,h,q,rfl,I⟩:=step;refine aZ.next h (Sn N y d (i+1) q (by omega) ?_ ?_)
  ·rcases I with rfl | rfl
   ·omega
   ·simp; omega
  ·rcases I with rfl | rfl
   ·exact u
   ·intro z M
    rcases cU.1 M with h|h
    ·exact u z h
    ·rw [wy.1 h]
     exact B
theorem agO(h0:0≤off)(h1:off≤300):aa (zM [.l L,.s (C own),.i off]) fun g=>∃ v,g=[.l v,.i 0]∧v.length≤(A own).length∧∀ z∈v,Good z:=by
 have y:=R.na own ho;unfold zM
 (dsimp +instances only[Aa,Ab,Ac,Ad,Ae,Af,Ag])
 refine aa.call (G7 R.om ho off h0 h1 (As R)) ?_;rintro _ ⟨d,rfl,h,k⟩
 (dsimp +instances only[Aa,Ab,Ac,Ad,Ae,Af,Ag])
 refine aa.neg rfl ?_;refine aa.loop ((Sn R ho off h k d.length 0 [] (by omega) (aD _) (fun z q=>by cases q)).to (by omega)) rfl ?_;rintro _ _ ⟨rfl,v,rfl,B,u⟩
 (dsimp +instances only[Aa,Ab,Ac,Ad,Ae,Af,Ag])
 exact aa.p (aa.some ⟨v,rfl,by omega,u⟩)
def agP(L:List (List G))(own:Nat)(d out:List (List G))(len i:Int)(x:Nat)(g:List G):Prop :=
 (x = 0 ∧ g = [.l out, .l L, .i (own : Int), .l d, .i len, .i i]) ∨
  (x=1∧∃(t m:Int) (b c:ByteArray) (s h:Int) (y z:ByteArray),Good [.i t,.i m,.s b,.s c,.i s,.i h,.s y,.s z]∧g=[.l out,.i t,.i m,.s b,.s c,.i s,.i h,.s y,.s z,.l L,.i (own:Int),.l d,.i len,.i i])
omit ho in
theorem agQ{N out:List (List G)}{ci d v len i t m s h:Int}{w b c y z:ByteArray}{f:Bool}(hg:Good [.i t,.i m,.s b,.s c,.i s,.i h,.s y,.s z])(O:d=2→∃ k:Nat,k<L.length∧w=C k)(h3:d=3→∃ k i:Nat,k<L.length∧i<(A k).length∧w=C k∧v=(i:Int)) :
  aa (vI [.l out,.i ci,.i d,.s w,.i v,.i t,.i m,.s b,.s c,.i s,.i h,.s y,.s z,.l L,.i (own:Int),.l N,.i len,.i i,.i d,.t f]) fun o=>∃ x,o.1=some x∧agP L own N out len i x o.2:=by
 unfold vI
 (dsimp +instances only[Aa,Ab,Ac,Ad,Ae,Af,Ag])
 refine aa.test (fun _=>aa.p (aa.some ⟨0,rfl,.inl ⟨rfl,rfl⟩⟩)) fun _=>?_;obtain⟨⟨t',m',b',c',s',h',y',z',e,g,q,u,U,B,V,I,W⟩,hf⟩:=hg;cases e;have J:eb t 0 345686399999=true∧eb m 1 3=true∧kQ b=true∧jA c=true∧eb s 0 99999=true∧eb h 0 99999=true∧j5 y=true∧j5 z=true:=vX.1 hf;refine aa.test (fun g2=>?_) fun _=>aa.test (fun g3=>?_) fun _=>?_
 ·obtain ⟨k, hk, rfl⟩ := O (by simpa using g2)
  refine aa.p (aa.some ⟨1,rfl,.inr ⟨rfl,_,_,_,_,_,_,_,_,⟨⟨_,_,_,_,_,_,_,_,rfl,g,q,u,U,B,R.call k hk,I,W⟩,?_⟩,rfl⟩⟩);obtain⟨f1,f2,f3,f4,f5,f6,f7,f8⟩:=J;exact vX.2 ⟨f1,f2,f3,(Sg (R.fault k hk)).1,f5,f6,f7,f8⟩
 ·obtain ⟨k, j, hk, hj, rfl, rfl⟩ := h3 (by simpa using g3)
  refine aa.call (G3 R.om (C k)) ?_;rintro _ ⟨p,bb,rfl,hT,hF⟩
  (dsimp +instances only[Aa,Ab,Ac,Ad,Ae,Af,Ag])
  have hb:bb=true:=by
   cases bb with
   |true=>rfl
   |false=>exact absurd rfl (hF rfl k hk)
  obtain⟨hp,hpe⟩:=hT hb;have:=R.om.inj hp hk hpe;subst this;obtain⟨hx,M⟩:=R.row hk hj;simp only[a8,R.get p hk]
  (dsimp +instances only[Aa,Ab,Ac,Ad,Ae,Af,Ag])
  refine aa.p (aa.p (aa.p (aa.some ⟨1,rfl,.inr ⟨rfl,_,_,_,_,_,_,_,_,?_,rfl⟩⟩)));obtain⟨t2,m2,b2,c2,s2,O,y2,z2,e2,q1,q2,q3,q4,q5,q6,q7,q8⟩:=hx;rw[e2]at M⊢;have hx2:=vX.1 M;obtain⟨f1,f2,f3,f4,f5,f6,f7,f8⟩:=J;obtain⟨x1,x2,x3,x4,x5,x6,x7,x8⟩:=hx2;exact⟨⟨_,_,_,_,_,_,_,_,rfl,g,q,u,q3,B,V,I,q7⟩,vX.2 ⟨f1,f2,f3,f4,f5,x5,f7,x7⟩⟩
 ·exact aa.p (aa.some ⟨1,rfl,.inr ⟨rfl,_,_,_,_,_,_,_,_,⟨⟨_,_,_,_,_,_,_,_,rfl,g,q,u,U,B,V,I,W⟩,hf⟩,rfl⟩⟩)
theorem Sp{k:List (List G)}(V:k.length=(A own).length)(J:kX L C A own off k):∀(d i:Nat) (out:List (List G)),i+d=k.length→out.length≤i→(∀ z∈out,Good z) →
  aZ sA [.l out,.l L,.i (own:Int),.l k,.i (k.length:Int),.i (i:Int)] (d+1) fun x g=>x=0∧∃ v,g=[.l v]∧v.length≤k.length∧∀ z∈v,Good z
 | 0,i,out,hi,N,B=>by
  refine aZ.stop (x:=0) (aa.toEq ?_) ⟨rfl,out,rfl,by omega,B⟩;unfold sA
  (dsimp +instances only[Aa,Ab,Ac,Ad,Ae,Af,Ag])
  exact aa.n (aa.p (aa.some rfl))
 | d+1,i,out,hi,N,B=>by
  have hna:=R.na own ho;obtain⟨kd,w,v,W,h2,h3⟩:=Sm J (j:=i) (by omega);have I:=R.row ho (j:=i) (by omega);have step:aa (sA [.l out,.l L,.i (own:Int),.l k,.i (k.length:Int),.i (i:Int)]) fun o=>∃ q,o=(none,[.l q,.l L,.i (own:Int),.l k,.i (k.length:Int),.i ((i:Int)+1)])∧(q=out∨∃ z,Good z∧q=out++[z]):=by
   unfold sA
   (dsimp +instances only[Aa,Ab,Ac,Ad,Ae,Af,Ag])
   simp only[a8,W,R.get own ho]
   (dsimp +instances only[Aa,Ab,Ac,Ad,Ae,Af,Ag])
   simp only[a8];obtain⟨t,m,b,c,s,h,y,z,e,_⟩:=I.1;rw[e]at I;simp only[e]
   (dsimp +instances only[Aa,Ab,Ac,Ad,Ae,Af,Ag])
   refine aa.p (aa.p (aa.p (aa.p ?_)));refine aa.test (fun _=>?_) fun _=>?_
   all_goals
    refine aa.tail (agQ R I h2 h3) (by(first|rfl|assumption|(simp only[aq,sl]<;>omega))) ?_;rintro x g (⟨rfl,rfl⟩|⟨rfl,t',m',b',c',s',h',y',z',O,rfl⟩)
    ·(dsimp +instances only [Aa,Ab,Ac,Ad,Ae,Af,Ag])
     exact aa.pos rfl (aa.p (aa.p (aa.some ⟨out,rfl,.inl rfl⟩)))
    ·(dsimp +instances only [Aa,Ab,Ac,Ad,Ae,Af,Ag])
     refine aa.neg rfl ?_;refine aa.tail (P:=fun x g=>x=0∧g=[.l (out++[[.i t',.i m',.s b',.s c',.i s',.i h',.s y',.s z']]),.l L,.i (own:Int),.l k,.i (k.length:Int),.i (i:Int)]) ?_ (by(first|rfl|assumption|(simp only[aq,sl]<;>omega))) ?_
     ·unfold zQ
      (dsimp +instances only[Aa,Ab,Ac,Ad,Ae,Af,Ag])
      exact aa.p (aa.p (aa.some ⟨0,rfl,rfl,rfl⟩))
     ·rintro _ _ ⟨rfl, rfl⟩
      (dsimp +instances only[Aa,Ab,Ac,Ad,Ae,Af,Ag])
      exact aa.p (aa.p (aa.some ⟨_,rfl,.inr ⟨_,O,rfl⟩⟩))
  obtain⟨o,h,q,rfl,M⟩:=step;refine aZ.next h (Sp V J d (i+1) q (by omega) ?_ ?_)
  ·rcases M with rfl | ⟨z, _, rfl⟩
   ·omega
   ·simp; omega
  ·rcases M with rfl | ⟨z, U, rfl⟩
   ·exact B
   ·intro u hu
    rcases cU.1 hu with h|h
    ·exact B u h
    ·rw [wy.1 h]
     exact U
omit R ho in
theorem agR:uV [.int .i64,.int .i64,.str,.str,.int .i64,.int .i64,.str,.str] vG dn iW:=⟨fun r s d g=>by
 refine aa.toEq ?_;unfold vG
 (dsimp +instances only[Aa,Ab,Ac,Ad,Ae,Af,Ag])
 simp only[d.eta,g.eta];refine aa.cE (Gl d g) ?_;exact aa.some rfl,fun _ h=>h.eta⟩
theorem agS(h0:0≤off)(h1:off≤300):aa (zR [.l L,.s (C own),.i off]) fun g=>∃ m,g=[.l m,.i 0]∧m.length≤(A own).length∧(∀ z∈m,dn z)∧gN m=0:=by
 have N:=R.na own ho;unfold zR
 (dsimp +instances only[Aa,Ab,Ac,Ad,Ae,Af,Ag])
 refine aa.call (G7 R.om ho off h0 h1 (As R)) ?_;rintro _ ⟨y,rfl,B,I⟩
 (dsimp +instances only[Aa,Ab,Ac,Ad,Ae,Af,Ag])
 refine aa.neg rfl ?_;refine aa.loop ((Sp R ho off B I y.length 0 [] (by omega) (aD _) (fun z d=>by cases d)).to (by omega)) rfl ?_;rintro _ _ ⟨rfl,v,rfl,O,k⟩
 (dsimp +instances only[Aa,Ab,Ac,Ad,Ae,Af,Ag])
 have q:∀ z∈v,dn z:=fun z d=>(k z d).1;refine aa.lE (aa.eq (afM v q (by omega))) (by(first|rfl|assumption|(simp only[aq,sl]<;>omega))) ?_;rintro _ rfl
 (dsimp +instances only[Aa,Ab,Ac,Ad,Ae,Af,Ag])
 have h:=LM (lt:=bF bS) k;have u:=yW (bF bS) v;refine aa.lE (P:=fun g=>∃ J,g=[.l (fb iW (cP (bF bS) v)++J),.i ((fb iW (cP (bF bS) v)).length:Int)]∧(fb iW (cP (bF bS) v)++J).length=(cP (bF bS) v).length)
  (LV (Z:=zC) agR (cP (bF bS) v) (fun z d=>(h z d).1) (by omega)) (by simp only[u]; (first|rfl|assumption|(simp only[aq,sl]<;>omega))) ?_
 rintro _ ⟨J,rfl,M⟩
 (dsimp +instances only[Aa,Ab,Ac,Ad,Ae,Af,Ag])
 have hle:(fb iW (cP (bF bS) v)).length≤(cP (bF bS) v).length:=LS _ _;simp only[a8,M];refine aa.p (aa.some ⟨fb iW (cP (bF bS) v),by rw[List.take_left],by omega,fun z d=>(h z (Dh d)).1,?_⟩);refine agN (fun z d=>(h z (Dh d)).2) (agM ?_) (by omega);refine(uW (lt:=bF bS) agL (l:=v) (fun _ _=>trivial)).imp fun {a b} g=>?_;unfold bF at g;rw[dS,decide_eq_false_iff_not]at g;have:=j9 a b;omega
end
/-! ### h d g -/
def gE(i:Nat):ByteArray:=C4.getD i ⟨#[]⟩
def sN(X:List (List G))(i:Nat):List (List G):=(gi (X.getD i []) 1).rows
theorem agT:∀ i j,i<j→j<4→dL (gE i) (gE j)<0:=by
 have h:((dI 4).all fun j=>(dI j).all fun i=>ai (dL (gE i) (gE j)) 0)=true:=by kernel_rfl
 intro i j d g;have h1:=cQ.1 (cQ.1 h j (eO.2 g)) i (eO.2 d)
 rwa [dS,decide_eq_true_eq]at h1
theorem Sq:∀ i,i<4→gE i∈calls:=by
 have h:((dI 4).all fun i=>j0 calls (gE i))=true:=by kernel_rfl
 exact fun i hi=>zV (cQ.1 h i (eO.2 hi))
theorem agU:∀ i,i<4→((gE i).toList==(⟨#[]⟩:ByteArray).toList)=false:=by
 have h:((dI 4).all fun i => !mD (gE i) ⟨#[]⟩)=true:=by kernel_rfl
 intro i hi;have h1:=cQ.1 h i (eO.2 hi);rw[pS];refine decide_eq_false fun e=>?_;rw[e]at h1;cases h1
theorem agV:∀ i,0<i→i<4→(lO (gE i).toList (gE (i-1)).toList||((gE i).toList==(gE (i-1)).toList))=false:=by
 intro i h0 d;have e:∀ a b:ByteArray,(lO a.data.toList b.data.toList||mD a b)=false→(lO a.toList b.toList||(a.toList==b.toList))=false:=fun a b h=>by
  rw[qf,qf];exact h
 have h:((dI 4).all fun i=>ad i 0 || !(lO (gE i).data.toList (gE (i-1)).data.toList||mD (gE i) (gE (i-1))))=true:=by kernel_rfl
 have h1:=cQ.1 h i (eO.2 d);refine e _ _ ?_;simp only[Bool.or_eq_true,mQ,LB]at h1;rcases h1 with h1|h1
 ·omega
 ·exact h1
theorem agW{X:List (List G)}{m:Nat}(v:X.length=m)(hm:m≤4)(hX:∀ i,i<m→GS (C4.getD i ⟨#[]⟩) (X.getD i []))(h:∀ j,j<X.length→∀ c L,X.getD j []=[.s c,.l L]→kW c L=0):pZ X gE (sN X):=by
 have d:∀ i,i<X.length→X.getD i []=[.s (gE i),.l (sN X i)]∧(∀ z∈sN X i,jC z)∧(sN X i).length≤14:=fun i hi=>by
  obtain⟨L,h1,k,q⟩:=hX i (by omega);have e:sN X i=L:=by unfold sN; rw[h1]; rfl
  rw[e];exact⟨h1,k,q⟩
 exact⟨fun i hi=>(d i hi).1,by omega,fun i hi z u=>((d i hi).2.1 z u).1,fun i hi=>(d i hi).2.2,fun i hi=>Sq i (by omega),fun i j g y=>agT i j g (by omega),fun i h0 hi=>agV i h0 (by omega),fun i hi=>h i hi _ _ (d i hi).1⟩
section
variable {L:List (List G)} {C:Nat→ByteArray} {A:Nat→List (List G)} (R:pZ L C A) (hC:∀ i,i<L.length→((C i).toList==(⟨#[]⟩:ByteArray).toList)=false) {own:Nat} (ho:own<L.length) (off:Int) (h0:0≤off) (h1:off≤300)
include R
theorem Sr{k:Nat}(hk:k<L.length)(a b v:Int):∀(d i:Nat),i+d=k→aZ vJ [.l L,.l [[.i a,.i b,.s (C k),.i v]],.i (L.length:Int),.i (i:Int)] (d+1) fun x g=>x=0∧g=[.i (k:Int)]
 | 0,i,hi=>by
  have h:=R.n;have:i=k:=by omega
  subst this;refine aZ.stop (x:=0) (aa.toEq ?_) ⟨rfl,rfl⟩;unfold vJ
  (dsimp +instances only[Aa,Ab,Ac,Ad,Ae,Af,Ag])
  simp only[a8,R.get i hk];refine aa.p (aa.p ?_);refine aa.call (P:=fun g=>g=[.t ((C i).toList==(C i).toList)]) (aa.eq rfl) ?_;rintro _ rfl;exact aa.pos (by show ((C i).toList==(C i).toList)=true; rw[beq_self_eq_true]) (aa.some rfl)
 | d+1,i,hi=>by
  have h:=R.n;refine aZ.next (d1:=[.l L,.l [[.i a,.i b,.s (C k),.i v]],.i (L.length:Int),.i ((i:Int)+1)]) (aa.toEq ?_) (Sr hk a b v d (i+1) (by omega))
  unfold vJ
  (dsimp +instances only[Aa,Ab,Ac,Ad,Ae,Af,Ag])
  simp only[a8,R.get i (by omega:i<L.length)];refine aa.p (aa.p ?_);refine aa.call (P:=fun g=>g=[.t ((C i).toList==(C k).toList)]) (aa.eq rfl) ?_;rintro _ rfl;refine aa.neg ?_ (aa.p (aa.some rfl));show ((C i).toList==(C k).toList)=false
  rw[pS];exact decide_eq_false fun e=>by have:=R.om.inj (by omega) hk e; omega
theorem agX{k:Nat}(hk:k<L.length)(a b v:Int):zT [.l L,.l [[.i a,.i b,.s (C k),.i v]]]=some [.i (k:Int)]:=by
 have d:=R.n;refine aa.toEq ?_;unfold zT
 (dsimp +instances only[Aa,Ab,Ac,Ad,Ae,Af,Ag])
 refine aa.loop ((Sr R hk a b v k 0 (by omega)).to (by omega)) rfl ?_;rintro _ _ ⟨rfl,rfl⟩;exact aa.pos rfl (aa.some rfl)
include hC ho h0 h1
theorem Ss{h:List (List G)}(W:h.length=(A own).length)(J:kX L C A own off h):∀(d i:Nat),i+d=h.length →
  aZ vK [.s (C own),.l (A own),.l L,.i off,.l L,.i (L.length:Int),.i (own:Int),.l h,.i (h.length:Int),.i (i:Int)] (d+1) fun x g=>x=1∧g=[.l L,.i off,.l L,.i (L.length:Int),.i (own:Int)]
 | 0,i,hi=>by
  refine aZ.stop (x:=1) (aa.toEq ?_) ⟨rfl,rfl⟩;unfold vK
  (dsimp +instances only[Aa,Ab,Ac,Ad,Ae,Af,Ag])
  exact aa.n (aa.some rfl)
 | d+1,i,hi=>by
  have hna:=R.na own ho;have hn:=R.n;refine aZ.next (d1:=[.s (C own),.l (A own),.l L,.i off,.l L,.i (L.length:Int),.i (own:Int),.l h,.i (h.length:Int),.i ((i:Int)+1)]) (aa.toEq ?_) (Ss W J d (i+1) (by omega))
  unfold vK
  (dsimp +instances only[Aa,Ab,Ac,Ad,Ae,Af,Ag])
  simp only[a8];refine aa.p (aa.p ?_);rcases J i (by omega)with B|⟨kd,w,v,B,M⟩
  ·simp only [B]
   (dsimp +instances only[Aa,Ab,Ac,Ad,Ae,Af,Ag])
   exact aa.neg (by simp) (aa.neg (by rw[beq_self_eq_true]; rfl) (aa.pos rfl (aa.p (aa.some rfl))))
  ·simp only [B]
   (dsimp +instances only[Aa,Ab,Ac,Ad,Ae,Af,Ag])
   refine aa.neg (by simp) ?_;rcases M with⟨k,j,hk,hj,hke,rfl,rfl,hm,u⟩|⟨_,⟨rfl,k,hk,rfl,hv,_⟩|⟨u,rfl,rfl⟩⟩
   ·refine aa.neg ?_ ?_
    ·rw [hC k hk, dS, decide_eq_false (by omega)]
     rfl
    rcases u with⟨rfl,I⟩|⟨rfl,_⟩
    ·refine aa.neg rfl ?_
     refine aa.cE (agX R hk (i:Int) 1 (j:Int)) ?_
     (dsimp +instances only[Aa,Ab,Ac,Ad,Ae,Af,Ag])
     have hnk:=R.na k hk;simp only[a8,R.get k hk]
     (dsimp +instances only[Aa,Ab,Ac,Ad,Ae,Af,Ag])
     refine aa.n (aa.p (aa.n (aa.p (aa.p (aa.p ?_)))));refine aa.call (Se R.om hk off h0 h1 (As R)) ?_;rintro _ ⟨out,rfl,hol,U⟩
     (dsimp +instances only[Aa,Ab,Ac,Ad,Ae,Af,Ag])
     obtain⟨i',j',he,hi',hj',hw1,q,_⟩:=vT (R.om.two ho hk) hm;cases he;have q:((gi ((A k).getD j []) 3).str.toList==(C own).toList)=true:=q;unfold vW at I;rw[az]at I;obtain⟨s1,s2⟩:=I;refine aa.neg rfl (aa.n (aa.neg (by rw[q]; rfl) (aa.neg ?_ (aa.neg ?_ (aa.p ?_)))))
     ·rw [beq_iff_eq] at s1
      rw[s1];simp
     ·rw [pS, decide_eq_true_eq] at s2
      rw[s2];simp
     have N:G4 L C A k off j:=by
      refine⟨own,i,ho,(Q7 q).symm,?_⟩;have:=agf (RU (Ao (R.fault own ho))) (RU (Ao (R.fault k hk))) (by omega) hm;exact this
     rcases U j (by omega)with y|⟨kd2,w2,v2,y,⟨_,_,_,_,_,_,_,_,O⟩|⟨V,_⟩⟩
     ·simp only [y]
      (dsimp +instances only[Aa,Ab,Ac,Ad,Ae,Af,Ag])
      exact aa.pos rfl (aa.pos rfl (aa.neg rfl (aa.p (aa.some rfl))))
     ·simp only [y]
      (dsimp +instances only[Aa,Ab,Ac,Ad,Ae,Af,Ag])
      rcases O with⟨rfl,_⟩|⟨rfl,_⟩
      ·exact aa.neg rfl (aa.p (aa.some rfl))
      ·exact aa.pos rfl (aa.neg rfl (aa.p (aa.some rfl)))
     ·exact absurd N V
    ·exact aa.pos rfl (aa.p (aa.some rfl))
   ·refine aa.neg ?_ (aa.pos rfl (aa.p (aa.some rfl)))
    rw[hC k hk,dS,decide_eq_false (by omega)];rfl
   ·refine aa.neg (by rw [beq_self_eq_true]; rfl) ?_
    rcases u with rfl|rfl
    ·exact aa.pos rfl (aa.p (aa.some rfl))
    ·exact aa.pos rfl (aa.p (aa.some rfl))
omit ho in
theorem Su:∀(d i:Nat),i+d=L.length→aZ vL [.l L,.i off,.l L,.i (L.length:Int),.i (i:Int)] (d+1) fun x _=>x=1
 | 0,i,hi=>by
  refine aZ.stop (x:=1) (d':=[]) (aa.toEq ?_) rfl;unfold vL
  (dsimp +instances only[Aa,Ab,Ac,Ad,Ae,Af,Ag])
  exact aa.n (aa.some rfl)
 | d+1,i,hi=>by
  have J:=R.n;have h:i<L.length:=by omega
  have I:=R.na i h;refine aZ.next (d1:=[.l L,.i off,.l L,.i (L.length:Int),.i ((i:Int)+1)]) (aa.toEq ?_) (Su d (i+1) (by omega))
  unfold vL
  (dsimp +instances only[Aa,Ab,Ac,Ad,Ae,Af,Ag])
  simp only[a8,R.get i h]
  (dsimp +instances only[Aa,Ab,Ac,Ad,Ae,Af,Ag])
  refine aa.p (aa.p ?_);refine aa.call (Se R.om h off h0 h1 (As R)) ?_;rintro _ ⟨y,rfl,k,B⟩
  (dsimp +instances only[Aa,Ab,Ac,Ad,Ae,Af,Ag])
  refine aa.call (agO R h off h0 h1) ?_;rintro _ ⟨v,rfl,M,_⟩
  (dsimp +instances only[Aa,Ab,Ac,Ad,Ae,Af,Ag])
  refine aa.call (agS R h off h0 h1) ?_;rintro _ ⟨m,rfl,hm,q,u⟩
  (dsimp +instances only[Aa,Ab,Ac,Ad,Ae,Af,Ag])
  refine aa.call (P:=fun g=>g=[.i 0]) ⟨_,by kernel_rfl,rfl⟩ ?_;rintro _ rfl;refine aa.neg rfl (aa.neg (by rw[k]; simp) (aa.n (aa.n ?_)));refine aa.cE (Q4 m q (by omega)) ?_
  (dsimp +instances only[Aa,Ab,Ac,Ad,Ae,Af,Ag])
  refine aa.neg (by rw[u]; rfl) ?_;refine aa.loop ((Ss R hC h off h0 h1 k B y.length 0 (by omega)).to (by omega)) rfl ?_;rintro _ _ ⟨rfl,rfl⟩
  (dsimp +instances only[Aa,Ab,Ac,Ad,Ae,Af,Ag])
  exact aa.neg rfl (aa.p (aa.some rfl))
end
theorem agY(rows:List (List G)):Ge [.l rows]=some [.t true]:=by
 refine aa.toEq ?_;unfold Ge
 (dsimp +instances only[Aa,Ab,Ac,Ad,Ae,Af,Ag])
 refine aa.call (agn rows) ?_;rintro _ ⟨p,X,m,rfl,p0,p1,m0,m1,k,hX⟩
 (dsimp +instances only[Aa,Ab,Ac,Ad,Ae,Af,Ag])
 refine aa.call (Gh rows p 0 300 p0 (by omega) (by omega) (by omega) (by omega)) ?_;rintro _ ⟨off,rfl,o0,o1⟩
 (dsimp +instances only[Aa,Ab,Ac,Ad,Ae,Af,Ag])
 refine aa.call (agp (X:=X) (fun i hi=>by
  obtain⟨L,h1,u,y⟩:=hX i (by omega);exact⟨_,L,h1,Sq i (by omega),fun z v=>(u z v).1,by omega⟩) (by omega)) ?_
 rintro _ ⟨e,rfl,he⟩
 (dsimp +instances only[Aa,Ab,Ac,Ad,Ae,Af,Ag])
 have d:∀{Q:List G→Prop},Q [.t true]→aa (aA (ve []) fun g4=>some [.t (gi g4 0).bool]) Q:=fun h=>⟨_,rfl,h⟩
 refine aa.test (fun _=>d rfl) fun q=>?_;have R:=agW k m1 hX (he (by simpa using q));refine aa.loop ((Su R (fun i hi=>agU i (by omega)) off o0 o1 X.length 0 (by omega)).to (by omega)) rfl ?_;rintro x g rfl;exact aa.neg rfl (d rfl)
end
end Go.Proofs.iE
