/-
 What is proved here: what the methods of the stream give on data. No condition.
-/
import Derived.Test.YtdabjgppkghiaaaGreatDoorML3
import Derived.Test.YtdabjgppkghiaaaGreatDoorME
set_option linter.all false
open Bool renaming and_true→fl,and_eq_true→aq,eq_iff_iff→tq,not_not→XF
open Decidable renaming byContradiction→n4
open Int renaming toNat_natCast→eL,le_refl→p6,tdiv→eG,tmod→ij,tmod_lt_of_pos→XB,tdiv_eq_ediv_of_nonneg→XC,tmod_eq_emod_of_nonneg→XD,mul_nonneg→XE
open List renaming length_cons→dZ,length_map→eY,getElem?_eq_getElem→bC,all_eq_true→cC,getD_eq_getElem?_getD→cD,mem_cons→bN,map_cons→dg,mem_append→bQ,mem_cons_self→cW,mem_cons_of_mem→da,nodup_cons→gJ,mem_append_left→kA,any_eq_true→gK,mem_singleton→gL,drop_eq_getElem_cons→Lf,not_mem_nil→n9,pairwise_iff_getElem→Lk,mem_iff_getElem→XG,take_length→XH,any_eq_false→XI
open Nat renaming zero_add→dL
namespace Go.Proofs.jJ
open Go Go.AL Go.Proofs
noncomputable section
theorem Cb(x n:Int)(h0:1≤n)(h1:n≤1099511627776):aa (pz [.i x,.i n]) fun g=>∃ v,g=[.i v]∧0≤v∧v<n:=by
 unfold pz
 (dsimp +instances only[Aa,Ab,Ac,Ad,Ae,Af,Ag])
 have a:=XB x (by omega:0<n);have b:=Int.lt_tmod_of_pos x (by omega:0<n)
 (repeat first|refine aa.p ?_|refine aa.n ?_)
 refine aa.test (fun h=>?_) fun h=>?_
 ·simp only [eu, decide_eq_true_eq] at h
  (repeat first|refine aa.p ?_|refine aa.n ?_)
  exact aa.some ⟨_,rfl,by omega,by omega⟩
 ·simp only [eu, decide_eq_false_iff_not] at h
  exact aa.some ⟨_,rfl,by omega,by omega⟩
theorem sR(l:List (List G))(a n:Int)(b:0≤a)(A:a≤1000000)(h0:1≤n)(h1:n≤1099511627776) :
  aa (mr [.l l,.i a,.i n]) fun g=>∃ v,g=[.l l,.i (a+1),.i v]∧0≤v∧v<n:=by
 unfold mr
 (dsimp +instances only[Aa,Ab,Ac,Ad,Ae,Af,Ag])
 have t:a+1-1=a:=by omega
 simp only[t];by_cases B:l.length=0
 ·(repeat first|refine aa.p ?_|refine aa.n ?_)
  refine aa.call (Cb _ n h0 h1) ?_;rintro _ ⟨v,rfl,d,h⟩
  (dsimp +instances only[Aa,Ab,Ac,Ad,Ae,Af,Ag])
  exact aa.some ⟨v,rfl,d,h⟩
 ·have w : (0 : Int) < (l.length : Int) := by omega
  have d0:0≤eG a l.length:=Int.tdiv_nonneg b (by omega);have d1:eG a l.length≤a:=by
   rw[XC b];exact Int.ediv_le_self _ b
  have m0:0≤ij a l.length:=by
   rw[XD b];exact Int.emod_nonneg _ (by omega)
  have m1:ij a l.length<l.length:=XB a w;have m2:ij a l.length≤a:=by
   rw[XD b];have:=Int.mul_ediv_add_emod a l.length;have k:0≤(l.length:Int)*(a / l.length):=XE (by omega) (Int.ediv_nonneg b (by omega));omega
  generalize D:eG a l.length=q at *;generalize hr:ij a l.length=r at *;have p0:0≤q*(7919+r):=XE d0 (by omega);have p1:q*(7919+r)≤1000000*2000000:=Int.mul_le_mul (by omega) (by omega) (by omega) (by omega);generalize I:q*(7919+r)=z at *
  (repeat first|refine aa.p ?_|refine aa.n ?_)
  refine aa.call (Cb _ 1073741824 (by omega) (by omega)) ?_;rintro _ ⟨u,rfl,d,h⟩
  (dsimp +instances only[Aa,Ab,Ac,Ad,Ae,Af,Ag])
  (repeat first|refine aa.p ?_|refine aa.n ?_)
  refine aa.call (Cb _ n h0 h1) ?_;rintro _ ⟨v,rfl,k,y⟩
  (dsimp +instances only[Aa,Ab,Ac,Ad,Ae,Af,Ag])
  exact aa.some ⟨v,rfl,k,y⟩
theorem Kk{l:List (List G)}{v:Int}(h0:0≤v)(h1:v<l.length):l.getD v.toNat []∈l:=by
 have:v.toNat<l.length:=by omega
 rw[cD,bC this];exact List.getElem_mem this
theorem Kl(P:Int→Prop)(l:List (List G))(a:Int)(xs:List (List G))(d:0≤a)(b:a≤1000000)(h0:1≤xs.length)(h1:xs.length≤1000000)(h:∀ x∈xs,P (gi x 0).int) :
  aa (ki [.l l,.i a,.l xs]) fun g=>∃ v,g=[.l l,.i (a+1),.i v]∧P v:=by
 unfold ki
 (dsimp +instances only[Aa,Ab,Ac,Ad,Ae,Af,Ag])
 refine aa.call (sR l a _ d b (by omega) (by omega)) ?_;rintro _ ⟨v,rfl,k,q⟩
 (dsimp +instances only[Aa,Ab,Ac,Ad,Ae,Af,Ag])
 (repeat first|refine aa.p ?_|refine aa.n ?_)
 exact aa.some ⟨_,rfl,h _ (Kk k q)⟩
theorem VC(P:ByteArray→Prop)(l:List (List G))(a:Int)(xs:List (List G))(d:0≤a)(b:a≤1000000)(h0:1≤xs.length)(h1:xs.length≤1000000)(h:∀ x∈xs,P (gi x 0).str) :
  aa (wu [.l l,.i a,.l xs]) fun g=>∃ v,g=[.l l,.i (a+1),.s v]∧P v:=by
 unfold wu
 (dsimp +instances only[Aa,Ab,Ac,Ad,Ae,Af,Ag])
 refine aa.call (sR l a _ d b (by omega) (by omega)) ?_;rintro _ ⟨v,rfl,k,q⟩
 (dsimp +instances only[Aa,Ab,Ac,Ad,Ae,Af,Ag])
 (repeat first|refine aa.p ?_|refine aa.n ?_)
 exact aa.some ⟨_,rfl,h _ (Kk k q)⟩
theorem wO(l:List (List G))(a n:Int)(h:0≤a)(d:a≤1000000)(h0:1≤n)(h1:n≤1000000) :
  aa (nJ [.l l,.i a,.i n]) fun g=>∃ b,g=[.l l,.i (a+1),.t b]:=by
 unfold nJ
 (dsimp +instances only[Aa,Ab,Ac,Ad,Ae,Af,Ag])
 refine aa.call (sR l a _ h d (by omega) (by omega)) ?_;rintro _ ⟨v,rfl,k,q⟩;exact aa.some ⟨_,rfl⟩
def Km(L:List ByteArray)(s:ByteArray):Bool:=L.any fun x=>r9 x s
theorem wP{L:List ByteArray}{s:ByteArray}(h:Km L s=true):s∈L:=by
 obtain⟨x,a,he⟩:=gK.1 h;exact G8 he▸a
theorem sS(lo hi:Int)(l:List (List G))(a:Int)(xs:List (List G))(d:0≤a)(b:a≤1000000)(h0:(Nat.ble 1 xs.length&&Nat.ble xs.length 1000000)=true) (h:(xs.all fun x=>aZ lo (gi x 0).int&&aZ (gi x 0).int hi)=true) :
  aa (ki [.l l,.i a,.l xs]) fun g=>∃ v,g=[.l l,.i (a+1),.i v]∧lo≤v∧v≤hi:=by
 simp only[aq,Nat.ble_eq]at h0;refine Kl (fun v=>lo≤v∧v≤hi) l a xs d b h0.1 h0.2 fun x k=>?_;have:=cC.1 h x k;simpa only[dp,aq,decide_eq_true_eq]using this
def calls:List ByteArray:=[⟨#[]⟩,⟨#[107,49]⟩,⟨#[75,49,65,66]⟩,⟨#[107,49,97,98,47]⟩,⟨#[49,97]⟩,⟨#[107,49,97,98,47,109,109,47,112]⟩,⟨#[107,49,97,98]⟩,⟨#[107,49,97,97]⟩,⟨#[107,49,97,98,47,52]⟩,
 ⟨#[111,104,50,97,98,99]⟩,⟨#[111,104,50,97,98,100]⟩,⟨#[119,49,97,119]⟩,⟨#[110,49,109,109]⟩,⟨#[103,51,120,121,122,47,112]⟩]
def Kn:List ByteArray:=[⟨#[]⟩,⟨#[66]⟩,⟨#[98,50,48]⟩,⟨#[98,52,48]⟩]
def names:List ByteArray:=[⟨#[]⟩,⟨#[65]⟩,⟨#[49]⟩,⟨#[102,105,110]⟩,⟨#[117,115,97]⟩]
def small(n:Int):Prop := -2000000000000≤n∧n≤2000000000000
def Cc(r:List G):Prop:=∃(t m:Int) (b c:ByteArray) (s h:Int) (x y:ByteArray),r=[.i t,.i m,.s b,.s c,.i s,.i h,.s x,.s y]∧small t∧small m∧small s∧small h∧b∈Kn∧c∈calls∧x∈names∧y∈names
def tight(n:Int):Prop := -1900000000000≤n∧n≤1900000000000
def wQ(n:Int):Prop := -1900000000000≤n∧(n≤345000000000∨(345686399999<n∧n≤1900000000000))
def Ko(r:List G):Prop:=∃(t m:Int) (b c:ByteArray) (s h:Int) (x y:ByteArray),r=[.i t,.i m,.s b,.s c,.i s,.i h,.s x,.s y]∧wQ t∧tight m∧tight s∧tight h∧b∈Kn∧c∈calls∧x∈names∧y∈names
theorem tight.to{n:Int}(h:tight n):small n:=⟨by have:=h.1; omega,by have:=h.2; omega⟩
theorem wQ.to{n:Int}(h:wQ n):small n:=by
 unfold wQ at h;exact⟨by omega,by omega⟩
theorem Ko.to{r:List G}(h:Ko r):Cc r:=by
 obtain⟨t,m,b,c,s,h,x,y,e,h1,a,d,g,i⟩:=h;exact⟨t,m,b,c,s,h,x,y,e,h1.to,a.to,d.to,g.to,i⟩
theorem Cc.eta{r:List G}(h:Cc r):bM [.int .i64,.int .i64,.str,.str,.int .i64,.int .i64,.str,.str] r=r:=by
 obtain⟨t,m,b,c,s,h,x,y,rfl,_⟩:=h;rfl
def cX(a b:Int):Int:=if a<b then -1 else if b<a then 1 else 0
theorem wR(a b:Int):kh [.i a,.i b]=some [.i (cX a b)]:=by
 refine aa.toEq ?_;unfold kh wg cX
 (dsimp +instances only[Aa,Ab,Ac,Ad,Ae,Af,Ag])
 simp only[bne_self_eq_false];refine aa.call ⟨_,rfl,rfl⟩ ?_;rintro _ rfl;refine aa.call ⟨_,rfl,rfl⟩ ?_;rintro _ rfl
 (dsimp +instances only[Aa,Ab,Ac,Ad,Ae,Af,Ag])
 (repeat first|refine aa.p ?_|refine aa.n ?_)
 by_cases h1:a<b
 ·(repeat first|refine aa.p ?_|refine aa.n ?_)
  exact aa.some (by simp[h1])
 ·by_cases d : b < a
  ·(repeat first|refine aa.p ?_|refine aa.n ?_)
   exact aa.some (by simp[h1,d])
  ·(repeat first|refine aa.p ?_|refine aa.n ?_)
   exact aa.some (by simp[h1,d])
def mv:List (List G)→Int
 | []=>0
 |x::q=>if (gi x 0).int≠0 then (gi x 0).int else mv q
theorem Kp:∀(q p:List (List G)),p.length+q.length<100000 →
  dI pt [.i 0,.l (p++q),.i ((p.length+q.length:Nat):Int),.i (p.length:Int)] (q.length+1) fun c g=>c≤1∧g=[.i (mv q)]
 | [],p,a=>by
  refine dI.stop (x:=1) (aa.toEq ?_) ⟨by omega,rfl⟩;unfold pt
  (dsimp +instances only[Aa,Ab,Ac,Ad,Ae,Af,Ag])
  (repeat first|refine aa.p ?_|refine aa.n ?_)
  exact aa.some rfl
 | y::q,p,a=>by
  simp only[dZ]at a;have g1:(p++y::q).getD (p.length:Int).toNat []=y:=Ao _ _ _ _ _ (by simp);have hlen:(p++y::q).length=p.length+q.length+1:=by simp; omega
  by_cases he:(gi y 0).int=0
  ·have b := Kp q (p ++ [y]) (by simp; omega)
   have e:mv (y::q)=mv q:=by simp[mv,he]
   rw[e];refine dI.next (aa.toEq ?_) b
   unfold pt
   (dsimp +instances only[Aa,Ab,Ac,Ad,Ae,Af,Ag])
   simp only[g1,hlen,dZ]
   (repeat first|refine aa.p ?_|refine aa.n ?_)
   refine aa.some ?_;simp;omega
  ·refine dI.stop (x := 0) (aa.toEq ?_) ⟨by omega, rfl⟩
   unfold pt
   (dsimp +instances only[Aa,Ab,Ac,Ad,Ae,Af,Ag])
   simp only[g1,hlen,dZ]
   (repeat first|refine aa.p ?_|refine aa.n ?_)
   refine aa.some ?_;simp[mv,he]
def c_(v lo hi:Int):Bool:=aZ lo v&&aZ v hi
theorem VD(v lo hi:Int):sI [.i v,.i lo,.i hi]=some [.t (c_ v lo hi)]:=by
 unfold sI c_
 (dsimp +instances only[Aa,Ab,Ac,Ad,Ae,Af,Ag])
 cases aZ lo v<;>rfl
theorem pG(v lo hi:Int):jb [.i v,.i lo,.i hi]=some [.t (!c_ v lo hi)]:=by
 unfold jb c_
 (dsimp +instances only[Aa,Ab,Ac,Ad,Ae,Af,Ag])
 have h1:au v lo = !aZ lo v:=by rw[eu,dp,tq]; simp
 have a:au hi v = !aZ v hi:=by rw[eu,dp,tq]; simp
 rw[h1,a];cases aZ lo v<;>cases aZ v hi<;>rfl
structure Kq {α:Type} (c:α→α→Int):Prop where
 flip:∀ a b,c b a = - c a b
 eq:∀ a b,c a b=0→a=b
 tr:∀ a b d,c a b<0→c b d<0→c a d<0
theorem Kq.refl{α:Type}{c:α→α→Int}(h:Kq c)(a:α):c a a=0:=by
 have:=h.flip a a;omega
def cQ(a b:Int):Int:=if a≠0 then a else b
theorem VE{c:List G→List G→Int}(hf:∀ a b,c b a = - c a b)(g:∀ a b d,c a b≤0→c b d≤0→c a d≤0):fF (c5 c) (fun _=>True):=by
 have lt:∀ r s,c5 c r s=decide (c r s<0):=fun r s=>by unfold c5; rw[eu]
 refine⟨fun a b d _ _ _ h1 i=>?_,fun a b _ _ h=>?_⟩
 ·rw [lt, decide_eq_false_iff_not] at *
  have:=g d b a (by have:=hf d b; omega) (by have:=hf b a; omega);have:=hf a d;omega
 ·rw [lt, decide_eq_true_eq] at h
  rw[lt,decide_eq_false_iff_not];have:=hf a b;omega
/-! ### a b d checked row by row -/
def fw(step:Nat→Int):Nat→Int
 |0=>0
 |i+1=>if fw step i≠0 then fw step i else step i
theorem Cd{step:Nat→Int}{i:Nat}(h:fw step i≠0):∀ k,fw step (i+k)=fw step i
 |0=>rfl
 | k+1=>by
  have a:=Cd h k;show (if fw step (i+k)≠0 then fw step (i+k) else step (i+k))=fw step i
  rw[a,if_pos h]
theorem Kr{step:Nat→Int}:∀{n:Nat},fw step n=0→∀ i,i<n→step i=0
 |0,_,i,hi=>by omega
 | n+1,h,i,hi=>by
  have h0:fw step n=0:=by
   refine n4 fun a=>a ?_;have:=Cd a 1;rw[←this];exact h
  have h':(if fw step n≠0 then fw step n else step n)=0:=h;rw[if_neg (by simpa using h0)]at h';rcases Nat.lt_or_ge i n with b|d
  ·exact Kr h0 i b
  ·have : i = n := by omega
   rw[this];exact h'
theorem wS{st:List G→Option (Option Nat × List G)}(mk:Nat→List G)(n:Nat)(step:Nat→Int)(a:List G)(q:n<999999)
  (k:∀ i,i<n→aa (st (mk i)) fun o=>(step i=0∧o=(none,mk (i+1)))∨(step i≠0∧o=(some 0,[.i (step i)])))
  (l:aa (st (mk n)) fun o=>o=(some 1,a)) :
  gH st (mk 0) fun c g=>(c=1∧fw step n=0∧g=a)∨(c=0∧g=[.i (fw step n)]∧fw step n≠0):=by
 refine((rX (σ:=Unit) (fun _ i=>mk i) n (fun _=>(1,a)) (fun _ i=>fw step i=0) (fun c g=>c=0∧g=[.i (fw step n)]∧fw step n≠0) ?_ (fun _ _=>l) n () 0 (by omega) rfl).to (by omega)).mono ?_
 ·rintro _ i b hi
  refine(k i hi).mono ?_;rintro _ (⟨h0,rfl⟩|⟨h1,rfl⟩)
  ·refine .inl ⟨(), rfl, ?_⟩
   show (if fw step i≠0 then fw step i else step i)=0
   rw[if_neg (by simpa using b)];exact h0
  ·have e:fw step (i+1)=step i:=by
    show (if fw step i≠0 then fw step i else step i)=step i
    rw[if_neg (by simpa using b)]
   have d:fw step n=step i:=by
    have:=Cd (step:=step) (i:=i+1) (by rw[e]; exact h1) (n-(i+1));rw[show i+1+(n-(i+1))=n by omega,e]at this;exact this
   exact .inr ⟨0,_,rfl,rfl,by rw[d],by rw[d]; exact h1⟩
 ·rintro c g (⟨_, h, rfl, rfl⟩ | h)
  ·exact .inl ⟨rfl,h,rfl⟩
  ·exact .inr h
def VF:List ByteArray:=[⟨#[97,108,108]⟩,⟨#[99,111,100,101]⟩,⟨#[65]⟩]
def VG:List ByteArray:=[⟨#[]⟩,⟨#[107,112,50,48,108,102]⟩,⟨#[107,112,50,48]⟩]
def Ks(r:List G):Prop:=∃(c k:ByteArray) (p:Int) (q:ByteArray),r=[.s c,.s k,.i p,.s q]∧c∈calls∧k∈VF ∧ -1099511627776≤p∧p≤1099511627776∧q∈VG
theorem Ks.eta{r:List G}(h:Ks r):bM [.str,.str,.int .i64,.str] r=r:=by
 obtain⟨c,k,p,q,rfl,_⟩:=h;rfl
/-! ### d is b with a -/
def okW(a b:Int):Bool:=c_ a 0 b&&aZ b 345686400000
/-! ### a -/
structure XW (s:List (List G) × Int) (i:Nat):Prop where
 len:s.1.length≤i
 rows:∀ r∈s.1,∃ a b,r=[.i a,.i b]
 XX:0≤s.2
 XY:s.2≤345686400000
/-! ### a -/
structure XZ (s:List (List G)) (n i:Nat):Prop where
 len:s.length=n
 rows:∀ r∈s,∃ v,r=[.i v]∧0≤v∧v≤i
def X5(r:List G):Prop:=∃ a b,r=[.i a,.i b]
def wf(a b:Int):Int:=bif okW a b then 0 else 1
def eW(n:Int):Prop := -1099511627776≤n∧n≤1099511627776
theorem Kt(l:List (List G))(a lo hi:Int)(d:0≤a)(b:a≤1000000)(h0:lo≤hi)(h1 : -1000≤lo)(h:hi≤400000000000) :
  aa (sk [.l l,.i a,.i lo,.i hi]) fun g=>∃ v,g=[.l l,.i (a+1),.i v]∧lo≤v∧v≤hi:=by
 unfold sk
 (dsimp +instances only[Aa,Ab,Ac,Ad,Ae,Af,Ag])
 (repeat first|refine aa.p ?_|refine aa.n ?_)
 refine aa.call (sR l a _ d b (by omega) (by omega)) ?_;rintro _ ⟨v,rfl,k,q⟩
 (dsimp +instances only[Aa,Ab,Ac,Ad,Ae,Af,Ag])
 (repeat first|refine aa.p ?_|refine aa.n ?_)
 exact aa.some ⟨_,rfl,by omega,by omega⟩
theorem wT(l:List (List G))(a lo hi:Int)(q:0≤a)(t:a≤900000)(h0:lo≤hi)(h1 : -1000≤lo)(r:hi≤400000000000) :
  aa (nK [.l l,.i a,.i lo,.i hi]) fun g=>∃ v,g=[.l l,.i (a+2),.i v]∧eW v:=by
 unfold nK
 (dsimp +instances only[Aa,Ab,Ac,Ad,Ae,Af,Ag])
 have d:a+1+1=a+2:=by omega
 refine aa.call (wO l a 12 q (by omega) (by omega) (by omega)) ?_;rintro _ ⟨b,rfl⟩
 (dsimp +instances only[Aa,Ab,Ac,Ad,Ae,Af,Ag])
 cases b with
 | true =>
  (repeat first|refine aa.p ?_|refine aa.n ?_)
  refine aa.call (Kl eW l (a+1) _ (by omega) (by omega) (by simp) (by simp) ?_) ?_
  ·intro x h
   unfold eW;simp only[bN,n9,or_false]at h;rcases h with rfl|rfl|rfl|rfl|rfl|rfl<;>(dsimp +instances only[Aa,Ab,Ac,Ad,Ae,Af,Ag])<;>omega
  ·rintro _ ⟨v, rfl, k⟩
   (dsimp +instances only[Aa,Ab,Ac,Ad,Ae,Af,Ag])
   exact aa.some ⟨v,by rw[d],k⟩
 | false =>
  (repeat first|refine aa.p ?_|refine aa.n ?_)
  refine aa.call (Kt l (a+1) lo hi (by omega) (by omega) h0 h1 r) ?_;rintro _ ⟨v,rfl,k,u⟩
  (dsimp +instances only[Aa,Ab,Ac,Ad,Ae,Af,Ag])
  exact aa.some ⟨v,by rw[d],by omega,by omega⟩
def jc:List ByteArray:=[⟨#[102,117,108,108]⟩,⟨#[115,109,97,108,108]⟩,⟨#[]⟩,⟨#[65]⟩,⟨#[110,111,110,101]⟩]
def Mod(r:List G):Prop:=∃ m:Int,r=[.i m]∧0≤m∧m≤4
def eE(r:List G):Prop:=∃(c:ByteArray) (lo hi:Int) (ms:List (List G)) (f t:Int),r=[.s c,.i lo,.i hi,.l ms,.i f,.i t]∧c∈jc∧eW lo∧eW hi∧(∀ z∈ms,Mod z)∧ms.length≤4∧eW f∧eW t
theorem eE.eta{r:List G}(h:eE r):bM bg r=r:=by
 obtain⟨c,lo,hi,ms,f,t,rfl,_⟩:=h;rfl
theorem VH(l out cs:List (List G))(c u:ByteArray)(lo hi f t n j a:Int)(J:0≤a)(I:a≤1000) :
  gH pC [.l l,.i a,.l out,.s c,.i lo,.i hi,.i f,.i t,.l [],.s u,.i 1,.l cs,.i n,.i j] fun k g=>k=0∧∃ b ms,g=[.l l,.i b,.l out,.s c,.i lo,.i hi,.i f,.i t,.l ms,.s u,.l cs,.i n,.i j]∧a≤b∧b≤a+3∧(∀ z∈ms,Mod z)∧ms.length≤3:=by
 have r:=rX (st:=pC) (σ:=Int × List (List G)) (fun s i=>[.l l,.i s.1,.l out,.s c,.i lo,.i hi,.i f,.i t,.l s.2,.s u,.i ((i:Int)+1),.l cs,.i n,.i j]) 3
  (fun s=>(0,[.l l,.i s.1,.l out,.s c,.i lo,.i hi,.i f,.i t,.l s.2,.s u,.l cs,.i n,.i j])) (fun s i=>a≤s.1∧s.1≤a+(i:Int)∧(∀ z∈s.2,Mod z)∧s.2.length≤i) (fun _ _=>False)
  (fun s i ⟨v, s1, s2, w⟩ hi => by
   obtain⟨b,ms⟩:=s;simp only at v s1 s2 w;unfold pC
   (dsimp +instances only[Aa,Ab,Ac,Ad,Ae,Af,Ag])
   refine aa.p ?_;refine aa.call (wO l b 2 (by omega) (by omega) (by omega) (by omega)) ?_;rintro _ ⟨q,rfl⟩
   (dsimp +instances only[Aa,Ab,Ac,Ad,Ae,Af,Ag])
   cases q with
   | true =>
    (repeat first|refine aa.p ?_|refine aa.n ?_)
    refine aa.some (.inl ⟨(b+1,ms++[[.i ((i:Int)+1)]]),by simp,by simp only; omega,by simp only; omega,?_,by simp; omega⟩);intro z d;rcases bQ.1 d with d|d
    ·exact s2 z d
    ·rw [gL.1 d]
     exact⟨_,rfl,by omega,by omega⟩
   | false =>
    (repeat first|refine aa.p ?_|refine aa.n ?_)
    exact aa.some (.inl ⟨(b+1,ms),by simp,by simp only; omega,by simp only; omega,s2,by simp only; omega⟩))
  (fun s M => by
   unfold pC
   (dsimp +instances only[Aa,Ab,Ac,Ad,Ae,Af,Ag])
   (repeat first|refine aa.p ?_|refine aa.n ?_)
   exact aa.some rfl) 3 (a,[]) 0 (by omega) ⟨p6 _,by simp,by simp,by simp⟩
 refine(r.to (by omega)).mono ?_;rintro k g (⟨⟨b,ms⟩,⟨y,A,B,D⟩,rfl,rfl⟩|h)
 ·exact⟨rfl,b,ms,rfl,y,by simpa using A,B,D⟩
 ·exact h.elim
theorem VJ(l out cs:List (List G))(c B:ByteArray)(lo hi f t n j a:Int)(ms:List (List G))(X:0≤a)(Yc:a≤1000)(y:c∈jc)(M:B∈jc)(u:eW lo)(w:eW hi)(hf:eW f)(A:eW t)(hm:∀ z∈ms,Mod z)(hn:ms.length≤3)(ho:out.length≤100) :
  aa (sr [.l l,.i a,.l out,.s c,.i lo,.i hi,.i f,.i t,.l ms,.s B,.l cs,.i n,.i j]) fun o=>∃ x,o.1=some x∧x=0∧∃ b r,o.2=[.l l,.i b,.l (out++[r]),.l cs,.i n,.i j]∧a≤b∧b≤a+10∧eE r:=by
 unfold sr
 (dsimp +instances only[Aa,Ab,Ac,Ad,Ae,Af,Ag])
 refine aa.call (wO l a 50 X (by omega) (by omega) (by omega)) ?_;rintro _ ⟨q,rfl⟩
 (dsimp +instances only[Aa,Ab,Ac,Ad,Ae,Af,Ag])
 cases q with
 | false =>
  (repeat first|refine aa.p ?_|refine aa.n ?_)
  exact aa.some ⟨0,rfl,rfl,_,_,rfl,by omega,by omega,c,lo,hi,ms,f,t,rfl,y,u,w,hm,by omega,hf,A⟩
 | true =>
  refine aa.pos rfl ?_;refine aa.call (sR l _ 4 (by omega) (by omega) (by omega) (by omega)) ?_;rintro _ ⟨k,rfl,hk⟩
  (dsimp +instances only[Aa,Ab,Ac,Ad,Ae,Af,Ag])
  refine aa.test (fun h=>?_) fun _=>aa.test (fun h=>?_) fun _=>aa.test (fun h=>?_) fun _=>?_
  ·refine aa.call (VC (fun v => v ∈ jc) l _ [[.s B], [.s (⟨#[]⟩ : ByteArray)], [.s (⟨#[65]⟩ : ByteArray)]] (by omega) (by omega) (by simp) (by simp) ?_) ?_
   ·intro x D
    simp only[bN,n9,or_false]at D;rcases D with rfl|rfl|rfl
    ·exact M
    ·exact wP (by kernel_rfl)
    ·exact wP (by kernel_rfl)
   rintro _ ⟨d,rfl,Y⟩
   (dsimp +instances only[Aa,Ab,Ac,Ad,Ae,Af,Ag])
   refine aa.call (wT l _ 0 300 (by omega) (by omega) (by omega) (by omega) (by omega)) ?_;rintro _ ⟨N,rfl,I⟩
   (dsimp +instances only[Aa,Ab,Ac,Ad,Ae,Af,Ag])
   (repeat first|refine aa.p ?_|refine aa.n ?_)
   exact aa.some ⟨0,rfl,rfl,_,_,rfl,by omega,by omega,d,N,hi,ms,f,t,rfl,Y,I,w,hm,by omega,hf,A⟩
  ·refine aa.call (wT l _ 1 30000000000 (by omega) (by omega) (by omega) (by omega) (by omega)) ?_
   rintro _ ⟨O,rfl,J⟩
   (dsimp +instances only[Aa,Ab,Ac,Ad,Ae,Af,Ag])
   (repeat first|refine aa.p ?_|refine aa.n ?_)
   exact aa.some ⟨0,rfl,rfl,_,_,rfl,by omega,by omega,c,lo,O,ms,f,t,rfl,y,u,J,hm,by omega,hf,A⟩
  ·refine aa.call (sS 0 4 l _ _ (by omega) (by omega) (by kernel_rfl) (by kernel_rfl)) ?_
   rintro _ ⟨m,rfl,R,U⟩
   (dsimp +instances only[Aa,Ab,Ac,Ad,Ae,Af,Ag])
   (repeat first|refine aa.p ?_|refine aa.n ?_)
   refine aa.some ⟨0,rfl,rfl,_,_,rfl,by omega,by omega,c,lo,hi,ms++[[.i m]],f,t,rfl,y,u,w,?_,by simp; omega,hf,A⟩;intro z g;rcases bQ.1 g with g|g
   ·exact hm z g
   ·rw [gL.1 g]
    exact⟨_,rfl,R,U⟩
  ·refine aa.call (wT l _ 0 100 (by omega) (by omega) (by omega) (by omega) (by omega)) ?_
   rintro _ ⟨f',rfl,V⟩
   (dsimp +instances only[Aa,Ab,Ac,Ad,Ae,Af,Ag])
   refine aa.call (wT l _ 1 345686400000 (by omega) (by omega) (by omega) (by omega) (by omega)) ?_;rintro _ ⟨t',rfl,W⟩
   (dsimp +instances only[Aa,Ab,Ac,Ad,Ae,Af,Ag])
   (repeat first|refine aa.p ?_|refine aa.n ?_)
   exact aa.some ⟨0,rfl,rfl,_,_,rfl,by omega,by omega,c,lo,hi,ms,f',t',rfl,y,u,w,hm,by omega,V,W⟩
def lg:List (List G):=[[.s (⟨#[102,117,108,108]⟩:ByteArray)],[.s (⟨#[102,117,108,108]⟩:ByteArray)],[.s (⟨#[102,117,108,108]⟩:ByteArray)],[.s (⟨#[115,109,97,108,108]⟩:ByteArray)]]
theorem VK{x:List G}(h:x∈lg):∃ c,x=[.s c]∧c∈jc:=by
 simp only[lg,bN,n9,or_false]at h;rcases h with rfl|rfl|rfl|rfl<;>exact⟨_,rfl,wP (by kernel_rfl)⟩
/-! ### b d stream a -/
def lh:List Int→List Int→Int
 |x::xs,y::a=>cQ (cX x y) (lh xs a)
 |_,_=>0
theorem VL(xs a:List Int)(q:a.length=xs.length)(t:xs.length≤100):pA [.l (xs.map fun n=>[.i n]),.l (a.map fun n=>[.i n])]=some [.i (lh xs a)]:=by
 refine aa.toEq ?_;unfold pA
 (dsimp +instances only[Aa,Ab,Ac,Ad,Ae,Af,Ag])
 have r:=rX (st:=sm) (σ:=Unit) (fun _ i=>[.l (xs.map fun n=>[.i n]),.l (a.map fun n=>[.i n]),.l (xs.map fun n=>[.i n]),.i ((xs.map fun n=>[G.i n]).length:Int),.i (i:Int)]) xs.length
  (fun _=>(1,[.l (xs.map fun n=>[.i n]),.l (a.map fun n=>[.i n])])) (fun _ i=>lh (xs.drop i) (a.drop i)=lh xs a) (fun c g=>c=0∧g=[.i (lh xs a)])
  (fun _ i b hi => by
   have d:i<a.length:=by omega
   have ex:(xs.map fun n=>[G.i n]).getD i []=[.i (xs[i])]:=by simp[cD,hi]
   have k:(a.map fun n=>[G.i n]).getD i []=[.i (a[i])]:=by simp[cD,d]
   unfold sm
   (dsimp +instances only[Aa,Ab,Ac,Ad,Ae,Af,Ag])
   simp only[eL,ex,k,eY]
   (dsimp +instances only[Aa,Ab,Ac,Ad,Ae,Af,Ag])
   refine aa.p (aa.p (aa.n (aa.p ?_)));refine aa.cE (wR _ _) ?_
   (dsimp +instances only[Aa,Ab,Ac,Ad,Ae,Af,Ag])
   rw[Lf hi,Lf d]at b;have b:cQ (cX xs[i] a[i]) (lh (xs.drop (i+1)) (a.drop (i+1)))=lh xs a:=b;unfold cQ at b;by_cases e:cX xs[i] a[i]=0
   ·rw [if_neg (by simpa using e)] at b
    refine aa.neg (by simpa using e) (aa.p (aa.some (.inl ⟨(),?_,b⟩)));simp
   ·rw [if_pos e] at b
    exact aa.pos (by simpa using e) (aa.some (.inr ⟨0,_,rfl,rfl,by rw[b]⟩)))
  (fun _ b => by
   unfold sm
   (dsimp +instances only[Aa,Ab,Ac,Ad,Ae,Af,Ag])
   simp only[eY]
   (repeat first|refine aa.p ?_|refine aa.n ?_)
   exact aa.some rfl) xs.length () 0 (by omega) rfl
 refine aa.loop (r.to (by omega)) rfl ?_;rintro _ _ (⟨_,h,rfl,rfl⟩|⟨rfl,rfl⟩)
 ·(dsimp +instances only [Aa,Ab,Ac,Ad,Ae,Af,Ag])
  simp only[eY];refine aa.neg rfl (aa.n (aa.some ?_));have h:lh (xs.drop xs.length) (a.drop xs.length)=lh xs a:=h;rw[List.drop_length,List.drop_eq_nil_of_le (by omega)]at h;rw[←h];rfl
 ·(dsimp +instances only [Aa,Ab,Ac,Ad,Ae,Af,Ag])
  exact aa.pos rfl (aa.some rfl)
theorem Ku(a b c g k d:Int):pA [.l [[.i a],[.i b],[.i c]],.l [[.i g],[.i k],[.i d]]]=some [.i (cQ (cX a g) (cQ (cX b k) (cX c d)))]:=by
 refine(VL [a,b,c] [g,k,d] rfl (by simp)).trans ?_;have e:cQ (cX c d) 0=cX c d:=by
  unfold cQ;split
  ·rfl
  ·rename_i h
   have h:cX c d=0:=n4 fun h'=>h h';rw[h]
 show some [G.i (cQ (cX a g) (cQ (cX b k) (cQ (cX c d) 0)))]=_
 rw[e]
def wU(r s:List G):Int:=(gi ((pB [.l [r],.l [s]]).getD []) 0).int
theorem VM(r s:List G):aa (pB [.l [r],.l [s]]) fun g=>∃ v,g=[.i v]:=by
 unfold pB
 (dsimp +instances only[Aa,Ab,Ac,Ad,Ae,Af,Ag])
 refine aa.test (fun _=>aa.test (fun _=>aa.some ⟨_,rfl⟩) fun _=>aa.some ⟨_,rfl⟩) fun _=>?_;refine aa.cE (Ku _ _ _ _ _ _) ?_;exact aa.some ⟨_,rfl⟩
theorem VN:pq bg pB eE wU:=⟨fun r s _ _=>by
 obtain⟨g,h,v,rfl⟩:=VM r s;unfold wU;rw[h];rfl,fun _ h=>h.eta⟩
theorem VO(rows:List (List G))(hr:∀ y∈rows,eE y)(a:rows.length≤20):wx [.l rows]=some [.l (h_ (c5 wU) rows)]:=Qr VN rows hr a
theorem VP(l:List (List G))(a:Int)(I:0≤a)(V:a≤100) :
  aa (wy [.l l,.i a]) fun g=>∃ b rows,g=[.l l,.i b,.l rows]∧0≤b∧b≤300∧(∀ z∈rows,eE z)∧rows.length≤4:=by
 have q:lg.length=4:=rfl;unfold wy
 (dsimp +instances only[Aa,Ab,Ac,Ad,Ae,Af,Ag])
 have r:=Am (st:=su) (σ:=Int × List (List G)) (fun s i=>[.l l,.i s.1,.l s.2,.l lg,.i 4,.i (i:Int)]) lg (fun s=>(0,[.l l,.i s.1,.l s.2]))
  (fun s i=>0≤s.1∧s.1≤a+30*(i:Int)∧(∀ z∈s.2,eE z)∧s.2.length≤i) (a,[]) (by rw[q]; omega) ⟨I,by simp,by simp,by simp⟩
  (fun s i x ⟨J, s1, s2, M⟩ hi N hm ht => by
   obtain⟨b,ac⟩:=s;simp only at J s1 s2 M;have W:i<4:=hi;obtain⟨c,rfl,w⟩:=VK hm;unfold su
   (dsimp +instances only[Aa,Ab,Ac,Ad,Ae,Af,Ag])
   simp only[eL,N,q]
   (dsimp +instances only[Aa,Ab,Ac,Ad,Ae,Af,Ag])
   refine aa.p (aa.p ?_);refine aa.call (wO l b 5 (by omega) (by omega) (by omega) (by omega)) ?_;rintro _ ⟨f,rfl⟩
   (dsimp +instances only[Aa,Ab,Ac,Ad,Ae,Af,Ag])
   cases f with
   | true =>
    (repeat first|refine aa.p ?_|refine aa.n ?_)
    exact aa.some ⟨(b+1,ac),by simp,by simp only; omega,by simp only; omega,s2,by simp only; omega⟩
   | false =>
    refine aa.neg rfl ?_;refine aa.call (sS 0 200 l _ _ (by omega) (by omega) (by kernel_rfl) (by kernel_rfl)) ?_;rintro _ ⟨lo,rfl,R,U⟩
    (dsimp +instances only[Aa,Ab,Ac,Ad,Ae,Af,Ag])
    refine aa.call (sS 0 50 l _ _ (by omega) (by omega) (by kernel_rfl) (by kernel_rfl)) ?_;rintro _ ⟨fr,rfl,X,Y⟩
    (dsimp +instances only[Aa,Ab,Ac,Ad,Ae,Af,Ag])
    refine aa.call (sS 0 100 l _ _ (by omega) (by omega) (by kernel_rfl) (by kernel_rfl)) ?_;rintro _ ⟨wd,rfl,Yc,Yd⟩
    (dsimp +instances only[Aa,Ab,Ac,Ad,Ae,Af,Ag])
    refine aa.p ?_;refine aa.call (sS 0 1000 l _ _ (by omega) (by omega) (by kernel_rfl) (by kernel_rfl)) ?_;rintro _ ⟨y,rfl,Ye,Yf⟩
    (dsimp +instances only[Aa,Ab,Ac,Ad,Ae,Af,Ag])
    refine aa.p ?_;refine aa.loop (VH l ac lg c c lo (lo+wd) fr (fr+y) 4 i _ (by omega) (by omega)) (by simp) ?_;rintro _ _ ⟨rfl,k,ms,rfl,A,v,t,u⟩
    (dsimp +instances only[Aa,Ab,Ac,Ad,Ae,Af,Ag])
    have fin:∀ ms':List (List G),(∀ z∈ms',Mod z)→ms'.length≤3→_:=fun ms' B D=>VJ l ac lg c c lo (lo+wd) fr (fr+y) 4 i k ms' (by omega) (by omega) w w ⟨by omega,by omega⟩ ⟨by omega,by omega⟩ ⟨by omega,by omega⟩ ⟨by omega,by omega⟩ B D (by omega);refine aa.test (fun _=>?_) fun _=>?_
    ·refine aa.tail (P:=fun x g=>x=0∧∃ h r,g=[.l l,.i h,.l (ac++[r]),.l lg,.i 4,.i (i:Int)]∧k≤h∧h≤k+10∧eE r) (fin [[.i 1]] (by
      intro z d;rw[gL.1 d];exact⟨1,rfl,by omega,by omega⟩) (by simp)) (by simp) ?_
     rintro _ _ ⟨rfl,h,r,rfl,g1,g2,g3⟩
     (dsimp +instances only[Aa,Ab,Ac,Ad,Ae,Af,Ag])
     (repeat first|refine aa.p ?_|refine aa.n ?_)
     refine aa.some ⟨(h,ac++[r]),by simp,by simp only; omega,by simp only; omega,?_,by simp; omega⟩;intro z d;rcases bQ.1 d with d|d
     ·exact s2 z d
     ·rw [gL.1 d]
      exact g3
    ·refine aa.tail (P := fun x g => x = 0 ∧ ∃ h r, g = [.l l, .i h, .l (ac ++ [r]), .l lg, .i 4, .i (i : Int)] ∧ k ≤ h ∧ h ≤ k + 10 ∧ eE r) (fin ms t u) (by simp) ?_
     rintro _ _ ⟨rfl,h,r,rfl,g1,g2,g3⟩
     (dsimp +instances only[Aa,Ab,Ac,Ad,Ae,Af,Ag])
     (repeat first|refine aa.p ?_|refine aa.n ?_)
     refine aa.some ⟨(h,ac++[r]),by simp,by simp only; omega,by simp only; omega,?_,by simp; omega⟩;intro z d;rcases bQ.1 d with d|d
     ·exact s2 z d
     ·rw [gL.1 d]
      exact g3)
  (fun s hI => by
   unfold su
   (dsimp +instances only[Aa,Ab,Ac,Ad,Ae,Af,Ag])
   simp only[q]
   (repeat first|refine aa.p ?_|refine aa.n ?_)
   exact aa.some rfl)
 refine aa.loop r rfl ?_;rintro _ _ ⟨⟨b,ac⟩,⟨A,v,t,u⟩,rfl,rfl⟩;rw[q]at v u;simp only at v u
 (dsimp +instances only[Aa,Ab,Ac,Ad,Ae,Af,Ag])
 refine aa.nE (aa.eq (VO ac t (by omega))) (by(first|rfl|assumption|(simp only[ar,sl]<;>omega))) ?_;rintro _ rfl
 (dsimp +instances only[Aa,Ab,Ac,Ad,Ae,Af,Ag])
 have O:=GU (c5 wU) ac;refine aa.pos (by rw[O]; (first|rfl|assumption|(simp only[ar,sl]<;>omega))) (aa.some ⟨b,_,rfl,A,by omega,Qn t,by omega⟩)
def iI(s:ByteArray):Bool:=Km [⟨#[102,117,108,108]⟩,⟨#[115,109,97,108,108]⟩,⟨#[110,111,110,101]⟩] s
theorem Ce{s:ByteArray}(h:s∈jc):la [.s s]=some [.t (iI s)]:=by
 simp only[jc,bN,n9,or_false]at h;rcases h with rfl|rfl|rfl|rfl|rfl<;>kernel_rfl
theorem VQ{s:ByteArray}(h:s∈jc):BV [.s s]=some [.t (iI s)]:=by
 simp only[jc,bN,n9,or_false]at h;rcases h with rfl|rfl|rfl|rfl|rfl<;>kernel_rfl
theorem Kv(t:Int):pr [.i t]=some [.t (c_ t 0 345686399999)]:=by
 unfold pr
 (dsimp +instances only[Aa,Ab,Ac,Ad,Ae,Af,Ag])
 rw[pG];show some [G.t (!(!c_ t 0 345686399999))]=_
 rw[XF]
theorem Cf(t:Int):nI [.i t]=some [.t (c_ t 1 3)]:=by
 unfold nI
 (dsimp +instances only[Aa,Ab,Ac,Ad,Ae,Af,Ag])
 rw[pG];show some [G.t (!(!c_ t 1 3))]=_
 rw[XF]
def jd(f t:Int):Bool:=c_ f 0 (t-1)&&aZ t 345686400000
theorem jL{v lo hi:Int}:c_ v lo hi=true↔lo≤v∧v≤hi:=by
 unfold c_;rw[dp,dp,aq,decide_eq_true_eq,decide_eq_true_eq]
theorem Kw{f t:Int}:jd f t=true↔0≤f∧f<t∧t≤345686400000:=by
 unfold jd;rw[dp,aq,jL,decide_eq_true_eq];omega
theorem VR(f t:Int)(a:eW t):wA [.l [[.i f,.i t]]]=some [.t (jd f t)]:=by
 unfold eW at a;refine aa.toEq ?_;unfold wA jd
 (dsimp +instances only[Aa,Ab,Ac,Ad,Ae,Af,Ag])
 refine aa.p ?_;refine aa.cE (pG _ _ _) ?_
 (dsimp +instances only[Aa,Ab,Ac,Ad,Ae,Af,Ag])
 cases c_ f 0 (t-1)with
 |true=>exact aa.pos rfl (aa.some rfl)
 |false=>exact aa.neg rfl (aa.some rfl)
theorem VS(f t:Int):wF [.l [[.i f,.i t]]]=some [.i (bif jd f t then 0 else 1)]:=by
 refine aa.toEq ?_;unfold wF
 (dsimp +instances only[Aa,Ab,Ac,Ad,Ae,Af,Ag])
 cases h:jd f t with
 | true =>
  obtain⟨h1,a,b⟩:=Kw.1 h;exact aa.n (aa.n (aa.n (aa.some rfl)))
 | false =>
  refine aa.test (fun _=>aa.some rfl) fun h1=>aa.test (fun _=>aa.some rfl) fun a=>aa.test (fun _=>aa.some rfl) fun b=>?_;rw[eu,decide_eq_false_iff_not]at h1 b;rw[dp,decide_eq_false_iff_not]at a;rw[Kw.2 ⟨by omega,by omega,by omega⟩]at h;cases h
def lj(ms:List (List G))(i:Nat):Int :=
 if c_ (gi (ms.getD i []) 0).int 1 3=false then 4 else if 0<i∧(gi (ms.getD i []) 0).int≤(gi (ms.getD (i-1) []) 0).int then 7 else 0
def iJ(ms:List (List G)):Int:=if ms.length=0 then 8 else fw (lj ms) ms.length
theorem VT(ms:List (List G))(d:ms.length≤100):wz [.l ms]=some [.i (iJ ms)]:=by
 refine aa.toEq ?_;unfold wz iJ
 (dsimp +instances only[Aa,Ab,Ac,Ad,Ae,Af,Ag])
 by_cases h0:ms.length=0
 ·refine aa.p ?_
  rw[if_pos h0];exact aa.some rfl
 ·refine aa.n ?_
  rw[if_neg h0];refine aa.loop (wS (st:=sv) (fun i=>[.l ms,.l ms,.i (ms.length:Int),.i (i:Int)]) ms.length (lj ms) [] (by omega) (fun i hi=>?_) ?_) rfl ?_
  ·unfold sv lj
   (dsimp +instances only[Aa,Ab,Ac,Ad,Ae,Af,Ag])
   simp only[eL];refine aa.p (aa.p ?_);refine aa.cE (Cf _) ?_
   (dsimp +instances only[Aa,Ab,Ac,Ad,Ae,Af,Ag])
   cases g:c_ (gi (ms.getD i []) 0).int 1 3 with
   | false =>
    refine aa.pos rfl (aa.some (.inr ?_));rw[if_pos rfl];exact⟨by omega,rfl⟩
   | true =>
    refine aa.neg rfl ?_;rw[if_neg (by simp)];by_cases a:0<i
    ·have b : ((i : Int) - 1).toNat = i - 1 := by omega
     simp only[b];refine aa.p (aa.p (aa.p ?_));by_cases hle:(gi (ms.getD i []) 0).int≤(gi (ms.getD (i-1) []) 0).int
     ·refine aa.p (aa.some (.inr ?_))
      rw[if_pos ⟨a,hle⟩];exact⟨by omega,rfl⟩
     ·refine aa.n (aa.p (aa.some (.inl ?_)))
      rw[if_neg fun h=>hle h.2];exact⟨rfl,rfl⟩
    ·refine aa.n (aa.p (aa.some (.inl ?_)))
     rw[if_neg fun h=>a h.1];exact⟨rfl,rfl⟩
  ·unfold sv
   (dsimp +instances only[Aa,Ab,Ac,Ad,Ae,Af,Ag])
   (repeat first|refine aa.p ?_|refine aa.n ?_)
   exact aa.some rfl
  ·rintro _ _ (⟨rfl, h, rfl⟩ | ⟨rfl, rfl, _⟩)
   ·rw [h]
    exact aa.neg rfl (aa.some rfl)
   ·exact aa.pos rfl (aa.some rfl)
def nM(r s:List G):Int:=cQ (kg (gi r 0).str (gi s 0).str) (cQ (cX (gi r 1).int (gi s 1).int) (cQ (cX (gi r 2).int (gi s 2).int) (cX (gi r 4).int (gi s 4).int)))
def mw(lo hi:Int):Bool:=aZ 0 lo&&au lo hi&&aZ hi 30000000000
theorem sT{lo hi:Int}:mw lo hi=true↔0≤lo∧lo<hi∧hi≤30000000000:=by
 unfold mw;rw[dp,eu,dp,aq,aq,decide_eq_true_eq,decide_eq_true_eq,decide_eq_true_eq,and_assoc]
def jM(x:List G):Int :=
 if iI (gi x 0).str=false then 5 else if mw (gi x 1).int (gi x 2).int=false then 1 else if iJ (gi x 3).rows≠0 then iJ (gi x 3).rows else if jd (gi x 4).int (gi x 5).int=false then 1 else 0
def iK(rows:List (List G))(i:Nat):Int :=
 if jM (rows.getD i [])≠0 then jM (rows.getD i []) else if 0<i∧0≤nM (rows.getD (i-1) []) (rows.getD i []) then 7 else 0
def eX(rows:List (List G)):Int:=if 500<rows.length then 2 else fw (iK rows) rows.length
theorem VU(a b c d:Int):mq [.l [[.i a],[.i b],[.i c],[.i d]]]=some [.i (cQ a (cQ b (cQ c d)))]:=by
 refine aa.toEq ?_;unfold mq
 (dsimp +instances only[Aa,Ab,Ac,Ad,Ae,Af,Ag])
 have h:=Kp [[.i a],[.i b],[.i c],[.i d]] [] (by simp);refine aa.loop (h.to (by simp)) (by(first|rfl|assumption|(simp only[ar,sl]<;>omega))) ?_;rintro x g ⟨u,rfl⟩;have q:mv [[.i a],[.i b],[.i c],[.i d]]=cQ a (cQ b (cQ c d)):=by
  simp only[mv,cQ]
  (dsimp +instances only[Aa,Ab,Ac,Ad,Ae,Af,Ag])
  by_cases h1:a=0<;>by_cases k:b=0<;>by_cases r:c=0<;>by_cases t:d=0<;>simp[h1,k,r,t]
 rw[q]
 (dsimp +instances only[Aa,Ab,Ac,Ad,Ae,Af,Ag])
 exact aa.test (fun _=>aa.some rfl) fun _=>aa.some rfl
theorem VV(r s:List G):wB [.l [r],.l [s]]=some [.i (nM r s)]:=by
 refine aa.toEq ?_;unfold wB nM
 (dsimp +instances only[Aa,Ab,Ac,Ad,Ae,Af,Ag])
 refine aa.cE (rfl:iH [.s (gi r 0).str,.s (gi s 0).str]=some [.i (kg (gi r 0).str (gi s 0).str)]) ?_;refine aa.cE (wR _ _) ?_;refine aa.cE (wR _ _) ?_;refine aa.cE (wR _ _) ?_
 (dsimp +instances only[Aa,Ab,Ac,Ad,Ae,Af,Ag])
 refine aa.cE (VU _ _ _ _) ?_;exact aa.some rfl
theorem Kx{rows:List (List G)}{i:Nat}(h:jM (rows.getD i [])=0):iK rows i=if 0<i∧0≤nM (rows.getD (i-1) []) (rows.getD i []) then 7 else 0:=by
 unfold iK;rw[if_neg (by simpa using h)]
theorem kl{rows:List (List G)}{i:Nat}(h:jM (rows.getD i [])≠0):iK rows i=jM (rows.getD i []):=by
 unfold iK;rw[if_pos h]
theorem VW(rows:List (List G))(hr:∀ z∈rows,eE z)(N:rows.length≤500)(i:Nat)(hi:i<rows.length) :
  aa (sw [.l rows,.l rows,.i (rows.length:Int),.i (i:Int)]) fun o=>(iK rows i=0∧o=(none,[.l rows,.l rows,.i (rows.length:Int),.i ((i+1:Nat):Int)]))∨(iK rows i≠0∧o=(some 0,[.i (iK rows i)])):=by
 obtain⟨c,lo,g,ms,f,t,d,y,J,v,hm,M,hf,A⟩:=hr _ (k_ hi);have B:eE (rows.getD i []):=hr _ (k_ hi);unfold sw
 (dsimp +instances only[Aa,Ab,Ac,Ad,Ae,Af,Ag])
 simp only[eL,B.eta];have f0:(gi (rows.getD i []) 0).str=c:=by rw[d]; rfl
 have f1:(gi (rows.getD i []) 1).int=lo:=by rw[d]; rfl
 have f2:(gi (rows.getD i []) 2).int=g:=by rw[d]; rfl
 have f3:(gi (rows.getD i []) 3).rows=ms:=by rw[d]; rfl
 have f4:(gi (rows.getD i []) 4).int=f:=by rw[d]; rfl
 have f5:(gi (rows.getD i []) 5).int=t:=by rw[d]; rfl
 have a:jM (rows.getD i [])=if iI c=false then 5 else if mw lo g=false then 1 else if iJ ms≠0 then iJ ms else if jd f t=false then 1 else 0:=by
  unfold jM;rw[f0,f1,f2,f3,f4,f5]
 simp only[f0,f1,f2,f3,f4,f5];have u:=v;unfold eW at u;refine aa.p (aa.p ?_);refine aa.cE (Ce y) ?_
 (dsimp +instances only[Aa,Ab,Ac,Ad,Ae,Af,Ag])
 cases h0:iI c with
 | false =>
  rw[h0,if_pos rfl]at a;rw[kl (by rw[a]; omega),a];exact aa.pos rfl (aa.some (.inr ⟨by omega,rfl⟩))
 |true =>
 rw[h0,if_neg (by simp)]at a;refine aa.neg rfl (aa.p ?_);refine aa.cE (pG _ _ _) ?_
 (dsimp +instances only[Aa,Ab,Ac,Ad,Ae,Af,Ag])
 cases h1:mw lo g with
 | false =>
  rw[h1,if_pos rfl]at a;rw[kl (by rw[a]; omega),a];refine aa.test (fun _=>aa.some (.inr ⟨by omega,rfl⟩)) fun b=>?_;refine aa.pos ?_ (aa.some (.inr ⟨by omega,rfl⟩));have b:c_ lo 0 (g-1)=true:=by simpa using b
  rw[eu,decide_eq_true_eq];refine Int.not_le.1 fun hle=>?_;obtain⟨g1,g2⟩:=jL.1 b;rw[sT.2 ⟨g1,by omega,hle⟩]at h1;cases h1
 |true =>
 rw[h1,if_neg (by simp)]at a;obtain⟨g1,g2,g3⟩:=sT.1 h1;have w:c_ lo 0 (g-1)=true:=jL.2 ⟨g1,by omega⟩;rw[w];refine aa.neg rfl (aa.n ?_);refine aa.cE (VT ms (by omega)) ?_
 (dsimp +instances only[Aa,Ab,Ac,Ad,Ae,Af,Ag])
 by_cases b:iJ ms=0
 rotate_left
 ·rw [if_pos b] at a
  rw[kl (by rw[a]; exact b),a];exact aa.pos (by simpa using b) (aa.some (.inr ⟨b,rfl⟩))
 rw[if_neg (by simpa using b)]at a;refine aa.neg (by simpa using b) ?_;refine aa.cE (VR f t A) ?_
 (dsimp +instances only[Aa,Ab,Ac,Ad,Ae,Af,Ag])
 cases q:jd f t with
 | false =>
  rw[q,if_pos rfl]at a;rw[kl (by rw[a]; omega),a];exact aa.pos rfl (aa.some (.inr ⟨by omega,rfl⟩))
 |true =>
 rw[q,if_neg (by simp)]at a;refine aa.neg rfl ?_;rw[Kx a];by_cases k:0<i
 ·have D : ((i : Int) - 1).toNat = i - 1 := by omega
  have I:eE (rows.getD (i-1) []):=hr _ (k_ (by omega));simp only[D,I.eta];refine aa.p (aa.p (aa.p ?_));refine aa.cE (VV _ _) ?_
  (dsimp +instances only[Aa,Ab,Ac,Ad,Ae,Af,Ag])
  by_cases r:0≤nM (rows.getD (i-1) []) (rows.getD i [])
  ·rw [if_pos ⟨k, r⟩]
   exact aa.p (aa.some (.inr ⟨by omega,rfl⟩))
  ·rw [if_neg fun h => r h.2]
   exact aa.n (aa.p (aa.some (.inl ⟨rfl,rfl⟩)))
 ·rw [if_neg fun h => k h.1]
  exact aa.n (aa.p (aa.some (.inl ⟨rfl,rfl⟩)))
theorem Ky(rows:List (List G))(hr:∀ z∈rows,eE z):sx [.l rows]=some [.i (eX rows)]:=by
 refine aa.toEq ?_;unfold sx eX
 (dsimp +instances only[Aa,Ab,Ac,Ad,Ae,Af,Ag])
 by_cases a:500<rows.length
 ·refine aa.p ?_
  rw[if_pos a];exact aa.some rfl
 ·refine aa.n ?_
  rw[if_neg a];refine aa.loop (wS (fun i=>[.l rows,.l rows,.i (rows.length:Int),.i (i:Int)]) rows.length (iK rows) [] (by omega) (VW rows hr (by omega)) ?_) rfl ?_
  ·unfold sw
   (dsimp +instances only[Aa,Ab,Ac,Ad,Ae,Af,Ag])
   (repeat first|refine aa.p ?_|refine aa.n ?_)
   exact aa.some rfl
  ·rintro _ _ (⟨rfl, h, rfl⟩ | ⟨rfl, rfl, _⟩)
   ·rw [h]
    exact aa.some rfl
   ·exact aa.some rfl
theorem VX(ms:List (List G))(u:ms.length≤100)(c:ByteArray)(lo b f t i n d:Int)(rows a:List (List G)) :
  gH pE [.s c,.i lo,.i b,.l ms,.i f,.i t,.l rows,.i i,.l a,.i n,.i d,.l ms,.i (ms.length:Int),.i 0] fun k g =>
   (k=1∧fw (lj ms) ms.length=0∧g=[.s c,.i lo,.i b,.l ms,.i f,.i t,.l rows,.i i,.l a,.i n,.i d])∨(k=0∧g=[.i (fw (lj ms) ms.length)]∧fw (lj ms) ms.length≠0):=by
 refine wS (st:=pE) (fun j=>[.s c,.i lo,.i b,.l ms,.i f,.i t,.l rows,.i i,.l a,.i n,.i d,.l ms,.i (ms.length:Int),.i (j:Int)]) ms.length (lj ms) _ (by omega) (fun j hi=>?_) ?_
 ·unfold pE lj
  (dsimp +instances only[Aa,Ab,Ac,Ad,Ae,Af,Ag])
  simp only[eL];refine aa.p (aa.p ?_);refine aa.cE (VD _ _ _) ?_
  (dsimp +instances only[Aa,Ab,Ac,Ad,Ae,Af,Ag])
  cases v:c_ (gi (ms.getD j []) 0).int 1 3 with
  | false =>
   refine aa.pos rfl (aa.some (.inr ?_));rw[if_pos rfl];exact⟨by omega,rfl⟩
  | true =>
   refine aa.neg rfl ?_;rw[if_neg (by simp)];by_cases q:0<j
   ·have r : ((j : Int) - 1).toNat = j - 1 := by omega
    simp only[r];refine aa.p (aa.p (aa.p ?_));by_cases hle:(gi (ms.getD j []) 0).int≤(gi (ms.getD (j-1) []) 0).int
    ·refine aa.p (aa.some (.inr ?_))
     rw[if_pos ⟨q,hle⟩];exact⟨by omega,rfl⟩
    ·refine aa.n (aa.p (aa.some (.inl ?_)))
     rw[if_neg fun h=>hle h.2];exact⟨rfl,rfl⟩
   ·refine aa.n (aa.p (aa.some (.inl ?_)))
    rw[if_neg fun h=>q h.1];exact⟨rfl,rfl⟩
 ·unfold pE
  (dsimp +instances only[Aa,Ab,Ac,Ad,Ae,Af,Ag])
  (repeat first|refine aa.p ?_|refine aa.n ?_)
  exact aa.some rfl
theorem VY(rows:List (List G))(hr:∀ z∈rows,eE z)(X:rows.length≤500)(i:Nat)(hi:i<rows.length) :
  aa (sJ [.l rows,.l rows,.i (rows.length:Int),.i (i:Int)]) fun o=>(iK rows i=0∧o=(none,[.l rows,.l rows,.i (rows.length:Int),.i ((i+1:Nat):Int)]))∨(iK rows i≠0∧o=(some 0,[.i (iK rows i)])):=by
 obtain⟨c,lo,b,ms,f,t,g,M,U,V,hm,W,hf,Y⟩:=hr _ (k_ hi);have hC:eE (rows.getD i []):=hr _ (k_ hi);unfold sJ
 (dsimp +instances only[Aa,Ab,Ac,Ad,Ae,Af,Ag])
 simp only[eL];have f0:(gi (rows.getD i []) 0).str=c:=by rw[g]; rfl
 have f1:(gi (rows.getD i []) 1).int=lo:=by rw[g]; rfl
 have f2:(gi (rows.getD i []) 2).int=b:=by rw[g]; rfl
 have f3:(gi (rows.getD i []) 3).rows=ms:=by rw[g]; rfl
 have f4:(gi (rows.getD i []) 4).int=f:=by rw[g]; rfl
 have f5:(gi (rows.getD i []) 5).int=t:=by rw[g]; rfl
 have a:jM (rows.getD i [])=if iI c=false then 5 else if mw lo b=false then 1 else if iJ ms≠0 then iJ ms else if jd f t=false then 1 else 0:=by
  unfold jM;rw[f0,f1,f2,f3,f4,f5]
 simp only[f0,f1,f2,f3,f4,f5];refine aa.p (aa.p ?_);refine aa.cE (VQ M) ?_
 (dsimp +instances only[Aa,Ab,Ac,Ad,Ae,Af,Ag])
 cases h0:iI c with
 | false =>
  rw[h0,if_pos rfl]at a;rw[kl (by rw[a]; omega),a];exact aa.pos rfl (aa.some (.inr ⟨by omega,rfl⟩))
 |true =>
 rw[h0,if_neg (by simp)]at a;refine aa.neg rfl ?_;cases h1:mw lo b with
 | false =>
  rw[h1,if_pos rfl]at a;rw[kl (by rw[a]; omega),a];refine aa.test (fun _=>aa.some (.inr ⟨by omega,rfl⟩)) fun k=>aa.test (fun _=>aa.some (.inr ⟨by omega,rfl⟩)) fun y=>aa.test (fun _=>aa.some (.inr ⟨by omega,rfl⟩)) fun N=>?_;rw[eu,decide_eq_false_iff_not]at k N;rw[dp,decide_eq_false_iff_not]at y;rw[sT.2 ⟨by omega,by omega,by omega⟩]at h1;cases h1
 |true =>
 rw[h1,if_neg (by simp)]at a;obtain⟨g1,g2,g3⟩:=sT.1 h1;refine aa.n (aa.n (aa.n ?_));by_cases I:ms.length=0
 ·have A:iJ ms=8:=by
   unfold iJ;rw[if_pos I]
  rw[A,if_pos (by omega)]at a;rw[kl (by rw[a]; omega),a];exact aa.p (aa.some (.inr ⟨by omega,rfl⟩))
 have A:iJ ms=fw (lj ms) ms.length:=by
  unfold iJ;rw[if_neg I]
 refine aa.n ?_;refine aa.loop (VX ms (by omega) c lo b f t i rows.length i rows rows) (by simp) ?_;rintro _ _ (⟨rfl,k,rfl⟩|⟨rfl,rfl,k⟩)
 rotate_left
 ·rw [A, if_pos k] at a
  rw[kl (by rw[a]; exact k),a];exact aa.pos rfl (aa.some (.inr ⟨k,rfl⟩))
 rw[A,if_neg (by simpa using k)]at a
 (dsimp +instances only[Aa,Ab,Ac,Ad,Ae,Af,Ag])
 refine aa.neg rfl ?_;refine aa.cE (VS f t) ?_
 (dsimp +instances only[Aa,Ab,Ac,Ad,Ae,Af,Ag])
 cases y:jd f t with
 | false =>
  rw[y,if_pos rfl]at a;rw[kl (by rw[a]; omega),a];exact aa.pos rfl (aa.some (.inr ⟨by omega,rfl⟩))
 |true =>
 rw[y,if_neg (by simp)]at a;refine aa.neg rfl ?_;rw[Kx a];by_cases B:0<i
 ·have O : ((i : Int) - 1).toNat = i - 1 := by omega
  obtain⟨d,q,r,ms',u,t',J,_⟩:=hr _ (k_ (show i-1<rows.length by omega));have R:nM (rows.getD (i-1) []) (rows.getD i [])=cQ (kg d c) (cQ (cX q lo) (cQ (cX r b) (cX u f))):=by
   unfold nM;rw[J,g];rfl
  rw[R];simp only[O,J];refine aa.p (aa.p (aa.p ?_))
  (dsimp +instances only[Aa,Ab,Ac,Ad,Ae,Af,Ag])
  refine aa.cE (rfl:iH [.s d,.s c]=some [.i (kg d c)]) ?_
  (dsimp +instances only[Aa,Ab,Ac,Ad,Ae,Af,Ag])
  by_cases w:kg d c=0
  ·have D:cQ (kg d c) (cQ (cX q lo) (cQ (cX r b) (cX u f)))=cQ (cX q lo) (cQ (cX r b) (cX u f)):=by
    rw[w];rfl
   rw[D];refine aa.pos (by simpa using w) ?_;refine aa.cE (Ku _ _ _ _ _ _) ?_
   (dsimp +instances only[Aa,Ab,Ac,Ad,Ae,Af,Ag])
   by_cases v:0≤cQ (cX q lo) (cQ (cX r b) (cX u f))
   ·rw [if_pos ⟨B, v⟩]
    exact aa.p (aa.some (.inr ⟨by omega,rfl⟩))
   ·rw [if_neg fun h => v h.2]
    exact aa.n (aa.p (aa.some (.inl ⟨rfl,rfl⟩)))
  ·have D:cQ (kg d c) (cQ (cX q lo) (cQ (cX r b) (cX u f)))=kg d c:=by
    unfold cQ;rw[if_pos w]
   rw[D];refine aa.neg (by simpa using w) ?_;by_cases v:0≤kg d c
   ·rw [if_pos ⟨B, v⟩]
    exact aa.p (aa.some (.inr ⟨by omega,rfl⟩))
   ·rw [if_neg fun h => v h.2]
    exact aa.n (aa.p (aa.some (.inl ⟨rfl,rfl⟩)))
 ·rw [if_neg fun h => B h.1]
  exact aa.n (aa.p (aa.some (.inl ⟨rfl,rfl⟩)))
theorem VZ(rows:List (List G))(hr:∀ z∈rows,eE z):wH [.l rows]=some [.i (eX rows)]:=by
 refine aa.toEq ?_;unfold wH eX
 (dsimp +instances only[Aa,Ab,Ac,Ad,Ae,Af,Ag])
 by_cases a:500<rows.length
 ·refine aa.p ?_
  rw[if_pos a];exact aa.some rfl
 ·refine aa.n ?_
  rw[if_neg a];refine aa.loop (wS (fun i=>[.l rows,.l rows,.i (rows.length:Int),.i (i:Int)]) rows.length (iK rows) [] (by omega) (VY rows hr (by omega)) ?_) rfl ?_
  ·unfold sJ
   (dsimp +instances only[Aa,Ab,Ac,Ad,Ae,Af,Ag])
   (repeat first|refine aa.p ?_|refine aa.n ?_)
   exact aa.some rfl
  ·rintro _ _ (⟨rfl, h, rfl⟩ | ⟨rfl, rfl, _⟩)
   ·rw [h]
    exact aa.some rfl
   ·exact aa.some rfl
theorem V0{rows:List (List G)}(h:eX rows=0):∀ r∈rows,mw (gi r 1).int (gi r 2).int=true∧jd (gi r 4).int (gi r 5).int=true:=by
 intro r hr;unfold eX at h;have b:¬ 500<rows.length:=fun b=>by rw[if_pos b]at h; omega
 rw[if_neg b]at h;obtain⟨i,hi,rfl⟩:=XG.1 hr;have hs:=Kr h i hi;have e:rows.getD i []=rows[i]:=by simp[cD,hi]
 have h1:jM rows[i]=0:=by
  refine n4 fun a=>?_;rw[←e]at a;rw[kl a]at hs;exact a hs
 unfold jM at h1;split at h1
 ·omega
 ·split at h1
  ·omega
  ·rename_i d
   split at h1
   ·rename_i g
    exact(g h1).elim
   ·split at h1
    ·omega
    ·rename_i k
     exact⟨by simpa using d,by simpa using k⟩
def Kz(r:List G):Prop:=∃(w:ByteArray) (h d f t:Int),r=[.s w,.i h,.i d,.i f,.i t]∧w∈calls∧eW h∧eW d∧eW f∧eW t
theorem Kz.eta{r:List G}(h:Kz r):bM [.str,.int .i64,.int .i64,.int .i64,.int .i64] r=r:=by
 obtain⟨w,h,d,f,t,rfl,_⟩:=h;rfl
/-! ### b is a with it -/
def sU(r:List G):Prop:=kf r ∧ -4000000000000≤a_ r∧bE r≤4000000000000
def sV(r s:List G):Int:=a_ r-a_ s
theorem V3:rZ sB sU sV:=by
 intro r s hr hs;obtain⟨⟨_,h1⟩,a,b⟩:=hr;obtain⟨⟨_,d⟩,g,h⟩:=hs;refine⟨a_ r-a_ s,aa.toEq ?_,Iff.rfl⟩;unfold sB
 (dsimp +instances only[Aa,Ab,Ac,Ad,Ae,Af,Ag])
 refine aa.pos ?_ (aa.some rfl);simp only[ar,sl];show -(2:Int) ^ 63≤a_ r-a_ s∧a_ r-a_ s≤2 ^ 63-1
 omega
theorem V4:fF (c5 sV) sU:=(VE (fun a b=>by unfold sV; omega) fun a b d h1 g=>by unfold sV at *; omega).mono fun _ _=>trivial
theorem V5(rows:List (List G))(hr:∀ y∈rows,sU y)(d:rows.length<100000):∃ out,sC [.l rows]=some [.l out]∧out.Perm rows∧out.Pairwise fun a b=>a_ a≤a_ b:=by
 obtain⟨out,h,g,hs⟩:=Qv V3 V4 rows hr d;refine⟨out,h,g,hs.imp fun {a b} h=>?_⟩;unfold c5 sV at h;rw[eu,decide_eq_false_iff_not]at h;omega
theorem KA(a acc:List (List G))(lo hi k n i:Int)(b:acc.length≤1000):nL [.l a,.l acc,.i lo,.i hi,.i k,.i n,.i i,.t false]=some (some 0,[.l a,.l (acc++[[.i lo,.i hi]]),.i n,.i i]):=by
 refine aa.toEq ?_;unfold nL
 (dsimp +instances only[Aa,Ab,Ac,Ad,Ae,Af,Ag])
 refine aa.neg rfl ?_
 (repeat first|refine aa.p ?_|refine aa.n ?_)
 exact aa.some rfl
theorem V6(a L:List (List G))(b:List G)(g:kf b)(lo hi n i:Int):nL [.l a,.l (L++[b]),.i lo,.i hi,.i (L.length:Int),.i n,.i i,.t true]=some (some 0,[.l a,.l (L++[[.i (a_ b),.i (if hi>bE b then hi else bE b)]]),.i n,.i i]):=by
 obtain⟨q,h,k⟩:=G4 L b;have d:∀ m:Int,bT [.int .i64,.int .i64] b 1 [.i m]=[.i (a_ b),.i m]:=fun m=>by
  rw[g.1];rfl
 refine aa.toEq ?_;unfold nL
 (dsimp +instances only[Aa,Ab,Ac,Ad,Ae,Af,Ag])
 simp only[eL,dL,h,k,d];refine aa.pos rfl ?_;have hlen:(L++[b]).length=L.length+1:=by simp
 refine aa.pos (by rw[hlen]; (first|rfl|assumption|(simp only[ar,sl]<;>omega))) (aa.pos (by rw[hlen]; simp) (aa.pos (by rw[hlen]; (first|rfl|assumption|(simp only[ar,sl]<;>omega))) (aa.pos (by rw[hlen]; simp) (aa.pos (by simp) (aa.some rfl)))))
theorem V7(rows:List (List G))(hr:∀ y∈rows,sU y)(hn:rows.length≤1000) :
  aa (sF [.l rows]) fun g=>∃ d out,g=[.l d,.l out]∧d.length=rows.length∧eD out∧out.length≤rows.length∧∀ n,cy out n↔cy rows n:=by
 obtain⟨d,hs,A,M⟩:=V5 rows hr (by omega);have hlen:=A.length_eq;unfold sF
 (dsimp +instances only[Aa,Ab,Ac,Ad,Ae,Af,Ag])
 rw[hs];refine aa.nE (P:=fun g=>g=[.l d]) (aa.eq rfl) (by(first|rfl|assumption|(simp only[ar,sl]<;>omega))) ?_;rintro _ rfl
 (dsimp +instances only[Aa,Ab,Ac,Ad,Ae,Af,Ag])
 rw[show (rows.length:Int)=(d.length:Int) by rw[hlen],show rows.length=d.length from hlen.symm];have r:=Am (st:=sE) (σ:=List (List G)) (fun s i=>[.l d,.l s,.i (d.length:Int),.i (i:Int)]) d (fun s=>(0,[.l d,.l s]))
  (fun s i=>eD s∧(∀ n,cy s n↔cy (d.take i) n)∧(∀ a∈s,∃ r∈d.take i,a_ a=a_ r)∧s.length≤i) [] (by omega) ⟨G0,by simp,by simp,by simp⟩
  (fun s i x ⟨t, s1, s2, U⟩ hi J hm u => by
   obtain⟨v,_,_⟩:=hr x (A.mem_iff.1 hm);have hle:∀ a∈s,a_ a≤a_ x:=fun a h=>by
    obtain⟨r,k,e⟩:=s2 a h;rw[e];obtain⟨j,V,rfl⟩:=XG.1 k;have N:j<i:=by
     have:=V;rw[List.length_take]at this;omega
    rw[List.getElem_take];have:=Lk.1 M j i (by omega) hi N;have ex:d[i]=x:=by
     rw[←J];simp[cD,hi]
    rw[ex]at this;exact this
   have new:eD (s++[x])→eD (s++[[.i (a_ x),.i (bE x)]])∧(∀ n,cy (s++[[.i (a_ x),.i (bE x)]]) n↔cy (d.take (i+1)) n)∧(∀ a∈s++[[.i (a_ x),.i (bE x)]],∃ r∈d.take (i+1),a_ a=a_ r)∧(s++[[G.i (a_ x),.i (bE x)]]).length≤i+1:=by
    intro W;rw[←v.1];refine⟨W,fun n=>?_,fun a h=>?_,by simp; omega⟩
    ·rw[u,r7,r7,s1]
    ·rw [u]
     rcases bQ.1 h with h|h
     ·obtain ⟨r, k, e⟩ := s2 a h
      exact⟨r,kA _ k,e⟩
     ·rw [gL.1 h]
      exact⟨x,by simp,rfl⟩
   unfold sE
   (dsimp +instances only[Aa,Ab,Ac,Ad,Ae,Af,Ag])
   simp only[eL,dL,J];refine aa.p (aa.p (aa.p (aa.p ?_)));rcases List.eq_nil_or_concat s with rfl|⟨L,b,e⟩
   ·refine aa.neg (by simp [sl]) ?_
    refine aa.tail (P:=fun q g=>q=0∧g=[.l d,.l ([]++[[.i (a_ x),.i (bE x)]]),.i (d.length:Int),.i (i:Int)]) ⟨_,KA d [] (a_ x) (bE x) _ _ _ (by simp),0,rfl,rfl,rfl⟩ (by simp) ?_;rintro _ _ ⟨rfl,rfl⟩
    (dsimp +instances only[Aa,Ab,Ac,Ad,Ae,Af,Ag])
    (repeat first|refine aa.p ?_|refine aa.n ?_)
    exact aa.some ⟨_,by simp,new (by simpa using(G1.2 ⟨v,by simp,G0⟩))⟩
   ·rw [List.concat_eq_append] at e
    subst e;obtain⟨e1,X,e3⟩:=G4 L b;have O:(((L++[b]).length:Nat):Int)-1=(L.length:Int):=by simp
    simp only[O,eL,dL,X];have D:=(r8.1 t).2.2;have R:=hle b (by simp);have I:(L++[b]).length=L.length+1:=by simp
    refine aa.p (aa.pos (by rw[I]; (first|rfl|assumption|(simp only[ar,sl]<;>omega))) (aa.pos (by rw[I]; simp) ?_));cases w:aZ (a_ x) (bE b)with
    | true =>
     have B:a_ x≤bE b:=by rw[dp,decide_eq_true_eq]at w; exact w
     refine aa.tail (P:=fun q g=>q=0∧g=[.l d,.l (L++[[.i (a_ b),.i (if bE x>bE b then bE x else bE b)]]),.i (d.length:Int),.i (i:Int)]) ⟨_,V6 d L b D (a_ x) (bE x) _ _,0,rfl,rfl,rfl⟩ (by simp) ?_;rintro _ _ ⟨rfl,rfl⟩
     (dsimp +instances only[Aa,Ab,Ac,Ad,Ae,Af,Ag])
     (repeat first|refine aa.p ?_|refine aa.n ?_)
     obtain⟨g1,g2⟩:=QB t v R B (m:=if bE x>bE b then bE x else bE b) (by split<;>omega);refine aa.some ⟨_,by simp,g1,fun n=>?_,fun a h=>?_,by simp at U⊢; omega⟩
     ·rw[g2,s1,u,QC]
     ·rw [u]
      rcases bQ.1 h with h|h
      ·obtain ⟨r, k, e⟩ := s2 a (kA _ h)
       exact⟨r,kA _ k,e⟩
      ·rw [gL.1 h]
       obtain⟨r,k,e⟩:=s2 b (by simp);exact⟨r,kA _ k,e⟩
    | false =>
     have B:bE b<a_ x:=by rw[dp,decide_eq_false_iff_not]at w; omega
     refine aa.tail (P:=fun q g=>q=0∧g=[.l d,.l ((L++[b])++[[.i (a_ x),.i (bE x)]]),.i (d.length:Int),.i (i:Int)]) ⟨_,KA d (L++[b]) (a_ x) (bE x) _ _ _ (by omega),0,rfl,rfl,rfl⟩ (by simp) ?_;rintro _ _ ⟨rfl,rfl⟩
     (dsimp +instances only[Aa,Ab,Ac,Ad,Ae,Af,Ag])
     (repeat first|refine aa.p ?_|refine aa.n ?_)
     refine aa.some ⟨(L++[b])++[[.i (a_ x),.i (bE x)]],by simp,?_⟩;have:=new (r8.2 ⟨t,fun a h=>?_,v⟩)
     ·simpa using this
     ·rcases bQ.1 h with h | h
      ·have := (r8.1 t).2.1 a h
       have:=D.2;omega
      ·rw [gL.1 h]
       exact B)
  (fun s hI => by
   unfold sE
   (dsimp +instances only[Aa,Ab,Ac,Ad,Ae,Af,Ag])
   (repeat first|refine aa.p ?_|refine aa.n ?_)
   exact aa.some rfl)
 refine aa.loop r (by(first|rfl|assumption|(simp only[ar,sl]<;>omega))) ?_;rintro _ _ ⟨out,⟨Y,q2,q3,q4⟩,rfl,rfl⟩
 (dsimp +instances only[Aa,Ab,Ac,Ad,Ae,Af,Ag])
 refine aa.p (aa.some ⟨d,out,rfl,rfl,Y,by omega,fun n=>?_⟩);rw[q2,XH];exact Qz A n
theorem KB(k:Int):∀(q p:List (List G)),p.length+q.length<100000 →
  dI pD [.l (p++q),.i k,.i ((p++q).length:Nat),.i (p.length:Nat)] (q.length+1) fun c g=>(c=0∧(∃ r∈q,(gi r 0).int=k)∧∃ j:Nat,g=[.i (j:Int)])∨(c=1∧(∀ r∈q,(gi r 0).int≠k)∧g=[])
 | [],p,a=>by
  refine dI.stop (x:=1) (d':=[]) (aa.toEq ?_) (.inr ⟨rfl,by simp,rfl⟩);unfold pD
  (dsimp +instances only[Aa,Ab,Ac,Ad,Ae,Af,Ag])
  exact aa.neg (by simp[eu]) (aa.some rfl)
 | z::q,p,a=>by
  simp only[dZ]at a;have hlen:(p++z::q).length=p.length+(q.length+1):=by simp
  have b:(p++z::q).getD p.length []=z:=by simp
  by_cases e:k=(gi z 0).int
  ·refine dI.stop (x := 0) (d' := [.i (p.length : Nat)]) (aa.toEq ?_) (.inl ⟨rfl, ⟨z, by simp, e.symm⟩, _, rfl⟩)
   unfold pD
   (dsimp +instances only[Aa,Ab,Ac,Ad,Ae,Af,Ag])
   simp only[eL,b,hlen];exact aa.p (aa.p (aa.pos (by simpa using e) (aa.some rfl)))
  ·have d := KB k q (p ++ [z]) (by simp; omega)
   have t:p++z::q=(p++[z])++q:=by simp
   have u:(((p++[z]).length:Nat):Int)=(p.length:Int)+1:=by simp
   refine dI.next (d1:=[.l ((p++[z])++q),.i k,.i (((p++[z])++q).length:Nat),.i ((p++[z]).length:Nat)]) (aa.toEq ?_) (d.mono ?_)
   ·unfold pD
    (dsimp +instances only[Aa,Ab,Ac,Ad,Ae,Af,Ag])
    rw[←t,u];simp only[eL,b,hlen];exact aa.p (aa.p (aa.neg (by simpa using e) (aa.p (aa.some rfl))))
   ·rintro c g (⟨rfl, ⟨r, h1, v⟩, w⟩ | ⟨rfl, h, rfl⟩)
    ·exact .inl ⟨rfl,⟨r,by simp[h1],v⟩,w⟩
    ·refine .inr ⟨rfl, fun r hr => ?_, rfl⟩
     rcases bN.1 hr with rfl|hr
     ·exact fun h=>e h.symm
     ·exact h r hr
def pH(ms:List (List G))(k:Int):Bool:=ms.any fun z=>(gi z 0).int==k
theorem V8(ms:List (List G))(k:Int)(b:ms.length<100000):wC [.l ms,.i k]=some [.t (pH ms k)]:=by
 refine aa.toEq ?_;unfold wC
 (dsimp +instances only[Aa,Ab,Ac,Ad,Ae,Af,Ag])
 refine aa.call (P:=fun g=>(∃ j:Nat,g=[.i (j:Int)]∧pH ms k=true)∨(g=[.i (-1)]∧pH ms k=false)) ?_ ?_
 ·unfold BI
  (dsimp +instances only[Aa,Ab,Ac,Ad,Ae,Af,Ag])
  have h:=KB k ms [] (by simpa using b);simp only[List.nil_append,List.length_nil]at h;refine aa.loop (h.to (by omega)) rfl ?_;rintro c g (⟨rfl,⟨r,h1,d⟩,j,rfl⟩|⟨rfl,a,rfl⟩)
  ·exact aa.pos rfl (aa.some (.inl ⟨j,rfl,gK.2 ⟨r,h1,by simpa using d⟩⟩))
  ·exact aa.neg rfl (aa.some (.inr ⟨rfl,XI.2 fun r hr=>by simpa using a r hr⟩))
 ·rintro g (⟨j, rfl, a⟩ | ⟨rfl, a⟩)
  ·rw [a]
   refine aa.some ?_;simp[Aa,Ae,dp]
  ·rw [a]
   exact aa.some rfl
def pI(f t at_:Int):Bool:=aZ f at_&&au at_ t
theorem KC(f t at_:Int):sA [.l [[.i f,.i t]],.i at_]=some [.t (pI f t at_)]:=by
 refine aa.toEq ?_;unfold sA pI
 (dsimp +instances only[Aa,Ab,Ac,Ad,Ae,Af,Ag])
 cases aZ f at_ with
 |true=>exact aa.pos rfl (aa.some rfl)
 |false=>exact aa.neg rfl (aa.some rfl)
def pJ(c:ByteArray)(mode at_:Int)(x:List G):Bool:=((gi x 0).str.toList==c.toList)&&((mode==0)||pH (gi x 3).rows mode)&&pI (gi x 4).int (gi x 5).int at_
def wV(x:List G):List G:=[.i (gi x 1).int,.i (gi x 2).int]
def je(aQ:List (List G))(c:ByteArray)(mode at_:Int):List (List G):=(aQ.filter (pJ c mode at_)).map wV
theorem KD(l:List (List G))(x:List G)(c:ByteArray)(mode at_:Int):je (l++[x]) c mode at_=je l c mode at_++bif pJ c mode at_ x then [wV x] else []:=by
 unfold je;rw[List.filter_append,List.map_append];cases h:pJ c mode at_ x<;>simp[h]
theorem Cg{aQ:List (List G)}{c:ByteArray}{mode at_:Int}(hs:∀ z∈aQ,eE z)(h:eX aQ=0):∀ y∈je aQ c mode at_,sU y∧0≤a_ y∧bE y≤30000000000:=by
 intro y b;obtain⟨x,a,rfl⟩:=List.mem_map.1 b;have a:=(List.mem_filter.1 a).1;obtain⟨h1,d,g⟩:=sT.1 (V0 h x a).1;have i:a_ (wV x)=(gi x 1).int:=rfl;have k:bE (wV x)=(gi x 2).int:=rfl;refine⟨⟨GZ d,?_,?_⟩,?_,?_⟩<;>omega
theorem KE(aQ:List (List G))(c:ByteArray)(mode at_:Int)(hs:∀ z∈aQ,eE z)(V:aQ.length≤500)(h:eX aQ=0) :
  aa (sH [.l aQ,.s c,.i mode,.i at_]) fun g=>∃ out,g=[.l out]∧eD out∧out.length≤aQ.length∧∀ n,cy out n↔cy (je aQ c mode at_) n:=by
 unfold sH
 (dsimp +instances only[Aa,Ab,Ac,Ad,Ae,Af,Ag])
 have r:=Am (st:=sG) (σ:=List (List G)) (fun s i=>[.l s,.s c,.i mode,.i at_,.l aQ,.i (aQ.length:Int),.i (i:Int)]) aQ (fun s=>(0,[.l s])) (fun s i=>s=je (aQ.take i) c mode at_∧s.length≤i) [] (by omega) ⟨rfl,by simp⟩
  (fun s i x ⟨q, s1⟩ hi D hm u => by
   obtain⟨k,lo,v,ms,f,t,d,W,J,M,N,O,hf,R⟩:=hs x hm;have I:pJ c mode at_ x=((k.toList==c.toList)&&((mode==0)||pH ms mode)&&pI f t at_):=by
    rw[d];rfl
   have yes:pJ c mode at_ x=true→s++[[.i lo,.i v]]=je (aQ.take (i+1)) c mode at_∧(s++[[G.i lo,.i v]]).length≤i+1:=fun a=>by
    rw[u,KD,a,←q,d];exact⟨rfl,by simp; omega⟩
   have no:pJ c mode at_ x=false→s=je (aQ.take (i+1)) c mode at_∧s.length≤i+1:=fun a=>by
    rw[u,KD,a,←q];exact⟨by simp,by omega⟩
   unfold sG
   (dsimp +instances only[Aa,Ab,Ac,Ad,Ae,Af,Ag])
   simp only[eL,D];rw[d]at *
   (dsimp +instances only[Aa,Ab,Ac,Ad,Ae,Af,Ag])
   refine aa.p (aa.p ?_);rw[I]at yes no;cases h1:(k.toList==c.toList)with
   | false =>
    rw[h1]at no;refine aa.neg rfl ?_
    (repeat first|refine aa.p ?_|refine aa.n ?_)
    exact aa.some ⟨s,by simp,no rfl⟩
   |true =>
   rw[h1]at yes no;refine aa.pos rfl ?_;cases w:(mode==0)with
   | true =>
    rw[w]at yes no;refine aa.pos rfl ?_;refine aa.cE (KC _ _ _) ?_
    (dsimp +instances only[Aa,Ab,Ac,Ad,Ae,Af,Ag])
    cases b:pI f t at_ with
    | true =>
     rw[b]at yes;refine aa.pos rfl ?_
     (repeat first|refine aa.p ?_|refine aa.n ?_)
     exact aa.some ⟨_,by simp,yes rfl⟩
    | false =>
     rw[b]at no;refine aa.neg rfl ?_
     (repeat first|refine aa.p ?_|refine aa.n ?_)
     exact aa.some ⟨s,by simp,no rfl⟩
   | false =>
    rw[w]at yes no;refine aa.neg rfl ?_;refine aa.cE (V8 ms mode (by omega)) ?_
    (dsimp +instances only[Aa,Ab,Ac,Ad,Ae,Af,Ag])
    cases A:pH ms mode with
    | false =>
     rw[A]at no;refine aa.neg rfl ?_
     (repeat first|refine aa.p ?_|refine aa.n ?_)
     exact aa.some ⟨s,by simp,no rfl⟩
    | true =>
     rw[A]at yes no;refine aa.pos rfl ?_;refine aa.cE (KC _ _ _) ?_
     (dsimp +instances only[Aa,Ab,Ac,Ad,Ae,Af,Ag])
     cases b:pI f t at_ with
     | true =>
      rw[b]at yes;refine aa.pos rfl ?_
      (repeat first|refine aa.p ?_|refine aa.n ?_)
      exact aa.some ⟨_,by simp,yes rfl⟩
     | false =>
      rw[b]at no;refine aa.neg rfl ?_
      (repeat first|refine aa.p ?_|refine aa.n ?_)
      exact aa.some ⟨s,by simp,no rfl⟩)
  (fun s X => by
   unfold sG
   (dsimp +instances only[Aa,Ab,Ac,Ad,Ae,Af,Ag])
   (repeat first|refine aa.p ?_|refine aa.n ?_)
   exact aa.some rfl)
 refine aa.loop r rfl ?_;rintro _ _ ⟨s,⟨B,Y⟩,rfl,rfl⟩
 (dsimp +instances only[Aa,Ab,Ac,Ad,Ae,Af,Ag])
 rw[XH]at B;subst B;refine aa.nE (V7 _ (fun y a=>(Cg hs h y a).1) (by omega)) (by(first|rfl|assumption|(simp only[ar,sl]<;>omega))) ?_;rintro _ ⟨U,out,rfl,g1,g2,g3,g4⟩
 (dsimp +instances only[Aa,Ab,Ac,Ad,Ae,Af,Ag])
 exact aa.some ⟨out,rfl,g2,by omega,g4⟩
/-! ### Rows a others -/
theorem V9(w:Int)(hw:0≤w):0≤eG w 2∧2*eG w 2≤w∧w≤2*eG w 2+1:=by
 rw[XC hw];omega
def iL(h d:Int):List G:=[.i (h-eG d 2),.i (h-eG d 2+d)]
theorem V_(h d:Int)(h1:eW h)(a:0≤d)(b:d≤1099511627776):wI [.i h,.i d]=some [.l [iL h d]]:=by
 obtain⟨g1,g2,g3⟩:=V9 d a;unfold eW at h1;refine aa.toEq ?_;unfold wI
 (dsimp +instances only[Aa,Ab,Ac,Ad,Ae,Af,Ag])
 (repeat first|refine aa.p ?_|refine aa.n ?_)
 exact aa.some rfl
/-! ### b is a with d is asked -/
/-! ### a is free -/
theorem Wa{aQ out:List (List G)}{c:ByteArray}{mode at_:Int}(hs:∀ z∈aQ,eE z)(h:eX aQ=0)(b:eD out)(hm:∀ n,cy out n↔cy (je aQ c mode at_) n):∀ r∈out,kf r∧0≤a_ r∧bE r≤30000000000:=by
 intro r hr;have a:=b.1 r hr;obtain⟨y,d,h1,i⟩:=(hm (a_ r)).1 ⟨r,hr,p6 _,a.2⟩;obtain⟨z,g,k,l⟩:=(hm (bE r-1)).1 ⟨r,hr,by have:=a.2; omega,by omega⟩;have:=(Cg hs h y d).2;have:=(Cg hs h z g).2;exact⟨a,by omega,by omega⟩
/-! ### a nearest -/
def lk(u x:List G):Bool:=aZ (a_ x) (a_ u)&&aZ (bE u) (bE x)
theorem Wb(u x:List G):wJ [.l [x],.l [u]]=some [.t (lk u x)]:=by
 refine aa.toEq ?_;unfold wJ lk
 (dsimp +instances only[Aa,Ab,Ac,Ad,Ae,Af,Ag])
 have a:(gi x 0).int=a_ x:=rfl;have b:(gi u 0).int=a_ u:=rfl;rw[a,b];cases aZ (a_ x) (a_ u)with
 |true=>exact aa.pos rfl (aa.some rfl)
 |false=>exact aa.neg rfl (aa.some rfl)
theorem Wc(rows:List (List G))(u:List G)(hu:bM [.int .i64,.int .i64] u=u)(hr:∀ r∈rows,kf r)(q:rows.length≤1000):wK [.l rows,.l [u]]=some [.t (rows.any (lk u))]:=by
 refine aa.toEq ?_;unfold wK
 (dsimp +instances only[Aa,Ab,Ac,Ad,Ae,Af,Ag])
 simp only[hu];refine aa.call (P:=fun g=>(∃ j:Nat,g=[.i (j:Int)]∧rows.any (lk u)=true)∨(g=[.i (-1)]∧rows.any (lk u)=false)) ?_ ?_
 ·unfold B3
  (dsimp +instances only[Aa,Ab,Ac,Ad,Ae,Af,Ag])
  simp only[hu];refine aa.loop (Qt (st:=sK) (fun i=>[.l rows,.l [u],.i (rows.length:Int),.i (i:Int)]) rows (lk u) (by omega) (fun i x hi a hm=>?_) ?_) rfl ?_
  ·have d := hr x hm
   unfold sK
   (dsimp +instances only[Aa,Ab,Ac,Ad,Ae,Af,Ag])
   simp only[eL,a,hu,Qw d];refine aa.p (aa.p ?_);refine aa.cE (Wb u x) ?_
   (dsimp +instances only[Aa,Ab,Ac,Ad,Ae,Af,Ag])
   cases lk u x with
   |true=>exact aa.pos rfl (aa.some rfl)
   |false=>exact aa.neg rfl (aa.p (aa.some (by simp)))
  ·unfold sK
   (dsimp +instances only[Aa,Ab,Ac,Ad,Ae,Af,Ag])
   (repeat first|refine aa.p ?_|refine aa.n ?_)
   exact aa.some rfl
  ·rintro _ _ (⟨rfl, v, x, w, h1, y, k, rfl⟩ | ⟨rfl, rfl, h⟩)
   ·exact aa.pos rfl (aa.some (.inl ⟨_,rfl,gK.2 ⟨x,by rw[h1]; simp,k⟩⟩))
   ·exact aa.neg rfl (aa.some (.inr ⟨rfl,XI.2 fun r b=>by rw[h r b]; simp⟩))
 ·rintro g (⟨j, rfl, a⟩ | ⟨rfl, a⟩)
  ·rw [a]
   refine aa.some ?_;simp[Aa,Ae,dp]
  ·rw [a]
   exact aa.some rfl
def Ch(aQ:List (List G))(c:ByteArray)(a width mode at_:Int):Prop:=∀ m,a_ (iL a width)≤m→m<bE (iL a width)→cy (je aQ c mode at_) m
def sW(aQ:List (List G))(c:ByteArray)(a width mode at_:Int):Int :=
 if eX aQ≠0 then eX aQ else if iI c=false then 5 else if c_ a 0 30000000000=false then 1 else if c_ width 1 100000=false then 1 else if c_ mode 1 3=false then 4 else if c_ at_ 0 345686399999=false then 1 else 0
theorem Wd(aQ:List (List G))(c:ByteArray)(a width mode at_:Int)(hs:∀ z∈aQ,eE z)(jN:aQ.length≤500)(v:c∈jc) :
  aa (sL [.l aQ,.s c,.i a,.i width,.i mode,.i at_]) fun g=>∃ b,g=[.t b,.i (sW aQ c a width mode at_)]∧(b=true↔sW aQ c a width mode at_=0∧Ch aQ c a width mode at_):=by
 have bad:∀ e:Int,e≠0→∃ b,[G.t false,.i e]=[.t b,.i e]∧(b=true↔e=0∧Ch aQ c a width mode at_):=fun e he=>⟨false,rfl,by simp[he]⟩
 unfold sL sW
 (dsimp +instances only[Aa,Ab,Ac,Ad,Ae,Af,Ag])
 refine aa.cE (Ky aQ hs) ?_
 (dsimp +instances only[Aa,Ab,Ac,Ad,Ae,Af,Ag])
 by_cases h1:eX aQ=0
 rotate_left
 ·rw [if_pos h1]
  exact aa.pos (by simpa using h1) (aa.some (bad _ h1))
 rw[if_neg (by simpa using h1)];refine aa.neg (by simpa using h1) ?_;refine aa.cE (Ce v) ?_
 (dsimp +instances only[Aa,Ab,Ac,Ad,Ae,Af,Ag])
 cases iI c with
 |false=>exact aa.pos rfl (aa.some (bad 5 (by omega)))
 |true =>
 refine aa.neg rfl ?_;refine aa.cE (pG _ _ _) ?_
 (dsimp +instances only[Aa,Ab,Ac,Ad,Ae,Af,Ag])
 cases w:c_ a 0 30000000000 with
 |false=>exact aa.pos rfl (aa.some (bad 1 (by omega)))
 |true =>
 refine aa.neg rfl ?_;refine aa.cE (pG _ _ _) ?_
 (dsimp +instances only[Aa,Ab,Ac,Ad,Ae,Af,Ag])
 cases y:c_ width 1 100000 with
 |false=>exact aa.pos rfl (aa.some (bad 1 (by omega)))
 |true =>
 refine aa.neg rfl ?_;refine aa.cE (Cf _) ?_
 (dsimp +instances only[Aa,Ab,Ac,Ad,Ae,Af,Ag])
 cases c_ mode 1 3 with
 |false=>exact aa.pos rfl (aa.some (bad 4 (by omega)))
 |true =>
 refine aa.neg rfl ?_;refine aa.cE (Kv _) ?_
 (dsimp +instances only[Aa,Ab,Ac,Ad,Ae,Af,Ag])
 cases c_ at_ 0 345686399999 with
 |false=>exact aa.pos rfl (aa.some (bad 1 (by omega)))
 |true =>
 refine aa.neg rfl ?_;obtain⟨D,a2⟩:=jL.1 w;obtain⟨a3,a4⟩:=jL.1 y;refine aa.cE (V_ a width ⟨by omega,by omega⟩ (by omega) (by omega)) ?_;refine aa.call (KE aQ c mode at_ hs jN h1) ?_;rintro _ ⟨P,rfl,p1,I,d⟩
 (dsimp +instances only[Aa,Ab,Ac,Ad,Ae,Af,Ag])
 have hu:bM [.int .i64,.int .i64] (iL a width)=iL a width:=rfl;simp only[hu];refine aa.cE (Wc P (iL a width) hu p1.1 (by omega)) ?_
 (dsimp +instances only[Aa,Ab,Ac,Ad,Ae,Af,Ag])
 refine aa.some ⟨_,rfl,?_⟩;have u:a_ (iL a width)<bE (iL a width):=by
  have J:a_ (iL a width)=a-eG width 2:=rfl;have M:bE (iL a width)=a-eG width 2+width:=rfl;omega
 rw[gK];constructor
 ·rintro ⟨r, hr, h⟩
  unfold lk at h;rw[dp,dp,aq,decide_eq_true_eq,decide_eq_true_eq]at h;exact⟨rfl,fun m k q=>(d m).1 ⟨r,hr,by omega,by omega⟩⟩
 ·rintro ⟨_, h⟩
  obtain⟨r,hr,k,q⟩:=QA p1 u fun n A B=>(d n).2 (h n A B);refine⟨r,hr,?_⟩;unfold lk;rw[dp,dp,aq,decide_eq_true_eq,decide_eq_true_eq];exact⟨k,q⟩
/-! ### a b d sorted, each once -/
/-! ### b a number in a row? -/
/-! ### a rows -/
/-! ### b is a, as g reference d it -/
def pK(aQ:List (List G))(c:ByteArray)(mode at_:Int):Int :=
 if eX aQ≠0 then eX aQ else if iI c=false then 5 else if c_ mode 1 3=false then 4 else if c_ at_ 0 345686399999=false then 1 else 0
/-! ### Windows and a -/
theorem We(aQ:List (List G))(c:ByteArray)(mode at_:Int)(hs:∀ z∈aQ,eE z)(jN:aQ.length≤500)(a:c∈jc) :
  aa (wE [.l aQ,.s c,.i mode,.i at_]) fun g=>∃ out,g=[.l out,.i (pK aQ c mode at_)]∧(pK aQ c mode at_≠0→out=[])∧(pK aQ c mode at_=0→eX aQ=0∧eD out∧out.length≤500∧∀ n,cy out n↔cy (je aQ c mode at_) n):=by
 unfold wE pK
 (dsimp +instances only[Aa,Ab,Ac,Ad,Ae,Af,Ag])
 refine aa.cE (Ky aQ hs) ?_
 (dsimp +instances only[Aa,Ab,Ac,Ad,Ae,Af,Ag])
 by_cases h1:eX aQ=0
 rotate_left
 ·rw [if_pos h1]
  exact aa.pos (by simpa using h1) (aa.some ⟨[],rfl,fun _=>rfl,fun h=>(h1 h).elim⟩)
 rw[if_neg (by simpa using h1)];refine aa.neg (by simpa using h1) ?_;refine aa.cE (Ce a) ?_
 (dsimp +instances only[Aa,Ab,Ac,Ad,Ae,Af,Ag])
 cases iI c with
 |false=>exact aa.pos rfl (aa.some ⟨[],rfl,fun _=>rfl,fun h=>by cases h⟩)
 |true =>
 refine aa.neg rfl ?_;refine aa.cE (Cf _) ?_
 (dsimp +instances only[Aa,Ab,Ac,Ad,Ae,Af,Ag])
 cases c_ mode 1 3 with
 |false=>exact aa.pos rfl (aa.some ⟨[],rfl,fun _=>rfl,fun h=>by cases h⟩)
 |true =>
 refine aa.neg rfl ?_;refine aa.cE (Kv _) ?_
 (dsimp +instances only[Aa,Ab,Ac,Ad,Ae,Af,Ag])
 cases c_ at_ 0 345686399999 with
 |false=>exact aa.pos rfl (aa.some ⟨[],rfl,fun _=>rfl,fun h=>by cases h⟩)
 |true =>
 refine aa.neg rfl ?_;refine aa.call (KE aQ c mode at_ hs jN h1) ?_;rintro _ ⟨P,rfl,p1,d,b⟩;exact aa.some ⟨P,rfl,fun h=>(h rfl).elim,fun _=>⟨h1,p1,by omega,b⟩⟩
/-! ### a d reference b -/
/-! ### a law -/
/-! ### A literal map, made in any order -/
theorem KF:∀{l:List Nat},l.Nodup→nodupB l=true
  | [],_=>rfl
  | x::l,h=>by
    obtain⟨h1,b⟩:=gJ.1 h;simp only[nodupB,KF b,fl]
    first
      |(simp; intro y a e; exact h1 (e▸a))
      |(simp[h1])
      | (cases d : l.any (Nat.beq x) with
         |false=>rfl
         |true=>obtain⟨y,a,e⟩:=gK.1 d; exact absurd ((Nat.eq_of_beq_eq_true e)▸a) h1)
structure my (Q:List G→List G→Prop) (rows:List (List G)) (cJ:Nat):Prop where
 born:(rows.map b9).Nodup
 less:∀ r∈rows,b9 r<cJ
 form:∀ r∈rows,∃(k v:List G) (b:Int),r=[.l [k],.l [v],.i b]∧Q k v
theorem KG{Q:List G→List G→Prop}{K:List Kd}{k v:List G}{cJ:Nat}(d:Q k v):∀{rows:List (List G)},my Q rows cJ →
  my Q (fB K rows k v cJ) (dP K rows k cJ)∧((fB K rows k v cJ).map b9=rows.map b9∨(fB K rows k v cJ).map b9=rows.map b9++[cJ])
 | [],_=>by
  rw[Qk];refine⟨⟨by simp,fun r hr=>?_,fun r hr=>?_⟩,.inr rfl⟩
  ·rw [gL.1 hr]
   show cJ<dP K [] k cJ
   unfold dP;rw[Qj];exact Nat.lt_succ_self _
  ·rw [gL.1 hr]
   exact⟨k,v,_,rfl,d⟩
 | r::rs,h=>by
  have u:my Q rs cJ:=⟨(gJ.1 h.born).2,fun x a=>h.less x (da _ a),fun x a=>h.form x (da _ a)⟩
  obtain⟨g,b⟩:=KG d (rows:=rs) u;rw[Ql];cases e:gS K k (gi r 0).row with
  | true =>
   have hm:dP K (r::rs) k cJ=cJ:=by unfold dP; rw[GO,e]; rfl
   have q:b9 [.l [k],.l [v],.i (gi r 2).int]=b9 r:=rfl;rw[hm,cond_true];refine⟨⟨?_,fun x a=>?_,fun x a=>?_⟩,.inl ?_⟩
   ·rw [dg, q]
    exact h.born
   ·rcases bN.1 a with rfl | a
    ·rw [q]
     exact h.less r cW
    ·exact h.less x (da _ a)
   ·rcases bN.1 a with rfl | a
    ·exact⟨k,v,_,rfl,d⟩
    ·exact h.form x (da _ a)
   ·rw[dg,dg,q]
  | false =>
   have hm:dP K (r::rs) k cJ=dP K rs k cJ:=by unfold dP; rw[GO,e]; rfl
   have hle:cJ≤dP K rs k cJ:=by unfold dP; cases gf K rs k<;>simp
   rw[hm,cond_false];have t:b9 r∉(fB K rs k v cJ).map b9:=by
    rcases b with b|b
    ·rw [b]
     exact(gJ.1 h.born).1
    ·rw [b]
     intro a;rcases bQ.1 a with a|a
     ·exact(gJ.1 h.born).1 a
     ·have := h.less r cW
      rw[gL.1 a]at this;omega
   refine⟨⟨gJ.2 ⟨t,g.born⟩,fun x a=>?_,fun x a=>?_⟩,?_⟩
   ·rcases bN.1 a with rfl | a
    ·exact Nat.lt_of_lt_of_le (h.less x cW) hle
    ·exact g.less x a
   ·rcases bN.1 a with rfl | a
    ·exact h.form x cW
    ·exact g.form x a
   ·rcases b with b | b
    ·exact .inl (by rw[dg,dg,b])
    ·exact .inr (by rw[dg,dg,b]; rfl)
theorem my.ok{Q:List G→List G→Prop}{rows:List (List G)}{cJ:Nat}(h:my Q rows cJ):jG rows cJ=true:=by
 simp only[jG,KF h.born,Bool.true_and,cC,Nat.blt_eq];exact h.less
theorem KH{Q:List G→List G→Prop}(d:List G)(a:∀ i,Q (lf d i) (pF i)):∀(σ:List Nat) (s:List (List G) × Nat),my Q s.1 s.2 →
  my Q (σ.foldl (fun s i=>(fB [.int .i64] s.1 (lf d i) (pF i) s.2,dP [.int .i64] s.1 (lf d i) s.2)) s).1 (σ.foldl (fun s i=>(fB [.int .i64] s.1 (lf d i) (pF i) s.2,dP [.int .i64] s.1 (lf d i) s.2)) s).2
 | [],_,h=>h
 |i::σ,s,h=>KH d a σ _ (KG (a i) h).1
/-! ### A a -/
def km:ByteArray:=⟨#[102,117,108,108]⟩
theorem KJ:km∈jc:=wP (by kernel_rfl)
section
variable {aQ out:List (List G)} {at_:Int} (hs:∀ z∈aQ,eE z) (jN:aQ.length≤500) (hf:eX aQ=0) (h0:0≤at_) (h1:at_≤200) (hm:∀ n,cy out n↔cy (je aQ km 1 at_) n)
include hs jN hf h0 h1 hm
theorem Wf{h:Int}(a0:0≤h)(q:h≤30000000000):aa (sL [.l aQ,.s km,.i h,.i 1,.i 1,.i at_]) fun g=>∃ b,g=[.t b,.i 0]∧(b=true↔cy out h):=by
 refine(Wd aQ km h 1 1 at_ hs jN KJ).mono ?_;rintro _ ⟨b,rfl,d⟩;have e:sW aQ km h 1 1 at_=0:=by
  unfold sW;have k:iI km=true:=by kernel_rfl
  rw[hf,k,jL.2 ⟨a0,q⟩,jL.2 ⟨by omega,by omega⟩,jL.2 ⟨by omega,by omega⟩,jL.2 ⟨h0,by omega⟩];simp
 rw[e]at d⊢;refine⟨b,rfl,d.trans ?_⟩;have hu:a_ (iL h 1)=h∧bE (iL h 1)=h+1:=by
  have:eG 1 2=0:=rfl;unfold iL;rw[this];exact⟨by show h-0=h; omega,by show h-0+1=h+1; omega⟩
 unfold Ch;rw[hu.1,hu.2,hm];constructor
 ·rintro ⟨_, a⟩
  exact a h (p6 _) (by omega)
 ·intro a
  refine⟨rfl,fun m m1 m2=>?_⟩;rw[show m=h from by omega];exact a
def wW(out:List (List G))(k v:List G):Prop:=∃(n:Int) (b:Bool),k=[.i n]∧v=[.t b]∧(b=true↔cy out n)
theorem Wg{r:List G}(hr:∃(k v:List G) (b:Int),r=[.l [k],.l [v],.i b]∧wW out k v)(x y:List (List G))(len i:Int)(a:Nat) :
  sM r [.l aQ,.i at_,.l x,.l y,.i len,.i i,.i (a:Int)]=some [.l aQ,.i at_,.l x,.l y,.i len,.i i,.i (a:Int)]:=by
 obtain⟨_,_,b0,rfl,n,b,rfl,rfl,g⟩:=hr;refine aa.toEq ?_;unfold sM
 (dsimp +instances only[Aa,Ab,Ac,Ad,Ae,Af,Ag])
 refine aa.test (fun _=>?_) fun q=>?_
 ·simp only [eL]
  exact aa.some rfl
 refine aa.test (fun _=>?_) fun d=>?_
 ·simp only [eL]
  exact aa.some rfl
 rw[eu,decide_eq_false_iff_not]at q d;refine aa.call (Wf hs jN hf h0 h1 hm (h:=n) (by omega) (by omega)) ?_;rintro _ ⟨c,rfl,t⟩
 (dsimp +instances only[Aa,Ab,Ac,Ad,Ae,Af,Ag])
 have e:c=b:=tq.2 (t.trans g.symm);subst e;refine aa.neg rfl (aa.neg (by simp) ?_);simp only[eL];exact aa.some rfl
theorem KK(x y:List (List G))(len i:Int)(a:Nat):∀(q:List (List G)),(∀ r∈q,∃(k v:List G) (b:Int),r=[.l [k],.l [v],.i b]∧wW out k v) →
  ch sM (fun d=>(gi d 6).int.toNat) q [.l aQ,.i at_,.l x,.l y,.i len,.i i,.i (a:Int)]=some [.l aQ,.i at_,.l x,.l y,.i len,.i i,.i (a:Int)]
 | [],_=>rfl
 | r::q,g=>by
  have h:=Wg hs jN hf h0 h1 hm (g r cW) x y len i a;simp only[ch,h];rw[show Nat.beq (gi [G.l aQ,.i at_,.l x,.l y,.i len,.i i,.i (a:Int)] 6).int.toNat (gi [G.l aQ,.i at_,.l x,.l y,.i len,.i i,.i (a:Int)] 6).int.toNat=true from Nat.beq_refl _];exact KK x y len i a q fun z t=>g z (da _ t)
theorem Wh{lo hi:Int}(q:eD out)(hr:[G.i lo,.i hi]∈out)(x y:List (List G))(len i:Int) :
  sO [.i lo,.i hi,.l aQ,.i at_,.l x,.l y,.i len,.i i]=some (some 0,[.l aQ,.i at_,.l x,.l y,.i len,.i i]):=by
 obtain⟨⟨_,a⟩,b0,b1⟩:=Wa hs hf q hm _ hr;have a:lo<hi:=a;have b0:0≤lo:=b0;have b1:hi≤30000000000:=b1;obtain⟨g,h⟩:=G3 q hr;have g:¬ cy out hi:=g;have h:¬ cy out (lo-1):=h;have m1:cy out lo:=⟨_,hr,p6 lo,a⟩
 have m2:cy out (hi-1):=⟨_,hr,show lo≤hi-1 by omega,show hi-1<hi by omega⟩
 generalize k:[G.i lo,.i hi,.l aQ,.i at_,.l x,.l y,.i len,.i i]=d;have t:(gi d 0).int=lo:=by rw[←k]; rfl
 have u:(gi d 1).int=hi:=by rw[←k]; rfl
 have A:∀ j,wW out (lf d j) (pF j):=fun j=>by
  unfold lf pF;rw[t,u];split
  ·exact⟨lo,true,rfl,rfl,by simp[m1]⟩
  ·exact⟨hi-1,true,rfl,rfl,by simp[m2]⟩
  ·exact⟨lo-1,false,rfl,rfl,by simp[h]⟩
  ·rename_i B D N
   refine⟨hi,false,rfl,?_,by simp[g]⟩;split
   ·exact absurd rfl B
   ·exact absurd rfl D
   ·rfl
 have I:fS∈bW 4 fS:=rW 4 fS fS (by decide) rfl (by decide) fun _=>Iff.rfl;refine Qb I fun σ _=>?_;have J:sN d=true:=by
  unfold sN;rw[t,u];simp only[aq,fl];exact⟨by simp only[ar,sl]; omega,by simp only[ar,sl]; omega⟩
 rw[J,cond_true];have v:my (wW out) (mu σ d).1 (mu σ d).2:=KH d A σ ([],0) ⟨by simp,(fun r hr=>by cases hr),(fun r hr=>by cases hr)⟩;refine Qs v.ok fun b p M=>⟨rfl,[.l aQ,.i at_,.l x,.l y,.i len,.i i,.i (b:Int)],?_,rfl⟩
 have w:B7 d b=[.l aQ,.i at_,.l x,.l y,.i len,.i i,.i (b:Int)]:=by rw[←k]; rfl
 show ch sM (fun d=>(gi d 6).int.toNat) p (B7 d b)=_
 rw[w];exact KK hs jN hf h0 h1 hm x y len i b p fun r hr=>v.form r (M.mem_iff.1 hr)
theorem KL(a:eD out)(r:out.length≤500):∀(k i:Nat),i+k=out.length →
  dI sQ [.l aQ,.i at_,.l out,.l out,.i (out.length:Int),.i (i:Int)] (k+1) fun x _=>x=1
 | 0,i,hi=>by
  refine dI.stop (x:=1) (d':=[]) (aa.toEq ?_) rfl;unfold sQ
  (dsimp +instances only[Aa,Ab,Ac,Ad,Ae,Af,Ag])
  exact aa.n (aa.some rfl)
 | k+1,i,hi=>by
  have h:i<out.length:=by omega
  have b:out.getD i []∈out:=k_ h;obtain⟨lo,hi,d,w⟩:∃ lo hi:Int,out.getD i []=[.i lo,.i hi]∧lo<hi:=⟨_,_,(a.1 _ b).1,(a.1 _ b).2⟩
  rw[d]at b;have hw:=Wh hs jN hf h0 h1 hm a b out out (out.length:Int) (i:Int);refine dI.next (d1:=[.l aQ,.i at_,.l out,.l out,.i (out.length:Int),.i ((i:Int)+1)]) (aa.toEq ?_) (KL a r k (i+1) (by omega))
  have done:aa (bD true (dR (sO [.i lo,.i hi,.l aQ,.i at_,.l out,.l out,.i (out.length:Int),.i (i:Int)])) fun y g=>((bif (ar ((gi g 5).int+1)) then some (none,[G.l (gi g 0).rows,.i (gi g 1).int,.l (gi g 2).rows,.l (gi g 3).rows,.i (gi g 4).int,.i ((gi g 5).int+1)]) else none):Option (Option Nat × List G))) fun o=>o=(none,[.l aQ,.i at_,.l out,.l out,.i (out.length:Int),.i ((i:Int)+1)]):=by
   rw[hw];show aa (bif ar ((i:Int)+1) then _ else none) _
   exact aa.p (aa.some rfl)
  unfold sQ
  (dsimp +instances only[Aa,Ab,Ac,Ad,Ae,Af,Ag])
  simp only[eL,d]
  (dsimp +instances only[Aa,Ab,Ac,Ad,Ae,Af,Ag])
  refine aa.p (aa.p (aa.neg (by simp only[dp,decide_eq_false_iff_not]; omega) ?_));refine aa.test (fun t=>?_) fun _=>done;rw[eu,decide_eq_true_eq]at t;have u:((i:Int)-1).toNat=i-1:=by omega
  have v:out.getD (i-1) []∈out:=k_ (by omega);have q:bE (out.getD (i-1) [])<a_ (out.getD i []):=by
   have:=Lk.1 a.2 (i-1) i (by omega) h (by omega);rw[cD,bC (by omega:i-1<out.length),cD,bC h];exact this
  refine aa.p (aa.p (aa.neg ?_ done));rw[u];rw[d]at q;simp only[dp,decide_eq_false_iff_not];show ¬ lo≤(gi (out.getD (i-1) []) 1).int
  have:(gi (out.getD (i-1) []) 1).int<lo:=q;omega
end
theorem Wi(rows:List (List G)):B_ [.l rows]=some [.t true]:=by
 refine aa.toEq ?_;unfold B_
 (dsimp +instances only[Aa,Ab,Ac,Ad,Ae,Af,Ag])
 refine aa.call (VP rows 0 (by omega) (by omega)) ?_;rintro _ ⟨u,aQ,rfl,i,A,hs,jN⟩
 (dsimp +instances only[Aa,Ab,Ac,Ad,Ae,Af,Ag])
 refine aa.call (Kt rows u 0 200 i (by omega) (by omega) (by omega) (by omega)) ?_;rintro _ ⟨at_,rfl,k,q⟩
 (dsimp +instances only[Aa,Ab,Ac,Ad,Ae,Af,Ag])
 have d:(⟨#[102,117,108,108]⟩:ByteArray)=km:=rfl;rw[d];refine aa.call (We aQ km 1 at_ hs (by omega) KJ) ?_;rintro _ ⟨out,rfl,g,a⟩
 (dsimp +instances only[Aa,Ab,Ac,Ad,Ae,Af,Ag])
 have r:iI km=true:=by kernel_rfl
 have v:pK aQ km 1 at_=eX aQ:=by
  unfold pK;rw[r,jL.2 ⟨by omega,by omega⟩,jL.2 ⟨by omega,by omega⟩];by_cases h:eX aQ=0<;>simp[h]
 have b:∀{Q:List G→Prop},Q [.t true]→aa (aA (sf []) fun g4=>some [.t (gi g4 0).bool]) Q:=fun h=>⟨_,rfl,h⟩
 rw[v]at g a⊢;refine aa.test (fun h=>?_) fun h=>?_
 ·refine aa.call (aa.eq (VZ aQ hs)) ?_
  rintro _ rfl
  (dsimp +instances only[Aa,Ab,Ac,Ad,Ae,Af,Ag])
  exact aa.pos (by simp) (b rfl)
 ·have hf : eX aQ = 0 := by simpa using h
  obtain⟨_,w,y,hm⟩:=a hf;refine aa.loop ((KL hs (by omega) hf k q hm w y out.length 0 (by omega)).to (by omega)) rfl ?_;rintro _ _ rfl;exact aa.neg rfl (b rfl)
end
end Go.Proofs.jJ
