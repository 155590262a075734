/-
 What is proved here: what the methods of the stream give on data. No condition.
-/
import Derived.Test.YtmhkodhaodcfdaaGreatDoorML4
import Derived.Test.YtmhkodhaodcfdaaGreatDoorME
set_option linter.all false
open Bool renaming and_eq_true->aE,true_and->fB,not_eq_true'->qK,false_or->iz,eq_iff_iff->fP,eq_false_iff->nv,false_and->ml,or_false->To,not_eq_false'->akt,and_eq_false_iff->Tp
open ByteArray renaming size_extract->sH
open Decidable renaming byContradiction->sC
open Go.ByteArray renaming toList_eq->A'
open Go.Lib renaming size_eq->gx,join->eD,index->lB,index_one->pD,containsAny->Tl,indexByte->eN,join_one->kN,decDigits->jg,trimS->pE,trimRightS->Tn,itoa->f_,compareBytes->xr,toList_data->eE,extract_data->pF,extract_to_end->Fl,indexAny->akv
open Int renaming toNat_natCast->eH,tmod->dS,tdiv->eW,tmod_lt_of_pos->ako,tmod_eq_emod_of_nonneg->uL,mul_nonneg->akp,eq_ofNat_of_zero_le->sG
open List renaming length_cons->bW,getElem?_eq_getElem->cn,mem_of_getElem?->eC,all_eq_true->cq,getD_eq_getElem?_getD->eh,mem_cons->cf,mem_of_mem_drop->uB,mem_of_mem_take->oq,cons_append->kK,length_take->iy,length_append->dG,mem_append->cN,map_map->nh,nil_append->nm,mem_cons_self->cZ,mem_cons_of_mem->c8,mem_singleton->gH,any_eq_true->mh,length_nil->kf,drop_eq_getElem_cons->J8,not_mem_nil->jf,getElem_mem->sE,take_add_one->A8,eq_nil_or_concat->xp,concat_eq_append->xq,all_append->sF,any_cons->akr,getLast?_concat->aks,take_length->mn,length_singleton->Fm
open List.Perm renaming refl->aku
open List.Sublist renaming filter->akY
open Nat renaming le_refl->aY,zero_le->fO,zero_add->eo,beq->aH,ble->bf,blt->cR,ble_eq->cu,blt_eq->dH,beq_eq->Fc
open UInt8 renaming ofNat_toNat->Fk,not_lt->akq
namespace Go.Proofs.jL
open Go Go.AL Go.Proofs
attribute [-go_sem] ByteArray.size_mk' ByteArray.size_append'
noncomputable section
def IT(x n:Int)(a:1<=n)(b:n<=1099511627776):aa (wx [.i x,.i n]) fun g=>∃ v,g=[.i v]/\0<=v/\v<n:=by
 unfold wx;dsimp +instances only[go_sem];have d:=ako x (by omega:0<n);have k:=Int.lt_tmod_of_pos x (by omega:0<n);(repeat first|refine aa.p ?_|refine aa.n ?_);refine aa.test (fun h=>?_) fun h=>?_
 ·simp only [be, dT] at h
  (repeat first|refine aa.p ?_|refine aa.n ?_);exact aa.some ⟨_,rfl,by omega,by omega⟩
 ·simp only [be, dF] at h
  exact aa.some ⟨_,rfl,by omega,by omega⟩
def oT(l:LL)(a n:Int)(b:0<=a)(I:a<=1000000)(d:1<=n)(h:n<=1099511627776) :
  aa (mQ [.l l,.i a,.i n]) fun g=>∃ v,g=[.l l,.i (a+1),.i v]/\0<=v/\v<n:=by
 unfold mQ;dsimp +instances only[go_sem];have y:a+1-1=a:=by omega
 simp only[y];by_cases J:l.length=0
 ·(repeat first|refine aa.p ?_|refine aa.n ?_)
  refine aa.call (IT _ n d h) ?_;rintro _ ⟨v,rfl,k,t⟩;dsimp +instances only[go_sem];exact aa.some ⟨v,rfl,k,t⟩
 ·have A : (0 : Int) < (l.length : Int) := by omega
  have B:0<=eW a l.length:=Int.tdiv_nonneg b (by omega);have M:eW a l.length<=a:=by
   rw[Int.tdiv_eq_ediv_of_nonneg b];exact Int.ediv_le_self _ b
  have N:0<=dS a l.length:=by
   rw[uL b];exact Int.emod_nonneg _ (by omega)
  have O:dS a l.length<l.length:=ako a A;have U:dS a l.length<=a:=by
   rw[uL b];have:=Int.mul_ediv_add_emod a l.length;have w:0<=(l.length:Int)*(a / l.length):=akp (by omega) (Int.ediv_nonneg b (by omega));omega
  generalize V:eW a l.length=q at *;generalize W:dS a l.length=r at *;have p0:0<=q*(7919+r):=akp B (by omega);have p1:q*(7919+r)<=1000000*2000000:=Int.mul_le_mul (by omega) (by omega) (by omega) (by omega);generalize X:q*(7919+r)=z at *;(repeat first|refine aa.p ?_|refine aa.n ?_);refine aa.call (IT _ 1073741824 (by omega) (by omega)) ?_;rintro _ ⟨u,rfl,k,t⟩;dsimp +instances only[go_sem];(repeat first|refine aa.p ?_|refine aa.n ?_);refine aa.call (IT _ n d h) ?_;rintro _ ⟨v,rfl,w,F⟩;dsimp +instances only[go_sem];exact aa.some ⟨v,rfl,w,F⟩
def IU(l:LL)(a lo hi:Int)(d:0<=a)(b:a<=1000000)(h:lo<=hi)(k : -1000000000<=lo)(q:hi<=1000000000) :
  aa (rP [.l l,.i a,.i lo,.i hi]) fun g=>∃ v,g=[.l l,.i (a+1),.i v]/\lo<=v/\v<=hi:=by
 unfold rP;dsimp +instances only[go_sem];(repeat first|refine aa.p ?_|refine aa.n ?_);refine aa.call (oT l a _ d b (by omega) (by omega)) ?_;rintro _ ⟨v,rfl,t,w⟩;dsimp +instances only[go_sem];(repeat first|refine aa.p ?_|refine aa.n ?_);exact aa.some ⟨_,rfl,by omega,by omega⟩
def QU{l:LL}{v:Int}(a:0<=v)(b:v<l.length):l.getD v.toNat []∈l:=by
 have:v.toNat<l.length:=by omega
 rw[eh,cn this];exact sE this
def Ea(P:Int->Prop)(l:LL)(a:Int)(b:LL)(h:0<=a)(d:a<=1000000)(w:1<=b.length)(y:b.length<=1000000)(k:∀ x∈b,P (gi x 0).iV) :
  aa (lW [.l l,.i a,.l b]) fun g=>∃ v,g=[.l l,.i (a+1),.i v]/\P v:=by
 unfold lW;dsimp +instances only[go_sem];refine aa.call (oT l a _ h d (by omega) (by omega)) ?_;rintro _ ⟨v,rfl,q,t⟩;dsimp +instances only[go_sem];(repeat first|refine aa.p ?_|refine aa.n ?_);exact aa.some ⟨_,rfl,k _ (QU q t)⟩
def IV(P:BY->Prop)(l:LL)(a:Int)(b:LL)(h:0<=a)(d:a<=1000000)(w:1<=b.length)(y:b.length<=1000000)(k:∀ x∈b,P (gi x 0).sV) :
  aa (ll [.l l,.i a,.l b]) fun g=>∃ v,g=[.l l,.i (a+1),.s v]/\P v:=by
 unfold ll;dsimp +instances only[go_sem];refine aa.call (oT l a _ h d (by omega) (by omega)) ?_;rintro _ ⟨v,rfl,q,t⟩;dsimp +instances only[go_sem];(repeat first|refine aa.p ?_|refine aa.n ?_);exact aa.some ⟨_,rfl,k _ (QU q t)⟩
def qp(l:LL)(a n:Int)(h:0<=a)(d:a<=1000000)(k:1<=n)(q:n<=1000000) :
  aa (kF [.l l,.i a,.i n]) fun g=>∃ b,g=[.l l,.i (a+1),.t b]:=by
 unfold kF;dsimp +instances only[go_sem];refine aa.call (oT l a _ h d (by omega) (by omega)) ?_;rintro _ ⟨v,rfl,w,y⟩;exact aa.some ⟨_,rfl⟩
def Eb(l:LL)(a lo hi:Int)(t:0<=a)(A:a<=900000)(w:lo<=hi)(y : -1000000000<=lo)(z:hi<=1000000000) :
  aa (nY [.l l,.i a,.i lo,.i hi]) fun g=>∃ v,g=[.l l,.i (a+2),.i v] /\ -1099511627776<=v/\(v<=1000000001\/v=1099511627776):=by
 unfold nY;dsimp +instances only[go_sem];have d:a+1+1=a+2:=by omega
 refine aa.call (qp l a 12 t (by omega) (by omega) (by omega)) ?_;rintro _ ⟨b,rfl⟩;dsimp +instances only[go_sem];cases b with
 | true =>
  (repeat first|refine aa.p ?_|refine aa.n ?_);refine aa.call (Ea (fun v => -1099511627776<=v/\(v<=1000000001\/v=1099511627776)) l (a+1) _ (by omega) (by omega) (by simp) (by simp) ?_) ?_
  ·intro x h
   simp only[cf,jf,or_false]at h;rcases h with rfl|rfl|rfl|rfl|rfl|rfl<;>(dsimp +instances only[go_sem])<;>omega
  ·rintro _ ⟨v, rfl, k, q⟩
   dsimp +instances only[go_sem];exact aa.some ⟨v,by rw[d],k,q⟩
 | false =>
  (repeat first|refine aa.p ?_|refine aa.n ?_);refine aa.call (IU l (a+1) lo hi (by omega) (by omega) w y z) ?_;rintro _ ⟨v,rfl,k,q⟩;dsimp +instances only[go_sem];exact aa.some ⟨v,by rw[d],by omega,by omega⟩
def qt(L:List BY)(s:BY):Bool:=L.any fun x=>wq x s
def agj{L:List BY}{s:BY}(h:qt L s=true):s∈L:=by
 obtain⟨x,a,he⟩:=mh.1 h;exact Pc he▸a
def uj(lo hi:Int)(l:LL)(a:Int)(b:LL)(k:0<=a)(h:a<=1000000)(d:(bf 1 b.length&&bf b.length 1000000)=true) (q:(b.all fun x=>aR lo (gi x 0).iV&&aR (gi x 0).iV hi)=true) :
  aa (lW [.l l,.i a,.l b]) fun g=>∃ v,g=[.l l,.i (a+1),.i v]/\lo<=v/\v<=hi:=by
 simp only[aE,cu]at d;refine Ea (fun v=>lo<=v/\v<=hi) l a b k h d.1 d.2 fun x t=>?_;have:=cq.1 q x t;simpa only[bz,aE,dT]using this
def sb(L:List BY)(l:LL)(a:Int)(b:LL)(k:0<=a)(h:a<=1000000)(d:(bf 1 b.length&&bf b.length 1000000)=true) (q:(b.all fun x=>qt L (gi x 0).sV)=true) :
  aa (ll [.l l,.i a,.l b]) fun g=>∃ v,g=[.l l,.i (a+1),.s v]/\v∈L:=by
 simp only[aE,cu]at d;exact IV (fun v=>v∈L) l a b k h d.1 d.2 fun x t=>agj (cq.1 q x t)
def calls:List BY:=[⟨#[]⟩,⟨#[107,49]⟩,⟨#[75,49,65,66]⟩,⟨#[107,49,97,98,47]⟩,⟨#[49,97]⟩,⟨#[107,49,97,98,47,109,109,47,112]⟩,⟨#[107,49,97,98]⟩,⟨#[107,49,97,97]⟩,⟨#[107,49,97,98,47,52]⟩,
 ⟨#[111,104,50,97,98,99]⟩,⟨#[111,104,50,97,98,100]⟩,⟨#[119,49,97,119]⟩,⟨#[110,49,109,109]⟩,⟨#[103,51,120,121,122,47,112]⟩]
def oU:List BY:=[⟨#[]⟩,⟨#[66]⟩,⟨#[98,50,48]⟩,⟨#[98,52,48]⟩]
def names:List BY:=[⟨#[]⟩,⟨#[65]⟩,⟨#[49]⟩,⟨#[102,105,110]⟩,⟨#[117,115,97]⟩]
def small(n:Int):Prop := -2000000000000<=n/\n<=2000000000000
def fI(r:LG):Prop:=∃(t m:Int) (b c:BY) (s h:Int) (x y:BY),r=[.i t,.i m,.s b,.s c,.i s,.i h,.s x,.s y]/\small t/\small m/\small s/\small h/\b∈oU/\c∈calls/\x∈names/\y∈names
def tight(n:Int):Prop := -1900000000000<=n/\n<=1900000000000
def wT(n:Int):Prop := -1900000000000<=n/\(n<=345000000000\/(345686399999<n/\n<=1900000000000))
def oV(r:LG):Prop:=∃(t m:Int) (b c:BY) (s h:Int) (x y:BY),r=[.i t,.i m,.s b,.s c,.i s,.i h,.s x,.s y]/\wT t/\tight m/\tight s/\tight h/\b∈oU/\c∈calls/\x∈names/\y∈names
def tight.to{n:Int}(h:tight n):small n:=⟨by have:=h.1; omega,by have:=h.2; omega⟩
def wT.to{n:Int}(h:wT n):small n:=by
 unfold wT at h;exact⟨by omega,by omega⟩
def oV.to{r:LG}(h:oV r):fI r:=by
 obtain⟨t,m,b,c,s,h,x,y,e,a,d,g,k,q⟩:=h;exact⟨t,m,b,c,s,h,x,y,e,a.to,d.to,g.to,k.to,q⟩
def fI.eta{r:LG}(h:fI r):bF [.I,.I,.str,.str,.I,.I,.str,.str] r=r:=by
 obtain⟨t,m,b,c,s,h,x,y,rfl,_⟩:=h;rfl
def QV(l:LL)(a:Int)(k:0<=a)(q:a<=900000):aa (zp [.l l,.i a]) fun g=>∃ v,g=[.l l,.i (a+2),.s v]/\v∈calls:=by
 unfold zp;dsimp +instances only[go_sem];have d:a+1+1=a+2:=by omega
 refine aa.call (qp l a 60 k (by omega) (by omega) (by omega)) ?_;rintro _ ⟨b,rfl⟩;dsimp +instances only[go_sem];cases b with
 | true =>
  (repeat first|refine aa.p ?_|refine aa.n ?_);refine aa.call (sb calls l (a+1) _ (by omega) (by omega) (by kernel_rfl) (by kernel_rfl)) ?_;rintro _ ⟨v,rfl,h⟩;exact aa.some ⟨v,by(dsimp +instances only[go_sem]); rw[d],h⟩
 | false =>
  (repeat first|refine aa.p ?_|refine aa.n ?_);refine aa.call (sb calls l (a+1) _ (by omega) (by omega) (by kernel_rfl) (by kernel_rfl)) ?_;rintro _ ⟨v,rfl,h⟩;exact aa.some ⟨v,by(dsimp +instances only[go_sem]); rw[d],h⟩
def agk(l:LL)(a t:Int)(O:0<=a)(X:a<=800000)(d:wT t) :
  aa (Dj [.l l,.i a,.i t]) fun g=>∃ b r,g=[.l l,.i b,.l [r]]/\a<=b/\b<=a+20/\oV r:=by
 unfold wT at d;unfold Dj;dsimp +instances only[go_sem];refine aa.call (uj 1 3 l a _ O (by omega) (by kernel_rfl) (by kernel_rfl)) ?_;rintro _ ⟨m,rfl,hm⟩;dsimp +instances only[go_sem];refine aa.call (sb oU l _ _ (by omega) (by omega) (by kernel_rfl) (by kernel_rfl)) ?_;rintro _ ⟨v,rfl,w⟩;dsimp +instances only[go_sem];refine aa.call (QV l _ (by omega) (by omega)) ?_;rintro _ ⟨c,rfl,q⟩;dsimp +instances only[go_sem];refine aa.call (uj 0 7 l _ _ (by omega) (by omega) (by kernel_rfl) (by kernel_rfl)) ?_;rintro _ ⟨s,rfl,hs⟩;dsimp +instances only[go_sem];refine aa.call (uj 0 9 l _ _ (by omega) (by omega) (by kernel_rfl) (by kernel_rfl)) ?_;rintro _ ⟨h,rfl,hh⟩;dsimp +instances only[go_sem];refine aa.call (sb names l _ _ (by omega) (by omega) (by kernel_rfl) (by kernel_rfl)) ?_;rintro _ ⟨x,rfl,z⟩;dsimp +instances only[go_sem];refine aa.call (sb names l _ _ (by omega) (by omega) (by kernel_rfl) (by kernel_rfl)) ?_;rintro _ ⟨y,rfl,A⟩;dsimp +instances only[go_sem];refine aa.call (qp l _ 100 (by omega) (by omega) (by omega) (by omega)) ?_;rintro _ ⟨f,rfl⟩;dsimp +instances only[go_sem];cases f with
 | false =>
  (repeat first|refine aa.p ?_|refine aa.n ?_);exact aa.some ⟨_,_,rfl,by omega,by omega,t,m,v,c,s,h,x,y,rfl,d,⟨by omega,by omega⟩,⟨by omega,by omega⟩,⟨by omega,by omega⟩,w,q,z,A⟩
 | true =>
  (repeat first|refine aa.p ?_|refine aa.n ?_);refine aa.call (oT l _ 4 (by omega) (by omega) (by omega) (by omega)) ?_;rintro _ ⟨k,rfl,hk⟩;dsimp +instances only[go_sem];by_cases B:k=0
  ·subst B
   (repeat first|refine aa.p ?_|refine aa.n ?_);refine aa.call (Eb l _ 0 500 (by omega) (by omega) (by omega) (by omega) (by omega)) ?_;rintro _ ⟨t',rfl,Y⟩;dsimp +instances only[go_sem];refine aa.call (Eb l _ 1 3 (by omega) (by omega) (by omega) (by omega) (by omega)) ?_;rintro _ ⟨m',rfl,hm'⟩;dsimp +instances only[go_sem];exact aa.some ⟨_,_,rfl,by omega,by omega,t',m',v,c,s,h,x,y,rfl,⟨by omega,by omega⟩,⟨by omega,by omega⟩,⟨by omega,by omega⟩,⟨by omega,by omega⟩,w,q,z,A⟩
  ·refine aa.neg (by simpa using B) ?_
   by_cases F:k=1
   ·subst F
    (repeat first|refine aa.p ?_|refine aa.n ?_);refine aa.call (sb oU l _ _ (by omega) (by omega) (by kernel_rfl) (by kernel_rfl)) ?_;rintro _ ⟨U,rfl,J⟩;dsimp +instances only[go_sem];exact aa.some ⟨_,_,rfl,by omega,by omega,t,m,U,c,s,h,x,y,rfl,d,⟨by omega,by omega⟩,⟨by omega,by omega⟩,⟨by omega,by omega⟩,J,q,z,A⟩
   ·refine aa.neg (by simpa using F) ?_
    by_cases I:k=2
    ·subst I
     (repeat first|refine aa.p ?_|refine aa.n ?_);refine aa.call (Eb l _ 0 99999 (by omega) (by omega) (by omega) (by omega) (by omega)) ?_;rintro _ ⟨s',rfl,hs'⟩;dsimp +instances only[go_sem];refine aa.call (Eb l _ 0 99999 (by omega) (by omega) (by omega) (by omega) (by omega)) ?_;rintro _ ⟨h',rfl,hh'⟩;dsimp +instances only[go_sem];exact aa.some ⟨_,_,rfl,by omega,by omega,t,m,v,c,s',h',x,y,rfl,d,⟨by omega,by omega⟩,⟨by omega,by omega⟩,⟨by omega,by omega⟩,w,q,z,A⟩
    ·refine aa.neg (by simpa using I) ?_
     refine aa.call (sb names l _ _ (by omega) (by omega) (by kernel_rfl) (by kernel_rfl)) ?_;rintro _ ⟨V,rfl,M⟩;dsimp +instances only[go_sem];refine aa.call (sb names l _ _ (by omega) (by omega) (by kernel_rfl) (by kernel_rfl)) ?_;rintro _ ⟨W,rfl,N⟩;dsimp +instances only[go_sem];exact aa.some ⟨_,_,rfl,by omega,by omega,t,m,v,c,s,h,V,W,rfl,d,⟨by omega,by omega⟩,⟨by omega,by omega⟩,⟨by omega,by omega⟩,w,q,M,N⟩
def lp(a b:Int):Int:=if a<b then -1 else if b<a then 1 else 0
def QW:∀{a b:List UInt8},xr a b=0->a=b
 | [],[],_=>rfl
 | [],_::_,h=>by simp[xr]at h
 |_::_,[],h=>by simp[xr]at h
 | x::a,y::b,h=>by
  unfold xr at h;split at h
  ·cases h
  ·split at h
   ·cases h
   ·rename_i d g
    rw[QW h,UInt8.le_antisymm (akq.1 g) (akq.1 d)]
def QX:∀ a:List UInt8,xr a a=0
 | []=>rfl
 |x::a=>by simp[xr,QX a]
def Ec(a b:BY):(a.toList==b.toList)=decide (iL a b=0):=by
 rw[A',A',fP,dT,beq_iff_eq];constructor
 ·intro h
  unfold iL;rw[h];exact QX _
 ·exact fun h=>QW h
def wU(a b c d:Int):Int:=if a≠0 then a else if b≠0 then b else if c≠0 then c else d
def dq(r s:LG):Int:=wU (lp (gi r 0).iV (gi s 0).iV) (iL (gi r 3).sV (gi s 3).sV) (iL (gi r 2).sV (gi s 2).sV) (lp (gi r 1).iV (gi s 1).iV)
def sign_eq(a b:Int):zq [.i (a-b)]=some [.i (lp a b)]:=by
 refine aa.toEq ?_;unfold zq lp;dsimp +instances only[go_sem];by_cases d:a<b
 ·(repeat first|refine aa.p ?_|refine aa.n ?_)
  exact aa.some (by simp[d])
 ·by_cases g : b < a
  ·(repeat first|refine aa.p ?_|refine aa.n ?_)
   exact aa.some (by simp[d,g])
  ·(repeat first|refine aa.p ?_|refine aa.n ?_)
   exact aa.some (by simp[d,g])
def IW{r s:LG}(k:fI r)(q:fI s):nZ [.l [r],.l [s]]=some [.i (dq r s)]:=by
 obtain⟨t,m,b,c,_,_,_,_,rfl,A,hm,_⟩:=k;obtain⟨t',m',a,d,_,_,_,_,rfl,w,y,_⟩:=q;unfold small at *;refine aa.toEq ?_;unfold nZ dq wU;dsimp +instances only[go_sem];simp only[Ec];by_cases v:t=t'
 ·subst v
  have z:lp t t=0:=by simp[lp]
  simp only[z];(repeat first|refine aa.p ?_|refine aa.n ?_);by_cases g:iL c d=0
  ·simp only [g]
   (repeat first|refine aa.p ?_|refine aa.n ?_);by_cases h:iL b a=0
   ·simp only [h]
    (repeat first|refine aa.p ?_|refine aa.n ?_);refine aa.cE (sign_eq m m') ?_;dsimp +instances only[go_sem];exact aa.some (by simp)
   ·refine aa.pos (by simpa using h) (aa.call (aa.eq (rfl : lj [.s b, .s a] = some [.i (iL b a)])) ?_)
    rintro _ rfl;dsimp +instances only[go_sem];exact aa.some (by simp[h])
  ·refine aa.pos (by simpa using g) (aa.call (aa.eq (rfl : lj [.s c, .s d] = some [.i (iL c d)])) ?_)
   rintro _ rfl;dsimp +instances only[go_sem];exact aa.some (by simp[g])
 ·(repeat first|refine aa.p ?_|refine aa.n ?_)
  refine aa.cE (sign_eq t t') ?_;dsimp +instances only[go_sem];have z:lp t t'≠0:=by
   unfold lp;split
   ·omega
   ·split<;>omega
  exact aa.some (by simp[z])
def Ed(a b:Int):zL [.i a,.i b]=some [.i (lp a b)]:=by
 refine aa.toEq ?_;unfold zL DH lp;dsimp +instances only[go_sem];simp only[bne_self_eq_false];refine aa.call ⟨_,rfl,rfl⟩ ?_;rintro _ rfl;refine aa.call ⟨_,rfl,rfl⟩ ?_;rintro _ rfl;dsimp +instances only[go_sem];(repeat first|refine aa.p ?_|refine aa.n ?_);by_cases d:a<b
 ·(repeat first|refine aa.p ?_|refine aa.n ?_)
  exact aa.some (by simp[d])
 ·by_cases g : b < a
  ·(repeat first|refine aa.p ?_|refine aa.n ?_)
   exact aa.some (by simp[d,g])
  ·(repeat first|refine aa.p ?_|refine aa.n ?_)
   exact aa.some (by simp[d,g])
def sc:LL->Int
 | []=>0
 |x::q=>if (gi x 0).iV≠0 then (gi x 0).iV else sc q
def QY:∀(q p:LL),p.length+q.length<100000 ->
  bl wI [.i 0,.l (p++q),.i ((p.length+q.length:Nat):Int),.i (p.length:Int)] (q.length+1) fun c g=>c<=1/\g=[.i (sc q)]
 | [],p,b=>by
  refine bl.stop (x:=1) (aa.toEq ?_) ⟨by omega,rfl⟩;unfold wI;dsimp +instances only[go_sem];(repeat first|refine aa.p ?_|refine aa.n ?_);exact aa.some rfl
 | y::q,p,b=>by
  simp only[bW]at b;have d:(p++y::q).getD (p.length:Int).toNat []=y:=lg _ _ _ _ _ (by simp);have a:(p++y::q).length=p.length+q.length+1:=by simp; omega
  by_cases he:(gi y 0).iV=0
  ·have h := QY q (p ++ [y]) (by simp; omega)
   have e:sc (y::q)=sc q:=by simp[sc,he]
   rw[e];refine bl.next (aa.toEq ?_) h
   unfold wI;dsimp +instances only[go_sem];simp only[d,a,bW];(repeat first|refine aa.p ?_|refine aa.n ?_);refine aa.some ?_;simp;omega
  ·refine bl.stop (x := 0) (aa.toEq ?_) ⟨by omega, rfl⟩
   unfold wI;dsimp +instances only[go_sem];simp only[d,a,bW];(repeat first|refine aa.p ?_|refine aa.n ?_);refine aa.some ?_;simp[sc,he]
def or_eq(a b c d:Int):DI [.l [[.i a],[.i b],[.i c],[.i d]]]=some [.i (wU a b c d)]:=by
 refine aa.toEq ?_;unfold DI;dsimp +instances only[go_sem];have h:=QY [[.i a],[.i b],[.i c],[.i d]] [] (by simp);refine aa.loop (h.to (by simp)) (by(first|rfl|assumption|(simp only[aF,sl]<;>omega))) ?_;rintro x g ⟨w,rfl⟩;have e:sc [[.i a],[.i b],[.i c],[.i d]]=wU a b c d:=by
  simp only[sc,wU];dsimp +instances only[go_sem];by_cases k:a=0<;>by_cases q:b=0<;>by_cases t:c=0<;>by_cases v:d=0<;>simp[k,q,t,v]
 rw[e];dsimp +instances only[go_sem];exact aa.test (fun _=>aa.some rfl) fun _=>aa.some rfl
def agl{r s:LG}(g:fI r)(h:fI s):qm [.l [r],.l [s]]=some [.i (dq r s)]:=by
 obtain⟨t,m,b,c,_,_,_,_,rfl,v,hm,_⟩:=g;obtain⟨t',m',a,d,_,_,_,_,rfl,k,q,_⟩:=h;refine aa.toEq ?_;unfold qm;dsimp +instances only[go_sem];refine aa.cE (Ed t t') ?_;refine aa.cE (rfl:lj [.s c,.s d]=some [.i (iL c d)]) ?_;refine aa.cE (rfl:lj [.s b,.s a]=some [.i (iL b a)]) ?_;refine aa.cE (Ed m m') ?_;dsimp +instances only[go_sem];refine aa.cE (or_eq _ _ _ _) ?_;exact aa.some rfl
def agm:rO [.I,.I,.str,.str,.I,.I,.str,.str] nZ fI dq:=⟨fun _ _ a b=>IW a b,fun _ h=>h.eta⟩
def ca(v lo hi:Int):Bool:=aR lo v&&aR v hi
def Ao(v lo hi:Int):oQ [.i v,.i lo,.i hi]=some [.t (ca v lo hi)]:=by
 unfold oQ ca;dsimp +instances only[go_sem];cases aR lo v<;>rfl
def kG(v lo hi:Int):lX [.i v,.i lo,.i hi]=some [.t (!ca v lo hi)]:=by
 unfold lX ca;dsimp +instances only[go_sem];have a:aK v lo = !aR lo v:=by rw[be,bz,fP]; simp
 have b:aK hi v = !aR v hi:=by rw[be,bz,fP]; simp
 rw[a,b];cases aR lo v<;>cases aR v hi<;>rfl
def mR(s:BY):Bool:=qt [⟨#[98,50,48]⟩,⟨#[98,52,48]⟩,⟨#[102,105,110]⟩,⟨#[117,115,97]⟩] s
def mS(s:BY):Bool:=qt [⟨#[]⟩] s||mR s
def qu(s:BY):Bool:=(gi ((rU [.s s]).getD []) 0).bV
def agn{s:BY}(h:s∈oU\/s∈names):rT [.s s]=some [.t (mR s)]:=by
 simp only[oU,names,cf,jf,or_false]at h;rcases h with(rfl|rfl|rfl|rfl)|(rfl|rfl|rfl|rfl|rfl)<;>kernel_rfl
def IX{s:BY}(h:s∈oU\/s∈names):ql [.s s]=some [.t (mR s)]:=by
 simp only[oU,names,cf,jf,or_false]at h;rcases h with(rfl|rfl|rfl|rfl)|(rfl|rfl|rfl|rfl|rfl)<;>kernel_rfl
def QZ{s:BY}(h:s∈names):wG [.s s]=some [.t (mS s)]:=by
 simp only[names,cf,jf,or_false]at h;rcases h with(rfl|rfl|rfl|rfl|rfl)<;>kernel_rfl
def ago{s:BY}(h:s∈calls):rU [.s s]=some [.t (qu s)]:=by
 simp only[calls,cf,jf,or_false]at h;rcases h with(rfl|rfl|rfl|rfl|rfl|rfl|rfl|rfl|rfl|rfl|rfl|rfl|rfl|rfl)<;>kernel_rfl
def agp{s:BY}(h:s∈calls):ug [.s s]=some [.t (qu s)]:=by
 simp only[calls,cf,jf,or_false]at h;rcases h with(rfl|rfl|rfl|rfl|rfl|rfl|rfl|rfl|rfl|rfl|rfl|rfl|rfl|rfl)<;>kernel_rfl
def jt(r:LG):Int :=
 bif !ca (gi r 0).iV 0 345686399999 then 1 else bif !ca (gi r 1).iV 1 3 then 4 else bif !mR (gi r 2).sV then 5 else bif !qu (gi r 3).sV then 3 else
 bif !ca (gi r 4).iV 0 99999 then 1 else bif !ca (gi r 5).iV 0 99999 then 1 else bif !mS (gi r 6).sV then 5 else bif !mS (gi r 7).sV then 5 else 0
def agq{r:LG}(a:fI r):wH [.l [r]]=some [.i (jt r)]:=by
 obtain⟨t,m,b,c,s,h,x,y,rfl,_,_,_,_,d,g,k,q⟩:=a;unfold wH DF DG jt;dsimp +instances only[go_sem];have v:=agn (.inl d);have w:=QZ k;have z:=QZ q;have A:=ago g;rw[kG t,kG m];rw[v,A,kG s,kG h,w,z];generalize ca t 0 345686399999=B;generalize ca m 1 3=F;generalize mR b=I;generalize qu c=J;generalize ca s 0 99999=M;generalize ca h 0 99999=N;generalize mS x=O;generalize mS y=U;cases B<;>cases F<;>cases I<;>cases J<;>cases M<;>cases N<;>cases O<;>cases U<;>rfl
def empty_eq(s:BY):(s.toList==(⟨#[]⟩:BY).toList)=qt [⟨#[]⟩] s:=by
 rw[A',A'];simp only[qt,wq,akr,List.any_nil,To];rw[fP];simp only[beq_iff_eq];exact eq_comm
def agr{r:LG}(k:fI r):wO [.l [r]]=some [.i (jt r)]:=by
 obtain⟨t,m,b,c,s,h,x,y,rfl,_,_,_,_,q,v,w,A⟩:=k;unfold wO Dl jt mS;dsimp +instances only[go_sem];have B:=IX (.inl q);have F:=IX (.inr w);have I:=IX (.inr A);have J:=agp v;have a:=empty_eq x;have d:=empty_eq y;generalize (⟨#[]⟩:BY)=z at a d|-;simp only[Ao,NY rfl,B,J,F,I];dsimp +instances only[go_sem];rw[a,d];generalize ca t 0 345686399999=M;generalize ca m 1 3=N;generalize mR b=O;generalize qu c=U;generalize ca s 0 99999=V;generalize ca h 0 99999=W;generalize mR x=X;generalize mR y=Y;generalize qt [z] x=b9;generalize qt [z] y=g;cases M<;>cases N<;>cases O<;>cases U<;>cases V<;>cases W<;>cases X<;>cases Y<;>cases b9<;>cases g<;>rfl
def lZ(K:List Kd)(C D:LG->Option LG)(d:LG):Option (Option Nat × LG) :=
 (bif (aK (gi d 3).iV (gi d 2).iV) then (bif ((cA (gi d 3).iV)&&(aK (gi d 3).iV (((gi d 1).rZ.length:Nat):Int))) then (aj (C [.l [(bF K ((gi d 1).rZ.getD (((gi d 3).iV).toNat) []))]]) fun a=>(bif ((gi a 0).iV != 0) then some (some 0,[.i (gi a 0).iV]) else (bif (aK 0 (gi d 3).iV) then (bif (aF ((gi d 3).iV-1)) then (bif ((cA ((gi d 3).iV-1))&&(aK ((gi d 3).iV-1) (((gi d 0).rZ.length:Nat):Int))) then (aj (D [.l [(bF K ((gi d 0).rZ.getD (((gi d 3).iV-1).toNat) []))],.l [(bF K ((gi d 1).rZ.getD (((gi d 3).iV).toNat) []))]]) fun b=>(bif (aR 0 (gi b 0).iV) then some (some 0,[.i 7]) else (bif (aF ((gi d 3).iV+1)) then some (none,[.l (gi d 0).rZ,.l (gi d 1).rZ,.i (gi d 2).iV,.i ((gi d 3).iV+1)]) else none))) else none) else none) else (bif (aF ((gi d 3).iV+1)) then some (none,[.l (gi d 0).rZ,.l (gi d 1).rZ,.i (gi d 2).iV,.i ((gi d 3).iV+1)]) else none)))) else none) else some (some 1,[]))
def Ee(K:List Kd)(C D:LG->Option LG)(d:LG):Option LG :=
 (bif (aK 2000 (((gi d 0).rZ.length:Nat):Int)) then some [.i 2] else (bT true (cd (lZ K C D) [.l (gi d 0).rZ,.l (gi d 0).rZ,.i (((gi d 0).rZ.length:Nat):Int),.i 0]) fun a b=>(bif aH a 0 then some [.i (gi b 0).iV] else some [.i 0])))
def jM:Option LG->LL->Int
 |_,[]=>0
 |none,x::q=>if jt x≠0 then jt x else jM (some x) q
 |some y,x::q=>if jt x≠0 then jt x else if 0<=dq y x then 7 else jM (some x) q
def l4(l:LL):Int:=if 2000<l.length then 2 else jM none l
section
variable {C D:LG->Option LG} (hC:∀ r,fI r->C [.l [r]]=some [.i (jt r)]) (hD:∀ r s,fI r->fI s->D [.l [r],.l [s]]=some [.i (dq r s)])
include hC hD
theorem Q0:∀(q p:LL),(∀ z∈p++q,fI z)->p.length+q.length<100000 ->
  bl (lZ [.I,.I,.str,.str,.I,.I,.str,.str] C D) [.l (p++q),.l (p++q),.i ((p.length+q.length:Nat):Int),.i (p.length:Int)] (q.length+1) fun c g=>(c=0/\g=[.i (jM p.getLast? q)])\/c=1/\jM p.getLast? q=0
 | [],p,k,A=>by
  refine bl.stop (x:=1) (d':=[]) (aa.toEq ?_) (.inr ⟨rfl,by unfold jM; rfl⟩);unfold lZ;dsimp +instances only[go_sem];(repeat first|refine aa.p ?_|refine aa.n ?_);exact aa.some rfl
 | x::q,p,k,A=>by
  simp only[bW]at A;have a:fI x:=k x (by simp);have t:(p++x::q).getD (p.length:Int).toNat []=x:=lg _ _ _ _ _ (by simp);have h:(p++x::q).length=p.length+q.length+1:=by simp; omega
  by_cases b:jt x=0
  ·have w := Q0 q (p ++ [x]) (by simpa using k) (by simp; omega)
   rw[aks]at w;rcases xp p with rfl|⟨d,y,rfl⟩
   ·have e : jM ([] : LL).getLast? (x :: q) = jM (some x) q := by simp [jM, b]
    rw[e];refine bl.next (aa.toEq ?_) w
    unfold lZ;dsimp +instances only[go_sem];simp only[t,h,bW,a.eta];(repeat first|refine aa.p ?_|refine aa.n ?_);refine aa.cE (hC x a) ?_;dsimp +instances only[go_sem];simp only[b];(repeat first|refine aa.p ?_|refine aa.n ?_);refine aa.some ?_;simp;omega
   ·rw [xq] at *
    have v:fI y:=k y (by simp);have B:((d++[y])++x::q).getD (((d++[y]).length:Int)-1).toNat []=y:=by
     have e:(d++[y])++x::q=d++y::x::q:=by simp
     rw[e]; exact lg _ _ _ _ _ (by simp)
    have M:(d++[y]).length=d.length+1:=by simp
    have J:(d++[y]).getLast? = some y:=by simp
    rw[J];by_cases F:0<=dq y x
    ·refine bl.stop (x := 0) (d' := [.i 7]) (aa.toEq ?_) (.inl ⟨rfl, by simp [jM, b, F]⟩)
     unfold lZ;dsimp +instances only[go_sem];simp only[t,B,h,bW,a.eta,v.eta];(repeat first|refine aa.p ?_|refine aa.n ?_);refine aa.cE (hC x a) ?_;dsimp +instances only[go_sem];simp only[b];(repeat first|refine aa.p ?_|refine aa.n ?_);refine aa.cE (hD y x v a) ?_;dsimp +instances only[go_sem];(repeat first|refine aa.p ?_|refine aa.n ?_);exact aa.some rfl
    ·have e : jM (some y) (x :: q) = jM (some x) q := by simp [jM, b, F]
     rw[e];refine bl.next (aa.toEq ?_) w
     unfold lZ;dsimp +instances only[go_sem];simp only[t,B,h,bW,a.eta,v.eta];(repeat first|refine aa.p ?_|refine aa.n ?_);refine aa.cE (hC x a) ?_;dsimp +instances only[go_sem];simp only[b];(repeat first|refine aa.p ?_|refine aa.n ?_);refine aa.cE (hD y x v a) ?_;dsimp +instances only[go_sem];(repeat first|refine aa.p ?_|refine aa.n ?_);refine aa.some ?_;simp;omega
  ·refine bl.stop (x := 0) (d' := [.i (jt x)]) (aa.toEq ?_) (.inl ⟨rfl, by cases N : p.getLast? <;> simp [jM, b]⟩)
   unfold lZ;dsimp +instances only[go_sem];simp only[t,h,bW,a.eta];(repeat first|refine aa.p ?_|refine aa.n ?_);refine aa.cE (hC x a) ?_;dsimp +instances only[go_sem];refine aa.pos (by simpa using b) (aa.some rfl)
theorem Q1(l:LL)(b:∀ z∈l,fI z)(d:l.length<100000):Ee [.I,.I,.str,.str,.I,.I,.str,.str] C D [.l l]=some [.i (l4 l)]:=by
 refine aa.toEq ?_;unfold Ee l4;dsimp +instances only[go_sem];by_cases h:2000<l.length
 ·(repeat first|refine aa.p ?_|refine aa.n ?_)
  exact aa.some (by simp[h])
 ·(repeat first|refine aa.p ?_|refine aa.n ?_)
  have a:=Q0 hC hD l [] (by simpa using b) (by simpa using d);have k:((0:Nat):Int)=0:=rfl;simp only[nm,kf,eo,k]at a;refine aa.loop (a.to (by omega)) (by(first|rfl|assumption|(simp only[aF,sl]<;>omega))) ?_;rintro c g (⟨rfl,rfl⟩|⟨rfl,q⟩)
  ·(dsimp +instances only [go_sem])
   (repeat first|refine aa.p ?_|refine aa.n ?_);refine aa.some ?_;rw[iN h];rfl
  ·(repeat first|refine aa.p ?_|refine aa.n ?_)
   refine aa.some ?_;rw[iN h];exact congrArg (fun z=>[G.i z]) q.symm
end
def Q2(l:LL)(a:∀ z∈l,fI z)(b:l.length<100000):wJ [.l l]=some [.i (l4 l)] :=
 Q1 (fun _ h=>agq h) (fun _ _ h h'=>agl h h') l a b
def IY(l:LL)(a:∀ z∈l,fI z)(b:l.length<100000):wP [.l l]=some [.i (l4 l)] :=
 Q1 (fun _ h=>agr h) (fun _ _ h h'=>IW h h') l a b
def Q3(l:LL)(n:Nat)(M:n<=20):∀(k i:Nat) (a t:Int) (acc:LL),i+k=n->0<=a->a<=700000+21*i -> -(1500000*(i:Int))<=t->t<=1500000*(i:Int)->(∀ z∈acc,oV z)->acc.length=i ->
  bl wz [.l l,.i a,.l acc,.i t,.i (n:Int),.i (i:Int)] (k+1) fun c g=>c=0/\∃ b rZ,g=[.l l,.i b,.l rZ]/\a<=b/\b<=a+21*k/\(∀ z∈rZ,oV z)/\rZ.length=n
 | 0,i,a,t,acc,hi,w,B,N,F,q,y=>by
  refine bl.stop (x:=0) (aa.toEq ?_) ⟨rfl,a,acc,rfl,by omega,by omega,q,by omega⟩;unfold wz;dsimp +instances only[go_sem];(repeat first|refine aa.p ?_|refine aa.n ?_);exact aa.some rfl
 | k+1,i,a,t,acc,hi,w,B,N,F,q,y=>by
  have key:aa (wz [.l l,.i a,.l acc,.i t,.i (n:Int),.i (i:Int)]) fun o=>∃ b r v,o=(none,[.l l,.i b,.l (acc++[r]),.i (t+v),.i (n:Int),.i ((i:Int)+1)])/\a<=b/\b<=a+21/\oV r/\0<=v/\v<=1500000:=by
   unfold wz;dsimp +instances only[go_sem];(repeat first|refine aa.p ?_|refine aa.n ?_);refine aa.call (uj 0 1500000 l a _ w (by omega) (by kernel_rfl) (by kernel_rfl)) ?_;rintro _ ⟨v,rfl,I,J⟩;dsimp +instances only[go_sem];(repeat first|refine aa.p ?_|refine aa.n ?_);refine aa.call (agk l (a+1) (t+v) (by omega) (by omega) ⟨by omega,by omega⟩) ?_;rintro _ ⟨b,r,rfl,Y,hb1,A⟩;dsimp +instances only[go_sem];simp only[A.to.eta];(repeat first|refine aa.p ?_|refine aa.n ?_);exact aa.some ⟨b,r,v,rfl,by omega,by omega,A,I,J⟩
  obtain⟨_,h,b,r,v,rfl,h1,h2,O,h4,h5⟩:=key;have U:=Q3 l n M k (i+1) b (t+v) (acc++[r]) (by omega) (by omega) (by omega) (by omega) (by omega) (by
   intro z d;rcases cN.1 d with d|d
   ·exact q z d
   ·simp at d; exact d▸O) (by simp[y])
  refine bl.next h (U.mono ?_)
  rintro c g ⟨rfl,V,rZ,rfl,q1,q2,W,X⟩;exact⟨rfl,V,rZ,rfl,by omega,by omega,W,X⟩
def ags(rZ:LL)(a:∀ y∈rZ,fI y)(b:rZ.length<=20):zt [.l rZ]=some [.l (eS (dQ dq) rZ)] :=
 Ia agm rZ a b
def wV(r s:LG):Bool:=dq r s==0
def agt:Db [.I,.I,.str,.str,.I,.I,.str,.str] zu fI wV:=⟨fun r s a b=>by
 refine aa.toEq ?_;unfold zu;dsimp +instances only[go_sem];simp only[a.eta,b.eta];refine aa.cE (IW a b) ?_;exact aa.some rfl,fun _ h=>h.eta⟩
def zC:LG:=[.i 0,.i 0,.s (⟨#[]⟩:BY),.s (⟨#[]⟩:BY),.i 0,.i 0,.s (⟨#[]⟩:BY),.s (⟨#[]⟩:BY)]
def Q4(l:LL)(a n:Int)(q:0<=a)(y:a<=700000)(t:0<=n)(F:n<=20) :
  aa (zw [.l l,.i a,.i n]) fun g=>∃ b rZ,g=[.l l,.i b,.l rZ]/\a<=b/\b<=a+420/\(∀ z∈rZ,oV z)/\(rZ.length:Int)<=n:=by
 obtain⟨n,rfl⟩:=sG t;unfold zw;dsimp +instances only[go_sem];have v:=Q3 l n (by omega) n 0 a 0 [] (by omega) q (by omega) (by omega) (by omega) (by simp) rfl;refine aa.loop (v.to (by omega)) (by(first|rfl|assumption|(simp only[aF,sl]<;>omega))) ?_;rintro c g ⟨rfl,b,rZ,rfl,I,M,h,N⟩;dsimp +instances only[go_sem];refine aa.lT (aa.eq (ags rZ (fun z d=>(h z d).to) (by omega))) (by(first|rfl|assumption|(simp only[aF,sl]<;>omega))) ?_;rintro _ rfl;dsimp +instances only[go_sem];have k:=C' (lt:=dQ dq) h;have A:=zf (dQ dq) rZ;refine aa.lT (P:=fun g=>∃ J,g=[.l (kD wV (eS (dQ dq) rZ)++J),.i ((kD wV (eS (dQ dq) rZ)).length:Int)]/\(kD wV (eS (dQ dq) rZ)++J).length=(eS (dQ dq) rZ).length)
  (YR (Z:=zC) agt (eS (dQ dq) rZ) (fun z d=>(k z d).to) (by omega)) (by(first|rfl|assumption|(simp only[aF,sl]<;>omega))) ?_
 rintro _ ⟨J,rfl,w⟩;dsimp +instances only[go_sem];have B:(kD wV (eS (dQ dq) rZ)).length<=(eS (dQ dq) rZ).length:=YQ _ _;simp only[w];(repeat first|refine aa.p ?_|refine aa.n ?_);refine aa.some ⟨b,kD wV (eS (dQ dq) rZ),by simp,by omega,by omega,fun z d=>k z (YP d),by omega⟩
def Q5(x y:Int):zV [.l [[.i x],[.i y]]]=some [.i (bif x != 0 then x else y)]:=by
 refine aa.toEq ?_;unfold zV;dsimp +instances only[go_sem];have key:bl zU [.l [[.i x],[.i y]],.i 2,.i 0] 3 fun c g=>(c=0/\g=[.i (bif x != 0 then x else y)])\/c=1/\(bif x != 0 then x else y)=0:=by
  by_cases a:x=0
  ·subst a
   refine bl.next (d1:=[.l [[.i 0],[.i y]],.i 2,.i 1]) rfl ?_
   by_cases b:y=0
   ·subst b
    refine bl.next (d1:=[.l [[.i 0],[.i 0]],.i 2,.i 2]) rfl ?_
    exact bl.stop (x:=1) (d':=[]) rfl (.inr ⟨rfl,rfl⟩)
   ·refine bl.stop (x := 0) (d' := [.i y]) (aa.toEq ?_) (.inl ⟨rfl, rfl⟩)
    unfold zU;dsimp +instances only[go_sem];refine aa.pos rfl (aa.pos rfl (aa.pos (show (y != 0)=true from by simpa using b) (aa.some rfl)))
  ·have e:(bif x != 0 then x else y)=x:=by
    have:(x != 0)=true:=by simpa using a
    rw[this];rfl
   rw[e];refine bl.stop (x:=0) (d':=[.i x]) (aa.toEq ?_) (.inl ⟨rfl,rfl⟩);unfold zU;dsimp +instances only[go_sem];refine aa.pos rfl (aa.pos rfl (aa.pos (show (x != 0)=true from by simpa using a) (aa.some rfl)))
 refine aa.loop (key.to (by omega)) rfl ?_;rintro c g (⟨rfl,rfl⟩|⟨rfl,h⟩)
 ·exact aa.some rfl
 ·exact aa.some (by rw[h])
def Q6:D4 []=some [.t true]:=by kernel_rfl
def IZ:∀{l:LL} {o:Option LG},jM o l=0->∀ x∈l,jt x=0
 | [],_,_,x,a=>by cases a
 | y::l,none,h,x,a=>by
  simp only[jM]at h;by_cases b:jt y=0
  ·rw [iN (by simpa using b)] at h
   rcases cf.1 a with rfl|a
   ·exact b
   ·exact IZ h x a
  ·rw [iP b] at h
   exact(b h).elim
 | y::l,some z,h,x,a=>by
  simp only[jM]at h;by_cases b:jt y=0
  ·rw [iN (by simpa using b)] at h
   split at h
   ·cases h
   ·rcases cf.1 a with rfl | a
    ·exact b
    ·exact IZ h x a
  ·rw [iP b] at h
   exact(b h).elim
def I0{l:LL}(h:l4 l=0):∀ x∈l,jt x=0:=by
 unfold l4 at h;split at h
 ·cases h
 ·exact IZ h
structure akU (s:LL × LL) (i:Nat):Prop where
 l1:s.1.length<=i
 l2:s.2.length<=i
 r1:∀ r∈s.1,∃ a b,r=[.i a,.i b]/\0<=b/\b<=i+1
 r2:∀ r∈s.2,∃ a,r=[.i a]
def Q7(l:LL)(n:Int)(q:0<=n)(t:n<=20):∀(k i:Nat) (a:Int),i+k=5->0<=a->a<=5000+420*(i:Int) ->
  bl wQ [.l l,.i a,.i n,.i (i:Int)] (k+1) fun c g=>(c=0/\∃ b rZ,g=[.l l,.i b,.l rZ]/\0<=b/\b<=10000/\(∀ z∈rZ,oV z)/\(rZ.length:Int)<=n/\l4 rZ=0)\/(c=1/\∃ b,g=[.l l,.i b]/\0<=b/\b<=10000)
 | 0,i,a,hi,d,A=>by
  refine bl.stop (x:=1) (aa.toEq ?_) (.inr ⟨rfl,a,rfl,d,by omega⟩);unfold wQ;dsimp +instances only[go_sem];(repeat first|refine aa.p ?_|refine aa.n ?_);exact aa.some rfl
 | k+1,i,a,hi,d,A=>by
  have key:aa (wQ [.l l,.i a,.i n,.i (i:Int)]) fun o=>(∃ b rZ,o=(some 0,[.l l,.i b,.l rZ])/\0<=b/\b<=10000/\(∀ z∈rZ,oV z)/\(rZ.length:Int)<=n/\l4 rZ=0) \/
    ∃ b,o=(none,[.l l,.i b,.i n,.i ((i+1:Nat):Int)])/\a<=b/\b<=a+420:=by
   unfold wQ;dsimp +instances only[go_sem];(repeat first|refine aa.p ?_|refine aa.n ?_);refine aa.call (Q4 l a n d (by omega) q t) ?_;rintro _ ⟨b,rZ,rfl,B,F,v,I⟩;dsimp +instances only[go_sem];refine aa.cE (IY rZ (fun z J=>(v z J).to) (by omega)) ?_;dsimp +instances only[go_sem];refine aa.test (fun h=>?_) fun h=>?_
   ·exact aa.some (.inl ⟨b,rZ,rfl,by omega,by omega,v,I,by simpa using h⟩)
   ·(repeat first|refine aa.p ?_|refine aa.n ?_)
    exact aa.some (.inr ⟨b,by simp,B,F⟩)
  obtain⟨_,h,⟨b,rZ,rfl,w,y,M,N,O⟩|⟨b,rfl,w,y⟩⟩:=key
  ·exact bl.stop h (.inl ⟨rfl,b,rZ,rfl,w,y,M,N,O⟩)
  ·exact bl.next h (Q7 l n q t k (i+1) b (by omega) (by omega) (by omega))
def agu(l:LL)(a n:Int)(h:0<=a)(w:a<=5000)(d:0<=n)(k:n<=20) :
  aa (D5 [.l l,.i a,.i n]) fun g=>∃ b rZ,g=[.l l,.i b,.l rZ]/\0<=b/\b<=10000/\(∀ z∈rZ,oV z)/\(rZ.length:Int)<=n/\l4 rZ=0:=by
 unfold D5;dsimp +instances only[go_sem];refine aa.loop ((Q7 l n d k 5 0 a rfl h (by omega)).to (by omega)) rfl ?_;rintro c g (⟨rfl,b,rZ,rfl,q⟩|⟨rfl,b,rfl,t,v⟩)
 ·exact aa.pos rfl (aa.some ⟨b,rZ,rfl,q⟩)
 ·exact aa.neg rfl (aa.some ⟨b,[],rfl,t,v,by simp,by simpa using d,rfl⟩)
def agv{a b:BY}(h:(a.toList==b.toList)=true):a=b:=by
 rw[A',A',beq_iff_eq]at h;exact ByteArray.ext (Array.toList_inj.1 h)
def agw{a b:BY}:iL a b=0↔a=b:=by
 have h:=Ec a b;constructor
 ·intro e
  rw[dE (p:=iL a b=0) e]at h;exact agv h
 ·rintro rfl
  have d:(a.toList==a.toList)=true:=by simp
  rw[d]at h;exact of_decide_eq_true h.symm
structure Q8 {α:Type} (c:α->α->Int):Prop where
 flip:∀ a b,c b a = - c a b
 eq:∀ a b,c a b=0->a=b
 tr:∀ a b d,c a b<0->c b d<0->c a d<0
def Q8.refl{α:Type}{c:α->α->Int}(h:Q8 c)(a:α):c a a=0:=by
 have:=h.flip a a;omega
def fw(step:Nat->Int):Nat->Int
 |0=>0
 |i+1=>if fw step i≠0 then fw step i else step i
def I1{step:Nat->Int}{i:Nat}(h:fw step i≠0):∀ k,fw step (i+k)=fw step i
 |0=>rfl
 | k+1=>by
  have a:=I1 h k;show (if fw step (i+k)≠0 then fw step (i+k) else step (i+k))=fw step i
  rw[a,iP h]
def Ap{step:Nat->Int}:∀{n:Nat},fw step n=0->∀ i,i<n->step i=0
 |0,_,i,hi=>by omega
 | n+1,h,i,hi=>by
  have a:fw step n=0:=by
   refine sC fun b=>b ?_;have:=I1 b 1;rw[<-this];exact h
  have h':(if fw step n≠0 then fw step n else step n)=0:=h;rw[iN (by simpa using a)]at h';rcases Nat.lt_or_ge i n with d|g
  ·exact Ap a i d
  ·have : i = n := by omega
   rw[this];exact h'
def Ef{st:LG->Option (Option Nat × LG)}(mk:Nat->LG)(n:Nat)(step:Nat->Int)(a:LG)(w:n<999999)
  (q:∀ i,i<n->aa (st (mk i)) fun o=>(step i=0/\o=(none,mk (i+1)))\/(step i≠0/\o=(some 0,[.i (step i)])))
  (t:aa (st (mk n)) fun o=>o=(some 1,a)) :
  iZ st (mk 0) fun c g=>(c=1/\fw step n=0/\g=a)\/(c=0/\g=[.i (fw step n)]/\fw step n≠0):=by
 refine((oO (σ:=Unit) (fun _ i=>mk i) n (fun _=>(1,a)) (fun _ i=>fw step i=0) (fun c g=>c=0/\g=[.i (fw step n)]/\fw step n≠0) ?_ (fun _ _=>t) n () 0 (by omega) rfl).to (by omega)).mono ?_
 ·rintro _ i b hi
  refine(q i hi).mono ?_;rintro _ (⟨v,rfl⟩|⟨d,rfl⟩)
  ·refine .inl ⟨(), rfl, ?_⟩
   show (if fw step i≠0 then fw step i else step i)=0
   rw[iN (by simpa using b)];exact v
  ·have e:fw step (i+1)=step i:=by
    show (if fw step i≠0 then fw step i else step i)=step i
    rw[iN (by simpa using b)]
   have k:fw step n=step i:=by
    have:=I1 (step:=step) (i:=i+1) (by rw[e]; exact d) (n-(i+1));rw[show i+1+(n-(i+1))=n by omega,e]at this;exact this
   exact .inr ⟨0,_,rfl,rfl,by rw[k],by rw[k]; exact d⟩
 ·rintro c g (⟨_, h, rfl, rfl⟩ | h)
  ·exact .inl ⟨rfl,h,rfl⟩
  ·exact .inr h
def agx{α:Type}(l:List α)(i j:Nat)(x z:α)(hi:i<l.length):(l.set i x).getD j z=if j=i then x else l.getD j z:=by
 by_cases h:j=i
 ·subst h
  simp[eh,hi]
 ·rw[iN h,eh,List.getElem?_set_ne (by omega),<-eh]
def agy:List BY:=[⟨#[97,108,108]⟩,⟨#[99,111,100,101]⟩,⟨#[65]⟩]
def agz:List BY:=[⟨#[]⟩,⟨#[107,112,50,48,108,102]⟩,⟨#[107,112,50,48]⟩]
def Q9(r:LG):Prop:=∃(c k:BY) (p:Int) (q:BY),r=[.s c,.s k,.i p,.s q]/\c∈calls/\k∈agy /\ -1099511627776<=p/\p<=1099511627776/\q∈agz
def Q9.eta{r:LG}(h:Q9 r):bF [.str,.str,.I,.str] r=r:=by
 obtain⟨c,k,p,q,rfl,_⟩:=h;rfl
def two:LL:=[[.s (⟨#[97,108,108]⟩:BY)],[.s (⟨#[99,111,100,101]⟩:BY)]]
def sd(n:Int):Prop := -1099511627776<=n/\n<=1099511627776
def agA(l:LL)(a lo hi:Int)(d:0<=a)(b:a<=1000000)(h:lo<=hi)(k : -1000<=lo)(q:hi<=400000000000) :
  aa (rP [.l l,.i a,.i lo,.i hi]) fun g=>∃ v,g=[.l l,.i (a+1),.i v]/\lo<=v/\v<=hi:=by
 unfold rP;dsimp +instances only[go_sem];(repeat first|refine aa.p ?_|refine aa.n ?_);refine aa.call (oT l a _ d b (by omega) (by omega)) ?_;rintro _ ⟨v,rfl,t,w⟩;dsimp +instances only[go_sem];(repeat first|refine aa.p ?_|refine aa.n ?_);exact aa.some ⟨_,rfl,by omega,by omega⟩
def Q_(l:LL)(a lo hi:Int)(q:0<=a)(z:a<=900000)(t:lo<=hi)(w : -1000<=lo)(y:hi<=400000000000) :
  aa (nY [.l l,.i a,.i lo,.i hi]) fun g=>∃ v,g=[.l l,.i (a+2),.i v]/\sd v:=by
 unfold nY;dsimp +instances only[go_sem];have d:a+1+1=a+2:=by omega
 refine aa.call (qp l a 12 q (by omega) (by omega) (by omega)) ?_;rintro _ ⟨b,rfl⟩;dsimp +instances only[go_sem];cases b with
 | true =>
  (repeat first|refine aa.p ?_|refine aa.n ?_);refine aa.call (Ea sd l (a+1) _ (by omega) (by omega) (by simp) (by simp) ?_) ?_
  ·intro x h
   unfold sd;simp only[cf,jf,or_false]at h;rcases h with rfl|rfl|rfl|rfl|rfl|rfl<;>(dsimp +instances only[go_sem])<;>omega
  ·rintro _ ⟨v, rfl, k⟩
   dsimp +instances only[go_sem];exact aa.some ⟨v,by rw[d],k⟩
 | false =>
  (repeat first|refine aa.p ?_|refine aa.n ?_);refine aa.call (agA l (a+1) lo hi (by omega) (by omega) t w y) ?_;rintro _ ⟨v,rfl,k,A⟩;dsimp +instances only[go_sem];exact aa.some ⟨v,by rw[d],by omega,by omega⟩
def agB:List BY:=[⟨#[102,117,108,108]⟩,⟨#[115,109,97,108,108]⟩,⟨#[]⟩,⟨#[65]⟩,⟨#[110,111,110,101]⟩]
def Mod(r:LG):Prop:=∃ m:Int,r=[.i m]/\0<=m/\m<=4
def Ra(r:LG):Prop:=∃(c:BY) (lo hi:Int) (a:LL) (f t:Int),r=[.s c,.i lo,.i hi,.l a,.i f,.i t]/\c∈agB/\sd lo/\sd hi/\(∀ z∈a,Mod z)/\a.length<=4/\sd f/\sd t
def Ra.eta{r:LG}(h:Ra r):bF [.str,.I,.I,.list [.I],.I,.I] r=r:=by
 obtain⟨c,lo,hi,a,f,t,rfl,_⟩:=h;rfl
def l5(n:Int):Prop := -2000000000000000<=n/\n<=2000000000000000
def l6:List BY:=[⟨#[98,49,54,48]⟩,⟨#[98,52,48]⟩,⟨#[98,51,48]⟩,⟨#[98,50,48]⟩,⟨#[]⟩]
def okB(s:BY):Bool:=qt [⟨#[98,49,54,48]⟩,⟨#[98,52,48]⟩,⟨#[98,51,48]⟩,⟨#[98,50,48]⟩] s
def agC{s:BY}(h:s∈l6):rT [.s s]=some [.t (okB s)]:=by
 simp only[l6,cf,jf,or_false]at h;rcases h with(rfl|rfl|rfl|rfl|rfl)<;>kernel_rfl
def agD{s:BY}(h:s∈l6):ql [.s s]=some [.t (okB s)]:=by
 simp only[l6,cf,jf,or_false]at h;rcases h with(rfl|rfl|rfl|rfl|rfl)<;>kernel_rfl
def agE{s:BY}(h:okB s=true):s≠(⟨#[]⟩:BY):=by
 rintro rfl;exact absurd h (by decide)
def dk(r:LG):Prop:=∃(k:BY) (lo hi:Int),r=[.s k,.i lo,.i hi]/\k∈l6/\l5 lo/\l5 hi
def dk.eta{r:LG}(h:dk r):bF [.str,.I,.I] r=r:=by
 obtain⟨k,lo,hi,rfl,_⟩:=h;rfl
def oW:LL:=[[.s (⟨#[98,49,54,48]⟩:BY),.i 1800000,.i 2000000],[.s (⟨#[98,52,48]⟩:BY),.i 7000000,.i 7300000],[.s (⟨#[98,51,48]⟩:BY),.i 7300000,.i 10150000],[.s (⟨#[98,50,48]⟩:BY),.i 14000000,.i 14350000]]
def gU(f:Bool)(i:Nat):LL:=bif f then [] else [oW.getD i []]
def oX(a b d g:Bool):LL:=((([]++gU a 0)++gU b 1)++gU d 2)++gU g 3
def Eg(l:LL)(a:Int)(out:LL)(i:Nat)(b:0<=a)(g:a<=900000)(hi:i<4)(h:out.length<=100) :
  aa (wy [.l l,.i a,.l out,.l oW,.i 4,.i (i:Int)]) fun o=>∃ f,o=(none,[.l l,.i (a+1),.l (out++gU f i),.l oW,.i 4,.i ((i+1:Nat):Int)]):=by
 have d:oW.length=4:=rfl;have he:bF [.str,.I,.I] (oW.getD i [])=oW.getD i []:=by
  have:i=0\/i=1\/i=2\/i=3:=by omega
  rcases this with rfl|rfl|rfl|rfl<;>rfl
 unfold wy;dsimp +instances only[go_sem];refine aa.p (aa.pos (by rw[d]; (first|rfl|assumption|(simp only[aF,sl]<;>omega))) ?_);refine aa.call (qp l a 8 b (by omega) (by omega) (by omega)) ?_;rintro _ ⟨f,rfl⟩;dsimp +instances only[go_sem];simp only[eH,he];cases f with
 | false =>
  (repeat first|refine aa.p ?_|refine aa.n ?_);exact aa.some ⟨false,by simp[gU]⟩
 | true =>
  (repeat first|refine aa.p ?_|refine aa.n ?_);exact aa.some ⟨true,by simp[gU]⟩
def agF(l:LL)(a:Int)(t:0<=a)(z:a<=800000) :
  aa (Dg [.l l,.i a]) fun g=>∃ b d h k,g=[.l l,.i (a+4),.l (oX b d h k)]:=by
 have q:∀ f i,(gU f i).length<=1:=by
  intro f i;cases f<;>simp[gU]
 obtain⟨_,v,b,rfl⟩:=Eg l a [] 0 t (by omega) (by omega) (by simp);obtain⟨_,s1,d,rfl⟩:=Eg l (a+1) ([]++gU b 0) 1 (by omega) (by omega) (by omega) (by have:=q b 0; simp; omega);obtain⟨_,s2,h,rfl⟩:=Eg l (a+1+1) (([]++gU b 0)++gU d 1) 2 (by omega) (by omega) (by omega) (by have:=q b 0; have:=q d 1; simp; omega);obtain⟨_,w,k,rfl⟩:=Eg l (a+1+1+1) ((([]++gU b 0)++gU d 1)++gU h 2) 3 (by omega) (by omega) (by omega) (by have:=q b 0; have:=q d 1; have:=q h 2; simp; omega);have y:wy [.l l,.i (a+1+1+1+1),.l (oX b d h k),.l oW,.i 4,.i ((3+1:Nat):Int)]=some (some 0,[.l l,.i (a+1+1+1+1),.l (oX b d h k)]):=by
  refine aa.toEq ?_;unfold wy;dsimp +instances only[go_sem];(repeat first|refine aa.p ?_|refine aa.n ?_);exact aa.some rfl
 unfold Dg;dsimp +instances only[go_sem];refine aa.loop (P:=fun c g=>c=0/\g=[.l l,.i (a+1+1+1+1),.l (oX b d h k)]) ((bl.next v (bl.next s1 (bl.next s2 (bl.next w (bl.stop (m:=1) y ⟨rfl,rfl⟩))))).to (by omega)) rfl ?_;rintro _ _ ⟨rfl,rfl⟩;dsimp +instances only[go_sem];(repeat first|refine aa.p ?_|refine aa.n ?_);exact aa.some ⟨b,d,h,k,by rw[show a+1+1+1+1=a+4 from by omega]⟩
def agG(d g h k:Bool):∀ z∈oX d g h k,dk z:=by
 have b:∀ f i,i<4->∀ z∈gU f i,dk z:=by
  intro f i hi z a;have q:i=0\/i=1\/i=2\/i=3:=by omega
  cases f with
  |true=>simp[gU]at a
  | false =>
   simp only[gU,cF,gH]at a;subst a;rcases q with rfl|rfl|rfl|rfl<;>exact⟨_,_,_,rfl,by simp[l6],by unfold l5; omega,by unfold l5; omega⟩
 intro z a;unfold oX at a;simp only[nm,cN]at a;rcases a with((a|a)|a)|a
 ·exact b _ _ (by omega) z a
 ·exact b _ _ (by omega) z a
 ·exact b _ _ (by omega) z a
 ·exact b _ _ (by omega) z a
def agH(g h k q:Bool):∀ z∈oX g h k q,(gi z 2).iV<=20000000:=by
 have b:∀ z∈oW,(gi z 2).iV<=20000000:=by
  intro z a;simp only[oW,cf,jf,or_false]at a;rcases a with rfl|rfl|rfl|rfl<;>decide
 have d:∀ f i,i<4->∀ z∈gU f i,z∈oW:=by
  intro f i hi z a;cases f with
  |true=>simp[gU]at a
  | false =>
   simp only[gU,cF,gH]at a;subst a;exact i_ hi
 intro z a;unfold oX at a;simp only[nm,cN]at a;rcases a with((a|a)|a)|a
 ·exact b _ (d _ _ (by omega) z a)
 ·exact b _ (d _ _ (by omega) z a)
 ·exact b _ (d _ _ (by omega) z a)
 ·exact b _ (d _ _ (by omega) z a)
def agI(a b d g:Bool):(oX a b d g).length<=4:=by
 cases a<;>cases b<;>cases d<;>cases g<;>simp[oX,gU]
def Rb(l:LL)(a:Int)(rZ:LL)(f:Bool)(X:0<=a)(ha1:a<=800000)(w:∀ z∈rZ,dk z)(N:∀ z∈rZ,(gi z 2).iV<=20000000)(Y:rZ.length<=4)(hf:f=true->0<rZ.length) :
  aa (zo [.l l,.i a,.l rZ,.t f]) fun o=>∃ x,o.1=some x/\∃ b out,o.2=[.l l,.i b,.l out]/\a<=b/\b<=a+10/\(∀ z∈out,dk z)/\out.length<=4:=by
 unfold zo;dsimp +instances only[go_sem];cases f with
 | false =>
  (repeat first|refine aa.p ?_|refine aa.n ?_);exact aa.some ⟨0,rfl,a,rZ,rfl,by omega,by omega,w,Y⟩
 | true =>
  have h0:=hf rfl;refine aa.pos rfl ?_;refine aa.call (oT l a _ X (by omega) (by omega) (by omega)) ?_;rintro _ ⟨v,rfl,O,hv1⟩;obtain⟨j,rfl⟩:=sG O;have y:j<rZ.length:=by omega
  obtain⟨k,lo,hi,d,hk,U,V⟩:=w _ (i_ y);have hh2:hi<=20000000:=by
   have:=N _ (i_ y);rw[d]at this;exact this
  dsimp +instances only[go_sem];simp only[eH,eo,d];dsimp +instances only[go_sem];refine aa.p (aa.p ?_);refine aa.call (IV (fun s=>s∈l6) l _ _ (by omega) (by omega) (by simp) (by simp) ?_) ?_
  ·intro x d
   simp only[cf,jf,or_false]at d;rcases d with rfl|rfl|rfl
   ·exact hk
   ·simp[l6,gi,G.sV]
   ·simp[l6,gi,G.sV]
  rintro _ ⟨g,rfl,W⟩;dsimp +instances only[go_sem];refine aa.call (Q_ l _ 0 20000 (by omega) (by omega) (by omega) (by omega) (by omega)) ?_;rintro _ ⟨q,rfl,B⟩;dsimp +instances only[go_sem];unfold sd at B;have F:l5 lo:=U;have J:l5 hi:=V;unfold l5 at F J;(repeat first|refine aa.p ?_|refine aa.n ?_);refine aa.call (Ea l5 l _ _ (by omega) (by omega) (by simp) (by simp) ?_) ?_
  ·intro x d
   unfold l5;simp only[cf,jf,or_false]at d;rcases d with rfl|rfl|rfl|rfl|rfl<;>(dsimp +instances only[go_sem])<;>omega
  rintro _ ⟨A,rfl,M⟩;dsimp +instances only[go_sem];have p0:fN [.str,.I,.I] [.s k,.i lo,.i hi] 0 [.s g]=[.s g,.i lo,.i hi]:=rfl;have p1:fN [.str,.I,.I] [.s g,.i lo,.i hi] 1 [.i (1000*q)]=[.s g,.i (1000*q),.i hi]:=rfl;have p2:fN [.str,.I,.I] [.s g,.i (1000*q),.i hi] 2 [.i A]=[.s g,.i (1000*q),.i A]:=rfl;have g1:∀(rs:LL) (x:LG),j<rs.length->(rs.set j x).getD j []=x:=fun rs x h=>by rw[agx _ _ _ _ _ h,iP rfl]
  simp only[p0,p1,p2,g1 rZ _ y,List.set_set,List.length_set];(repeat first|refine aa.p ?_|refine aa.n ?_);refine aa.some ⟨0,rfl,_,_,rfl,by omega,by omega,?_,by simp; omega⟩;intro z hz;rcases List.mem_or_eq_of_mem_set hz with h|rfl
  ·exact w z h
  ·exact⟨_,_,_,rfl,W,by unfold l5; omega,M⟩
def agJ(l:LL)(a:Int)(F:0<=a)(M:a<=700000) :
  aa (Dh [.l l,.i a]) fun g=>∃ b rZ,g=[.l l,.i b,.l rZ]/\a<=b/\b<=a+20/\(∀ z∈rZ,dk z)/\rZ.length<=4:=by
 unfold Dh;dsimp +instances only[go_sem];refine aa.call (agF l a F (by omega)) ?_;rintro _ ⟨d,k,q,t,rfl⟩;have A:=agG d k q t;have y:=agH d k q t;have B:=agI d k q t;dsimp +instances only[go_sem];refine aa.test (fun h=>?_) fun h=>?_
 ·simp only [be, dT] at h
  refine aa.call (qp l _ 12 (by omega) (by omega) (by omega) (by omega)) ?_;rintro _ ⟨f,rfl⟩;dsimp +instances only[go_sem];refine aa.tail (P:=fun _ g=>∃ b out,g=[.l l,.i b,.l out]/\(a+4+1)<=b/\b<=(a+4+1)+10/\(∀ z∈out,dk z)/\out.length<=4) (Rb l (a+4+1) _ f (by omega) (by omega) A y B (fun _=>by omega)) (by(first|rfl|assumption|(simp only[aF,sl]<;>omega))) ?_;rintro x g ⟨b,out,rfl,I,J,v,w⟩;dsimp +instances only[go_sem];(repeat first|refine aa.p ?_|refine aa.n ?_);exact aa.some ⟨b,out,rfl,by omega,by omega,v,w⟩
 ·refine aa.tail (P := fun _ g => ∃ b out, g = [.l l, .i b, .l out] /\ (a + 4) <= b /\ b <= (a + 4) + 10 /\ (∀ z ∈ out, dk z) /\ out.length <= 4) (Rb l (a + 4) _ false (by omega) (by omega) A y B (fun h => by cases h)) (by (first|rfl|assumption|(simp only [aF,sl]<;>omega))) ?_
  rintro x g ⟨b,out,rfl,I,J,v,w⟩;dsimp +instances only[go_sem];(repeat first|refine aa.p ?_|refine aa.n ?_);exact aa.some ⟨b,out,rfl,by omega,by omega,v,w⟩
def Rc(r:LG):Prop:=∃(t h:Int) (c y:BY),r=[.i t,.i h,.s c,.s y]/\l5 t/\l5 h/\c∈calls/\y∈calls
def Rc.eta{r:LG}(h:Rc r):bF [.I,.I,.str,.str] r=r:=by
 obtain⟨t,h,c,y,rfl,_⟩:=h;rfl
def oY(x:LG):Int :=
 bif !okB (gi x 0).sV then 5 else bif !ca (gi x 1).iV 0 30000000000 then 1 else bif !ca (gi x 2).iV ((gi x 1).iV+1) 30000000000 then 1 else bif (dS (gi x 1).iV 1000 != 0) then 1 else bif (dS (gi x 2).iV 1000 != 0) then 1 else 0
def dO(rZ:LL)(i:Nat):Int :=
 if oY (rZ.getD i [])≠0 then oY (rZ.getD i []) else if 0<i/\(gi (rZ.getD i []) 1).iV<(gi (rZ.getD (i-1) []) 2).iV then 7 else 0
def mT(rZ:LL)(i:Nat):Int:=bif (rZ.take i).any (fun o=>(gi o 0).sV.toList==(gi (rZ.getD i []) 0).sV.toList) then 6 else 0
def ft(rZ:LL):Int:=if 30<rZ.length then 2 else if fw (dO rZ) rZ.length≠0 then fw (dO rZ) rZ.length else fw (mT rZ) rZ.length
def agK(rZ:LL)(q:∀ z∈rZ,dk z)(U:rZ.length<=3000)(i:Nat)(hi:i<rZ.length) :
  aa (zz [.l rZ,.l rZ,.i (rZ.length:Int),.i (i:Int)]) fun o=>(dO rZ i=0/\o=(none,[.l rZ,.l rZ,.i (rZ.length:Int),.i ((i+1:Nat):Int)]))\/(dO rZ i≠0/\o=(some 0,[.i (dO rZ i)])):=by
 obtain⟨k,lo,d,g,J,v,w⟩:=q _ (i_ hi);have hC:dk (rZ.getD i []):=q _ (i_ hi);have a:oY (rZ.getD i [])=bif !okB k then 5 else bif !ca lo 0 30000000000 then 1 else bif !ca d (lo+1) 30000000000 then 1 else bif (dS lo 1000 != 0) then 1 else bif (dS d 1000 != 0) then 1 else 0:=by
  rw[g];rfl
 unfold zz;dsimp +instances only[go_sem];simp only[eH,hC.eta];have M:(gi (rZ.getD i []) 0).sV=k:=by rw[g]; rfl
 have t:(gi (rZ.getD i []) 1).iV=lo:=by rw[g]; rfl
 have N:(gi (rZ.getD i []) 2).iV=d:=by rw[g]; rfl
 simp only[M,t,N];refine aa.p (aa.p ?_);refine aa.cE (agD J) ?_;dsimp +instances only[go_sem];refine aa.test (fun h=>?_) fun y=>?_
 ·have e:dO rZ i=5:=by
   unfold dO;rw[a,h];rfl
  rw[e];exact aa.some (.inr ⟨by omega,rfl⟩)
 rw[y,cF]at a;refine aa.cE (Ao lo 0 30000000000) ?_;dsimp +instances only[go_sem];refine aa.test (fun h=>?_) fun A=>?_
 ·have e:dO rZ i=1:=by
   unfold dO;rw[a,h];rfl
  rw[e];exact aa.some (.inr ⟨by omega,rfl⟩)
 rw[A,cF]at a;unfold l5 at v w;refine aa.p ?_;refine aa.cE (Ao d (lo+1) 30000000000) ?_;dsimp +instances only[go_sem];refine aa.test (fun h=>?_) fun B=>?_
 ·have e:dO rZ i=1:=by
   unfold dO;rw[a,h];rfl
  rw[e];exact aa.some (.inr ⟨by omega,rfl⟩)
 rw[B,cF]at a;refine aa.test (fun h=>?_) fun F=>?_
 ·have e:dO rZ i=1:=by
   unfold dO;rw[a,h];rfl
  rw[e];exact aa.some (.inr ⟨by omega,rfl⟩)
 rw[F,cF]at a;refine aa.test (fun h=>?_) fun I=>?_
 ·have e:dO rZ i=1:=by
   unfold dO;rw[a,h];rfl
  rw[e];exact aa.some (.inr ⟨by omega,rfl⟩)
 rw[I,cF]at a;have e:dO rZ i=if 0<i/\lo<(gi (rZ.getD (i-1) []) 2).iV then 7 else 0:=by
  unfold dO;rw[a,iN (by simp),t]
 refine aa.test (fun h=>?_) fun h=>?_
 ·simp only [be, dT] at h
  have O:((i:Int)-1).toNat=i-1:=by omega
  simp only[O];refine aa.p (aa.p ?_);refine aa.test (fun b=>?_) fun b=>?_
  ·simp only [be, dT] at b
   rw[iP ⟨by omega,b⟩]at e;rw[e];exact aa.some (.inr ⟨by omega,rfl⟩)
  ·simp only [be, dF] at b
   rw[iN (fun h'=>b h'.2)]at e;refine aa.p (aa.some (.inl ⟨e,rfl⟩))
 ·simp only [be, dF] at h
  rw[iN (by omega)]at e;refine aa.p (aa.some (.inl ⟨e,rfl⟩))
def agL(rZ:LL)(t:∀ z∈rZ,dk z)(X:rZ.length<=3000)(i:Nat)(hi:i<rZ.length) :
  aa (zF [.l rZ,.l rZ,.i (rZ.length:Int),.i (i:Int)]) fun o=>(dO rZ i=0/\o=(none,[.l rZ,.l rZ,.i (rZ.length:Int),.i ((i+1:Nat):Int)]))\/(dO rZ i≠0/\o=(some 0,[.i (dO rZ i)])):=by
 obtain⟨k,lo,a,g,J,V,W⟩:=t _ (i_ hi);have hC:dk (rZ.getD i []):=t _ (i_ hi);have b:oY (rZ.getD i [])=bif !okB k then 5 else bif !ca lo 0 30000000000 then 1 else bif !ca a (lo+1) 30000000000 then 1 else bif (dS lo 1000 != 0) then 1 else bif (dS a 1000 != 0) then 1 else 0:=by
  rw[g];rfl
 unfold zF;dsimp +instances only[go_sem];simp only[eH,hC.eta];have M:(gi (rZ.getD i []) 0).sV=k:=by rw[g]; rfl
 have v:(gi (rZ.getD i []) 1).iV=lo:=by rw[g]; rfl
 have N:(gi (rZ.getD i []) 2).iV=a:=by rw[g]; rfl
 simp only[M,v,N];refine aa.p (aa.p ?_);refine aa.cE (agC J) ?_;dsimp +instances only[go_sem];refine aa.test (fun h=>?_) fun w=>?_
 ·have e:dO rZ i=5:=by
   unfold dO;rw[b,h];rfl
  rw[e];exact aa.some (.inr ⟨by omega,rfl⟩)
 rw[w,cF]at b;refine aa.cE (kG lo 0 30000000000) ?_;dsimp +instances only[go_sem];refine aa.test (fun h=>?_) fun q=>?_
 ·have e:dO rZ i=1:=by
   unfold dO;rw[b,h];rfl
  rw[e];exact aa.some (.inr ⟨by omega,rfl⟩)
 rw[q,cF]at b;have bad:((!ca a (lo+1) 30000000000)=true\/(dS lo 1000 != 0)=true\/(dS a 1000 != 0)=true)->dO rZ i=1:=by
  intro h;unfold dO;rw[b];rcases h with h|h|h
  ·rw [h]
   rfl
  ·rw [h]
   cases !ca a (lo+1) 30000000000<;>rfl
  ·rw [h]
   cases !ca a (lo+1) 30000000000<;>cases (dS lo 1000 != 0)<;>rfl
 have out:dO rZ i=1->aa (some (some 0,[G.i 1]):Option (Option Nat × LG)) (fun o=>(dO rZ i=0/\o=(none,[.l rZ,.l rZ,.i (rZ.length:Int),.i ((i+1:Nat):Int)]))\/(dO rZ i≠0/\o=(some 0,[.i (dO rZ i)]))):=by
  intro e;rw[e];exact aa.some (.inr ⟨by omega,rfl⟩)
 have U:0<=lo:=by
  have h:=q;simp only[ca,bz,akt,aE,dT]at h;exact h.1
 refine aa.cE (kG a 0 30000000000) ?_;dsimp +instances only[go_sem];refine aa.test (fun h=>out (bad (.inl ?_))) fun y=>?_
 ·simp only [ca, bz, qK, Tp, dF] at h |-
  omega
 refine aa.test (fun h=>out (bad (.inr (.inl h)))) fun A=>?_;refine aa.test (fun h=>out (bad (.inr (.inr h)))) fun B=>?_;refine aa.test (fun h=>out (bad (.inl ?_))) fun F=>?_
 ·simp only [ca, bz, qK, Tp, dF, dT] at h |-
  omega
 have I:(!ca a (lo+1) 30000000000)=false:=by
  simp only[ca,bz,akt,aE,dT,dF]at y F|-;omega
 rw[I,cF,A,cF,B,cF]at b;have e:dO rZ i=if 0<i/\lo<(gi (rZ.getD (i-1) []) 2).iV then 7 else 0:=by
  unfold dO;rw[b,iN (by simp),v]
 refine aa.test (fun h=>?_) fun h=>?_
 ·simp only [be, dT] at h
  have O:((i:Int)-1).toNat=i-1:=by omega
  simp only[O];refine aa.p (aa.p ?_);refine aa.test (fun d=>?_) fun d=>?_
  ·simp only [be, dT] at d
   rw[iP ⟨by omega,d⟩]at e;rw[e];exact aa.some (.inr ⟨by omega,rfl⟩)
  ·simp only [be, dF] at d
   rw[iN (fun h'=>d h'.2)]at e;refine aa.p (aa.some (.inl ⟨e,rfl⟩))
 ·simp only [be, dF] at h
  rw[iN (by omega)]at e;refine aa.p (aa.some (.inl ⟨e,rfl⟩))
def agM{c:LG}(a:dk c):wk [.str,.I,.I] Dx (fun g=>.l [bF [.str,.I,.I] g.rV]) (.l [c]) dk (fun o=>(gi o 0).sV.toList==(gi c 0).sV.toList) :=
 ⟨fun r b => by
  refine aa.toEq ?_;unfold Dx;dsimp +instances only[go_sem];exact aa.some rfl,fun _ h=>h.eta,by rw[Ac,a.eta]⟩
def Rd(k:BY):wk [.str,.I,.I] Ds (fun g=>.l [[.s (gi g.rV 0).sV]]) (.l [[.s k]]) dk (fun o=>(gi o 0).sV.toList==k.toList) :=
 ⟨fun r a => by
  refine aa.toEq ?_;unfold Ds;dsimp +instances only[go_sem];exact aa.some rfl,fun _ h=>h.eta,rfl⟩
def Aq:LG:=[.s (⟨#[]⟩:BY),.i 0,.i 0]
def Re{p:LG->Bool}{rZ:LL}{g:LG} (h:(∃ a x b,rZ=a++x::b/\(∀ y∈a,p y=false)/\p x=true/\g=[.i (a.length:Int)])\/(∀ y∈rZ,p y=false)/\g=[.i (-1)]):g=[.i (gi g 0).iV]/\aR 0 (gi g 0).iV=rZ.any p:=by
 rcases h with⟨a,x,b,d,t,k,rfl⟩|⟨h,rfl⟩
 ·refine ⟨rfl, ?_⟩
  rw[d];simp[bz,k,Aa,Ae]
 ·refine ⟨rfl, ?_⟩
  have:rZ.any p=false:=by
   rw[List.any_eq_false];intro y q;rw[h y q];simp
  rw[this];rfl
def agN(l:LL){c:LG}(b:∀ z∈l,dk z)(a:dk c)(d:l.length<100000):Dy [.l l,.l [c]]=some [.t (l.any fun o=>(gi o 0).sV.toList==(gi c 0).sV.toList)]:=by
 refine aa.toEq ?_;unfold Dy;dsimp +instances only[go_sem];rw[a.eta];refine aa.call (P:=fun g=>g=[.i (gi g 0).iV]/\aR 0 (gi g 0).iV=l.any fun o=>(gi o 0).sV.toList==(gi c 0).sV.toList) ?_ ?_
 ·exact aa.mono (zi (Z:=Aq) (agM a) l b d:aa (Iz [.l l,.l [c]]) _) fun g h=>Re h
 ·rintro g ⟨_, h⟩
  rw[<-h];exact aa.some rfl
def agO(l:LL)(k:BY)(a:∀ z∈l,dk z)(b:l.length<100000):aa (tU [.l l,.s k]) fun g=>aR 0 (gi g 0).iV=l.any fun o=>(gi o 0).sV.toList==k.toList:=by
 unfold tU;dsimp +instances only[go_sem];refine aa.call (P:=fun g=>g=[.i (gi g 0).iV]/\aR 0 (gi g 0).iV=l.any fun o=>(gi o 0).sV.toList==k.toList) ?_ ?_
 ·exact aa.mono (zi (Z:=Aq) (Rd k) l a b:aa (Dt [.l l,.l [[.s k]]]) _) fun g h=>Re h
 ·rintro g ⟨_, h⟩
  exact aa.some h
def agP(rZ:LL)(a:∀ z∈rZ,dk z)(q:rZ.length<=3000)(i:Nat)(hi:i<rZ.length) :
  aa (zA [.l rZ,.l rZ,.i (rZ.length:Int),.i (i:Int)]) fun o=>(mT rZ i=0/\o=(none,[.l rZ,.l rZ,.i (rZ.length:Int),.i ((i+1:Nat):Int)]))\/(mT rZ i≠0/\o=(some 0,[.i (mT rZ i)])):=by
 have hC:dk (rZ.getD i []):=a _ (i_ hi);have b:∀ z∈rZ.take i,dk z:=fun z d=>a z (oq d);have t:(rZ.take i).length<=3000:=by rw[iy]; omega
 unfold zA;dsimp +instances only[go_sem];simp only[eH,hC.eta];refine aa.p (aa.p (aa.p ?_));refine aa.call (agO (rZ.take i) _ b (by omega)) ?_;intro g k;rw[k];have e:mT rZ i=bif (rZ.take i).any (fun o=>(gi o 0).sV.toList==(gi (rZ.getD i []) 0).sV.toList) then 6 else 0:=rfl
 refine aa.test (fun h=>?_) fun h=>?_
 ·rw [h, cT] at e
  rw[e];exact aa.some (.inr ⟨by omega,rfl⟩)
 ·rw [h, cF] at e
  refine aa.p (aa.some (.inl ⟨e,rfl⟩))
def agQ(rZ:LL)(a:∀ z∈rZ,dk z)(g:rZ.length<=3000)(i:Nat)(hi:i<rZ.length) :
  aa (zG [.l rZ,.l rZ,.i (rZ.length:Int),.i (i:Int)]) fun o=>(mT rZ i=0/\o=(none,[.l rZ,.l rZ,.i (rZ.length:Int),.i ((i+1:Nat):Int)]))\/(mT rZ i≠0/\o=(some 0,[.i (mT rZ i)])):=by
 have hC:dk (rZ.getD i []):=a _ (i_ hi);have b:∀ z∈rZ.take i,dk z:=fun z d=>a z (oq d);have k:(rZ.take i).length<=3000:=by rw[iy]; omega
 unfold zG;dsimp +instances only[go_sem];simp only[eH,hC.eta];refine aa.p (aa.p (aa.p ?_));refine aa.cE (agN (rZ.take i) b hC (by omega)) ?_;dsimp +instances only[go_sem];have e:mT rZ i=bif (rZ.take i).any (fun o=>(gi o 0).sV.toList==(gi (rZ.getD i []) 0).sV.toList) then 6 else 0:=rfl
 refine aa.test (fun h=>?_) fun h=>?_
 ·rw [h, cT] at e
  rw[e];exact aa.some (.inr ⟨by omega,rfl⟩)
 ·rw [h, cF] at e
  refine aa.p (aa.some (.inl ⟨e,rfl⟩))
def oZ(rZ:LL)(a:∀ z∈rZ,dk z):tV [.l rZ]=some [.i (ft rZ)]:=by
 refine aa.toEq ?_;unfold tV ft;dsimp +instances only[go_sem];by_cases b:30<rZ.length
 ·refine aa.p ?_
  rw[iP b];exact aa.some rfl
 ·refine aa.n ?_
  rw[iN b];refine aa.loop (Ef (fun i=>[.l rZ,.l rZ,.i (rZ.length:Int),.i (i:Int)]) rZ.length (dO rZ) [.l rZ] (by omega) (agK rZ a (by omega)) ?_) rfl ?_
  ·unfold zz
   dsimp +instances only[go_sem];(repeat first|refine aa.p ?_|refine aa.n ?_);exact aa.some rfl
  ·rintro _ _ (⟨rfl, h, rfl⟩ | ⟨rfl, rfl, d⟩)
   ·rw [iN (by rw [h]; simp)]
    dsimp +instances only[go_sem];refine aa.neg rfl ?_;refine aa.loop (Ef (fun i=>[.l rZ,.l rZ,.i (rZ.length:Int),.i (i:Int)]) rZ.length (mT rZ) [] (by omega) (agP rZ a (by omega)) ?_) rfl ?_
    ·unfold zA
     dsimp +instances only[go_sem];(repeat first|refine aa.p ?_|refine aa.n ?_);exact aa.some rfl
    ·rintro _ _ (⟨rfl, h, rfl⟩ | ⟨rfl, rfl, _⟩)
     ·rw [h]
      exact aa.some rfl
     ·exact aa.some rfl
   ·rw [iP d]
    exact aa.some rfl
def mU(rZ:LL)(a:∀ z∈rZ,dk z):tZ [.l rZ]=some [.i (ft rZ)]:=by
 refine aa.toEq ?_;unfold tZ ft;dsimp +instances only[go_sem];by_cases b:30<rZ.length
 ·refine aa.p ?_
  rw[iP b];exact aa.some rfl
 ·refine aa.n ?_
  rw[iN b];refine aa.loop (Ef (fun i=>[.l rZ,.l rZ,.i (rZ.length:Int),.i (i:Int)]) rZ.length (dO rZ) [.l rZ] (by omega) (agL rZ a (by omega)) ?_) rfl ?_
  ·unfold zF
   dsimp +instances only[go_sem];(repeat first|refine aa.p ?_|refine aa.n ?_);exact aa.some rfl
  ·rintro _ _ (⟨rfl, h, rfl⟩ | ⟨rfl, rfl, d⟩)
   ·rw [iN (by rw [h]; simp)]
    dsimp +instances only[go_sem];refine aa.neg rfl ?_;refine aa.loop (Ef (fun i=>[.l rZ,.l rZ,.i (rZ.length:Int),.i (i:Int)]) rZ.length (mT rZ) [] (by omega) (agQ rZ a (by omega)) ?_) rfl ?_
    ·unfold zG
     dsimp +instances only[go_sem];(repeat first|refine aa.p ?_|refine aa.n ?_);exact aa.some rfl
    ·rintro _ _ (⟨rfl, h, rfl⟩ | ⟨rfl, rfl, _⟩)
     ·rw [h]
      exact aa.some rfl
     ·exact aa.some rfl
   ·rw [iP d]
    exact aa.some rfl
def dW(h:Int)(o:LG):Bool:=aR (gi o 1).iV h&&aK h (gi o 2).iV
def dD(p:LG->Bool):LL->Int
 | [] => -1
 |x::r=>bif p x then 0 else bif aK (dD p r) 0 then -1 else dD p r+1
def ir(p:LG->Bool):LL->BY
 | []=>⟨#[]⟩
 |x::r=>bif p x then (gi x 0).sV else ir p r
def Eh{p:LG->Bool}:∀{rZ:LL},(∀ y∈rZ,p y=false)->dD p rZ = -1
 | [],_=>rfl
 | x::r,h=>by
  simp only[dD,h x cZ,Eh fun y a=>h y (c8 _ a),cF];rfl
def Ei{p:LG->Bool}{x:LG}{b:LL}(a:p x=true):∀{q1:LL},(∀ y∈q1,p y=false)->dD p (q1++x::b)=(q1.length:Int)
 | [],_=>by simp only[nm,dD,a,cT]; rfl
 | y::q1,h=>by
  have e:aK (q1.length:Int) 0=false:=by simp[be]
  simp only[kK,dD,h y cZ,Ei a (q1:=q1) fun y d=>h y (c8 _ d),cF,e,bW];omega
def qv{p:LG->Bool}:∀(rZ:LL),(dD p rZ = -1/\ir p rZ=⟨#[]⟩)\/∃ i:Nat,dD p rZ=(i:Int)/\i<rZ.length/\ir p rZ=(gi (rZ.getD i []) 0).sV/\p (rZ.getD i [])=true
 | []=>.inl ⟨rfl,rfl⟩
 | x::r=>by
  cases a:p x with
  |true=>exact .inr ⟨0,by simp[dD,a],by simp,by simp[ir,a],by simpa using a⟩
  | false =>
   rcases qv (p:=p) r with⟨b,d⟩|⟨i,b,d,g,h⟩
   ·exact .inl ⟨by simp only[dD,a,b,cF]; rfl,by simp only[ir,a,d,cF]⟩
   ·have e : aK (i : Int) 0 = false := by simp [be]
    exact .inr ⟨i+1,by simp only[dD,a,b,cF,e]; omega,by simp; omega,by simp only[ir,a,g,cF]; simp,by simpa using h⟩
def agR(h:Int):wk [.str,.I,.I] DA (fun g=>.l [[.i (gi g.rV 0).iV]]) (.l [[.i h]]) dk (dW h) :=
 ⟨fun r a => by
  refine aa.toEq ?_;unfold DA dW;dsimp +instances only[go_sem];cases aR (gi r 1).iV h<;>exact aa.some rfl,fun _ h=>h.eta,rfl⟩
def Rf(b:LL)(h:Int)(d:∀ z∈b,dk z)(k:b.length<100000):zH [.l b,.i h]=some [.i (dD (dW h) b)]:=by
 refine aa.toEq ?_;unfold zH;dsimp +instances only[go_sem];refine aa.call (P:=fun g=>g=[.i (dD (dW h) b)]) ?_ ?_
 ·refine aa.mono (zi (Z := Aq) (agR h) b d k : aa (IA [.l b, .l [[.i h]]]) _) ?_
  rintro g (⟨v,x,w,a,q,t,rfl⟩|⟨a,rfl⟩)
  ·rw[a,Ei t q]
  ·rw[Eh a]
 ·rintro _ rfl
  exact aa.some rfl
def Rg(b:LL)(h:Int)(v:b.length<100000):zX [.l b,.i h]=some [.s (ir (dW h) b)]:=by
 refine aa.toEq ?_;unfold zX;dsimp +instances only[go_sem];have r:=oO (st:=zW) (σ:=Unit) (fun _ i=>[.i h,.l b,.i (b.length:Int),.i (i:Int)]) b.length (fun _=>(1,[]))
  (fun _ i=>ir (dW h) (b.drop i)=ir (dW h) b) (fun c g=>c=0/\g=[.s (ir (dW h) b)])
  (fun _ i a hi => by
   have q:b.drop i=b.getD i []::b.drop (i+1):=by
    rw[J8 hi,eh,cn hi];rfl
   rw[q]at a;have a:(bif dW h (b.getD i []) then (gi (b.getD i []) 0).sV else ir (dW h) (b.drop (i+1)))=ir (dW h) b:=a;have t:dW h (b.getD i [])=(aR (gi (b.getD i []) 1).iV h&&aK h (gi (b.getD i []) 2).iV):=rfl;rw[t]at a;unfold zW;dsimp +instances only[go_sem];simp only[eH];refine aa.p (aa.p ?_);refine aa.test (fun d=>?_) fun d=>?_
   ·refine aa.test (fun k => ?_) fun k => ?_
    ·rw [d, k] at a
     exact aa.some (.inr ⟨0,_,rfl,rfl,by rw[<-a]; rfl⟩)
    ·rw [d, k] at a
     refine aa.p (aa.some (.inl ⟨(),by simp,a⟩))
   ·rw [d] at a
    refine aa.p (aa.some (.inl ⟨(),by simp,a⟩)))
  (fun _ a => by
   unfold zW;dsimp +instances only[go_sem];(repeat first|refine aa.p ?_|refine aa.n ?_);exact aa.some rfl) b.length () 0 (by omega) rfl
 refine aa.loop (r.to (by omega)) rfl ?_;rintro _ _ (⟨_,d,rfl,rfl⟩|⟨rfl,rfl⟩)
 ·(dsimp +instances only [go_sem])
  rw[List.drop_length]at d;refine aa.neg rfl (aa.some ?_);rw[<-d];rfl
 ·(dsimp +instances only [go_sem])
  exact aa.pos rfl (aa.some rfl)
def Own(b:LL):Prop:=(∀ z∈b,(gi z 0).sV≠(⟨#[]⟩:BY))/\∀ i j,i<b.length->j<b.length->(gi (b.getD i []) 0).sV=(gi (b.getD j []) 0).sV->i=j
def Rh{b:LL}(h:ft b=0):Own b:=by
 unfold ft at h;split at h
 ·omega
 split at h
 ·rename_i q a
  exact(a h).elim
 rename_i q a;have a:fw (dO b) b.length=0:=by simpa using a
 have t:=Ap a;have v:=Ap h;have key:∀ i j,i<j->j<b.length->(gi (b.getD i []) 0).sV=(gi (b.getD j []) 0).sV->False:=by
  intro i j k d e;have h:=v j d;unfold mT at h;have hm:b.getD i []∈b.take j:=by
   have:(b.take j).getD i []=b.getD i []:=by simp[eh,List.getElem?_take,k]
   rw[<-this];exact i_ (by rw[iy]; omega)
  have:(b.take j).any (fun o=>(gi o 0).sV.toList==(gi (b.getD j []) 0).sV.toList)=true:=mh.2 ⟨_,hm,by rw[e]; simp⟩;rw[this]at h;simp at h
 refine⟨fun z w=>?_,fun i j hi d e=>?_⟩
 ·obtain ⟨i, hi, rfl⟩ := List.mem_iff_getElem.1 w
  have h:=t i hi;have e:b.getD i []=b[i]:=by simp[eh,hi]
  unfold dO at h;rw[e]at h;refine agE (s:=(gi b[i] 0).sV) (sC fun g=>?_);have g:okB (gi b[i] 0).sV=false:=by simpa using g
  have:oY b[i]=5:=by
   unfold oY;rw[g];rfl
  rw[this]at h;simp at h
 ·rcases Nat.lt_trichotomy i j with h | h | h
  ·exact(key i j h d e).elim
  ·exact h
  ·exact(key j i h hi e.symm).elim
def Ri{b:LL}(g:Own b)(h:Int):(!((ir (dW h) b).toList==(⟨#[]⟩:BY).toList))=aR 0 (dD (dW h) b):=by
 rcases qv (p:=dW h) b with⟨a,d⟩|⟨i,a,d,k,_⟩
 ·rw [a, d, beq_self_eq_true]
  rfl
 ·have q := g.1 _ (i_ d)
  rw[a,k,Ec];have:¬ iL (gi (b.getD i []) 0).sV ⟨#[]⟩=0:=fun h=>q (agw.1 h);rw[decide_eq_false this];simp[bz]
def SP(R d:LL)(a b:Nat):Prop :=
 d.length=R.length/\d.Perm R/\(∀ k,k<a\/b<=k->d.getD k []=R.getD k [])/\∀ k,a<=k->k<b->∃ g,a<=g/\g<b/\d.getD k []=R.getD g []
def SP.refl(R:LL)(a b:Nat):SP R R a b:=⟨rfl,aku _,fun _ _=>rfl,fun k d g=>⟨k,d,g,rfl⟩⟩
def SP.trans{R S T:LL}{a b:Nat}(h:SP R S a b)(h':SP S T a b):SP R T a b :=
 ⟨h'.1.trans h.1, h'.2.1.trans h.2.1, fun k d => (h'.2.2.1 k d).trans (h.2.2.1 k d), fun k q t => by
  obtain⟨v,w,y,z⟩:=h'.2.2.2 k q t;obtain⟨g,p1,A,B⟩:=h.2.2.2 v w y;exact⟨g,p1,A,z.trans B⟩⟩
def Ej(R:LL)(a b:Nat):Prop:=∀ i j,a<=i->i<j->j<b->dq (R.getD i []) (R.getD j [])<=0
def Below(R:LL)(a b c d:Nat):Prop:=∀ i j,a<=i->i<b->c<=j->j<d->dq (R.getD i []) (R.getD j [])<=0
def Ej.join{R:LL}{a c b:Nat}(k:Ej R a c)(q:Ej R c b)(h:Below R a c c b):Ej R a b:=fun i j hi d g=>by
 by_cases t:j<c
 ·exact k i j hi d t
 ·by_cases v : c <= i
  ·exact q i j v d g
  ·exact h i j hi (by omega) (by omega) g
def wW(a b n k:Nat):Nat:=if a<=k/\k<a+n then k-a+b else if b<=k/\k<b+n then k-b+a else k
def XR(R d:LL)(a b n:Nat):Prop:=d.length=R.length/\d.Perm R/\∀ k,d.getD k []=R.getD (wW a b n k) []
def XR.zero(R:LL)(a b:Nat):XR R R a b 0:=⟨rfl,aku _,fun k=>by
 have:wW a b 0 k=k:=by unfold wW; split<;>(try split)<;>omega
 rw[this]⟩
def Ek(a m b k:Nat):Nat:=if a<=k/\k<a+(b-m) then k+(m-a) else if a+(b-m)<=k/\k<b then k-(b-m) else k
def RT(R d:LL)(a m b:Nat):Prop:=d.length=R.length/\d.Perm R/\∀ k,d.getD k []=R.getD (Ek a m b k) []
def RT.left{R S T:LL}{m i j:Nat}(a:j<i)(b:i<=m)(h:XR R S (m-i) m j) (h':RT S T (m-(i-j)) m (m+j)):RT R T (m-i) m (m+j) :=
 ⟨h'.1.trans h.1, h'.2.1.trans h.2.1, fun k => by
  rw[h'.2.2,h.2.2];congr 1;unfold Ek wW
  repeat' split
  all_goals omega⟩
def RT.right{R S T:LL}{m i j:Nat}(a:i<j)(b:i<=m)(h:XR R S (m-i) (m+j-i) i) (h':RT S T (m-i) m (m+(j-i))):RT R T (m-i) m (m+j) :=
 ⟨h'.1.trans h.1, h'.2.1.trans h.2.1, fun k => by
  rw[h'.2.2,h.2.2];congr 1;unfold Ek wW
  repeat' split
  all_goals omega⟩
def RT.same{R S:LL}{m i:Nat}(a:i<=m)(h:XR R S (m-i) m i):RT R S (m-i) m (m+i) :=
 ⟨h.1, h.2.1, fun k => by
  rw[h.2.2];congr 1;unfold Ek wW
  repeat' split
  all_goals omega⟩
def aq(l:List UInt8):BY:=⟨l.toArray⟩
def cU(l:List UInt8):(aq l).data.toList=l:=by simp[aq]
def se(l:List UInt8):(aq l).toList=l:=by rw[eE,cU]
def bJ(l:List UInt8):(aq l).size=l.length:=by rw[gx,cU]
def l7(b:BY):aq b.data.toList=b:=OX b
def wX{a b:BY}(h:a.data.toList=b.data.toList):a=b:=by rw[<-l7 a,h,l7]
def gj(a b:List UInt8):aq a++aq b=aq (a++b):=wX (by simp[aq])
def Rj:aq []=(⟨#[]⟩:BY):=rfl
def o_(n:Int):mO n=aq (f_ n):=rfl
def Rk(a:List BY):(qj (a.map fun w=>[G.s w])).map (·.data.toList)=a.map (·.data.toList):=by
 unfold qj;rw[nh,nh];rfl
def Rl(a:List BY)(h:a.length<=1000) (b:(bQ (a.map (·.data.toList))).length<=1000000):Am [.l (a.map fun w=>[.s w])]=some [.s (aq (bQ (a.map (·.data.toList))))]:=by
 have e:oN (a.map fun w=>[G.s w]) (⟨#[32]⟩:BY)=aq (eD (a.map (·.data.toList)) [32]):=by
  unfold oN;rw[Rk];rfl
 have g:(eD (a.map (·.data.toList)) [32]).length+1<=1000000:=by
  simpa[bQ]using b
 have d:uh [.l (a.map fun w=>[.s w]),.s (⟨#[32]⟩:BY)]=some [.s (aq (eD (a.map (·.data.toList)) [32]))]:=by
  refine aa.toEq ?_;unfold uh y_;dsimp +instances only[go_sem];rw[e,bJ];refine aa.pos ?_ (aa.some rfl);rw[List.length_map,aE,cu,cu];omega
 refine aa.toEq ?_;unfold Am;dsimp +instances only[go_sem];refine aa.cE d ?_;dsimp +instances only[go_sem];refine aa.pos (by rw[bJ,cu]; omega) (aa.some ?_);rw[show (⟨#[10]⟩:BY)=aq [10] from rfl,gj];rfl
def Rm(c:UInt8)(x:List UInt8)(a:List (List UInt8))(h:∀ y∈x::a,c∉y) (d:(eD (x::a) [c]).length<=1000000) :
  n4 [.s (aq (eD (x::a) [c])),.s (⟨#[c]⟩:BY)]=some [.l ((x::a).map fun y=>[G.s (aq y)])]:=by
 refine aa.toEq ?_;unfold n4;dsimp +instances only[go_sem];have b:tY [.s (aq (eD (x::a) [c])),.s (⟨#[c]⟩:BY),.i 0,.i (-1)]=some [.l ((x::a).map fun y=>[G.s (aq y)])]:=by
  refine aa.toEq ?_;unfold tY za;dsimp +instances only[go_sem];refine aa.pos ?_ (aa.some ?_)
  ·rw [bJ, aE, aE, aE]
   exact⟨rfl,rfl,rfl,by rw[dH]; omega⟩
  ·rw [YW (cU _) h]
   rfl
 refine aa.cE b ?_;exact aa.some rfl
def I2(a b:BY)(h:a.size+b.size<=1000000):ui [.s a,.s b]=some [.s (a++b),.i (b.size:Nat)]:=by
 refine aa.toEq ?_;unfold ui C3;dsimp +instances only[go_sem];exact aa.pos (by rw[cu]; omega) (aa.some rfl)
def agS(a:BY):IL [.s a]=some [.s a,.i (a.size:Nat)]:=rfl
def agT(a:BY):IM [.s a]=some [.s a,.s a]:=rfl
def pb(n:Int)(a : -9223372036854775808<=n)(b:n<=9223372036854775807):lk [.i n]=some [.s (mO n)]:=by
 refine aa.toEq ?_;unfold lk;dsimp +instances only[go_sem];exact aa.pos (by rw[aE,bz,bz,dT,dT]; exact⟨a,b⟩) (aa.some rfl)
def sf(s:BY):Bool:=bf 1 s.data.toList.length&&(bf s.data.toList.length 20&&s.data.toList.all fun b => !(b==32) && !(b==10))
def uk{s:BY}(h:sf s=true):iq s.data.toList/\s.data.toList.length<=20:=by
 unfold sf at h;simp only[aE,cu]at h;obtain⟨a,d,g⟩:=h;refine⟨⟨fun e=>by rw[e]at a; simp at a,fun b k=>?_⟩,d⟩;have:=cq.1 g b k;simpa using this
def agU:(calls.all fun s => !qu s||sf s)=true:=by kernel_rfl
def agV{s:BY}(h:s∈calls)(a:qu s=true):iq s.data.toList/\s.data.toList.length<=20:=by
 have:=cq.1 agU s h;rw[a]at this;exact uk (by simpa using this)
def agW:(oU.all fun s => !mR s||sf s)=true:=by kernel_rfl
def agX{s:BY}(h:s∈oU)(a:mR s=true):iq s.data.toList/\s.data.toList.length<=20:=by
 have:=cq.1 agW s h;rw[a]at this;exact uk (by simpa using this)
def agY:(names.all fun s => !mS s||((s.data.toList.isEmpty||sf s) && !(s.data.toList==[45])))=true:=by kernel_rfl
def gk(l:List UInt8):List UInt8:=match l with | []=>[45]|b::r=>b::r
def I3(s:BY):Prop:=iq (gk s.data.toList)/\(gk s.data.toList).length<=20/\s.data.toList≠[45]
def Rn{s:BY}(h:s∈names)(g:mS s=true):I3 s:=by
 have:=cq.1 agY s h;rw[g]at this;simp only[Bool.not_true,iz,aE,Bool.or_eq_true]at this;obtain⟨a,k⟩:=this;refine⟨?_,?_,by simpa using k⟩
 ·cases d : s.data.toList with
  |nil=>exact⟨by simp[gk],by simp[gk]⟩
  | cons b r =>
   rcases a with a|a
   ·rw[d]at a; simp at a
   ·have := (uk a).1
    rw[d]at this;exact this
 ·cases d : s.data.toList with
  |nil=>simp[gk]
  | cons b r =>
   rcases a with a|a
   ·rw[d]at a; simp at a
   ·have := (uk a).2
    rw[d]at this;exact this
def Ro(s:BY):zO [.s s]=some [.s (aq (gk s.data.toList))]:=by
 refine aa.toEq ?_;unfold zO;dsimp +instances only[go_sem];rw[eE,eE];cases a:s.data.toList with
 |nil=>exact aa.pos rfl (aa.some rfl)
 | cons b r =>
  refine aa.neg rfl (aa.some ?_);show [G.s s]=[G.s (aq (b::r))]
  rw[<-a,l7]
def um(r:LG):Prop:=∃(t m:Int) (b c:BY) (s h:Int) (x y:BY),r=[.i t,.i m,.s b,.s c,.i s,.i h,.s x,.s y]/\(0<=t/\t<=345686399999)/\(m=1\/m=2\/m=3)/\(iq b.data.toList/\b.data.toList.length<=20) /\
 (iq c.data.toList/\c.data.toList.length<=20)/\(0<=s/\s<=99999)/\(0<=h/\h<=99999)/\I3 x/\I3 y
def I4{r:LG}(h:fI r)(d:jt r=0):um r:=by
 obtain⟨t,m,b,c,s,h,x,y,rfl,_,_,_,_,I,J,M,N⟩:=h;have e:jt [.i t,.i m,.s b,.s c,.i s,.i h,.s x,.s y]=bif !ca t 0 345686399999 then 1 else bif !ca m 1 3 then 4 else bif !mR b then 5 else bif !qu c then 3 else
  bif !ca s 0 99999 then 1 else bif !ca h 0 99999 then 1 else bif !mS x then 5 else bif !mS y then 5 else 0:=rfl
 rw[e]at d;cases g:ca t 0 345686399999 with
 |false=>rw[g]at d; cases d
 |true =>
 cases k:ca m 1 3 with
 |false=>rw[g,k]at d; cases d
 |true =>
 cases q:mR b with
 |false=>rw[g,k,q]at d; cases d
 |true =>
 cases w:qu c with
 |false=>rw[g,k,q,w]at d; cases d
 |true =>
 cases z:ca s 0 99999 with
 |false=>rw[g,k,q,w,z]at d; cases d
 |true =>
 cases A:ca h 0 99999 with
 |false=>rw[g,k,q,w,z,A]at d; cases d
 |true =>
 cases B:mS x with
 |false=>rw[g,k,q,w,z,A,B]at d; cases d
 |true =>
 cases F:mS y with
 |false=>rw[g,k,q,w,z,A,B,F]at d; cases d
 |true =>
 have two:∀{a u v:Int},ca a u v=true->u<=a/\a<=v:=fun h=>by simpa[ca,bz]using h
 have:=two k;exact⟨t,m,b,c,s,h,x,y,rfl,two g,by omega,agX I q,agV J w,two z,two A,Rn M B,Rn N F⟩
def I5{n:Int}(a:0<=n)(b:n<=345686399999):(f_ n).length<=15:=by
 unfold f_;rw[iN (by omega)];exact O1 14 _ (by simp; omega)
def gV(b:UInt8):Bool:=bf 97 b.toNat&&bf b.toNat 122
def gD(b:UInt8):Bool:=bf 48 b.toNat&&bf b.toNat 57
def gW(l:List UInt8):Bool:=l.all fun b=>gV b||gD b
def fX(l:List UInt8):Nat:=(l.filter gV).length
def gl:BY:=⟨#[48,49,50,51,52,53,54,55,56,57]⟩
def agZ(b:UInt8):DB [.i ((b.toNat:Nat):Int)]=some [.t (gV b)]:=by
 refine aa.toEq ?_;unfold DB gV;dsimp +instances only[go_sem];refine aa.test (fun h=>aa.some ?_) fun h=>aa.some ?_
 ·rw [bz, dT] at h
  rw[show bf 97 b.toNat=true by rw[cu]; omega,bz,fB,fP.2 (by rw[dT,cu]; omega:decide ((b.toNat:Int)<=122)=true↔bf b.toNat 122=true)]
 ·rw [bz, dF] at h
  rw[show bf 97 b.toNat=false by rw[nv,ne_eq,cu]; omega];rfl
def Rp(b:UInt8):zI [.i ((b.toNat:Nat):Int)]=some [.t (gD b)]:=by
 refine aa.toEq ?_;unfold zI gD;dsimp +instances only[go_sem];refine aa.test (fun h=>aa.some ?_) fun h=>aa.some ?_
 ·rw [bz, dT] at h
  rw[show bf 48 b.toNat=true by rw[cu]; omega,bz,fB,fP.2 (by rw[dT,cu]; omega:decide ((b.toNat:Int)<=57)=true↔bf b.toNat 57=true)]
 ·rw [bz, dF] at h
  rw[show bf 48 b.toNat=false by rw[nv,ne_eq,cu]; omega];rfl
def I6(l:List UInt8)(b:UInt8):gW (l++[b])=(gW l&&(gV b||gD b)):=by simp[gW]
def Rq(l:List UInt8)(b:UInt8):fX (l++[b])=fX l+if gV b then 1 else 0:=by
 unfold fX;rw[List.filter_append,dG,List.filter_cons];cases gV b<;>rfl
def Rr(l:List UInt8):fX l<=l.length:=List.length_filter_le _ _
def Rs{l:List UInt8}(h:gW l=true)(i:Nat):gW (l.take i)=true:=cq.2 fun b a=>cq.1 h b (oq a)
def I7(s:BY)(B:s.size<=900000):wF [.s s]=some [.i (bif gW s.data.toList then (fX s.data.toList:Int) else 0),.t (gW s.data.toList)]:=by
 refine aa.toEq ?_;unfold wF;dsimp +instances only[go_sem];have w:=gx s;refine aa.loop (P:=fun c g=>(c=1/\gW s.data.toList=true/\g=[.i (fX s.data.toList:Int)])\/(c=0/\gW s.data.toList=false/\g=[.i 0,.t false])) ?_ rfl ?_
 ·refine ((oO (σ:=Unit) (fun _ i=>[.s s,.i ((fX (s.data.toList.take i):Nat):Int),.i ((s.size:Nat):Int),.i (i:Int)]) s.size (fun _=>(1,[.i (fX s.data.toList:Int)])) (fun _ i=>gW (s.data.toList.take i)=true)
   (fun c g=>c=0/\gW s.data.toList=false/\g=[.i 0,.t false]) ?_ ?_ s.size () 0 (by omega) rfl).to (by omega)).mono ?_
  ·rintro _ i d hi
   have v:i<s.data.toList.length:=by omega
   have z:s.data.toList.getD i 0=s.data.toList[i]:=by rw[eh,cn v]; rfl
   have q:s.data.toList.take (i+1)=s.data.toList.take i++[s.data.toList[i]]:=by rw[A8,cn v]; rfl
   have y:=Rr (s.data.toList.take i);rw[iy]at y;unfold DC;dsimp +instances only[go_sem];simp only[eH,z];generalize F:s.data.toList[i]=b at q;refine aa.p (aa.p ?_);refine aa.cE (agZ b) ?_;refine aa.test (fun k=>?_) fun k=>?_
   ·have k : gV b = true := k
    refine aa.p (aa.p (aa.some (.inl ⟨(),?_,?_⟩)))
    ·rw [q, Rq, k]
     rfl
    ·rw [q, I6, d, k]
     rfl
   ·have k : gV b = false := k
    refine aa.p ?_;refine aa.cE (Rp b) ?_;refine aa.test (fun a=>?_) fun a=>?_
    ·refine aa.some (.inr ⟨0, _, rfl, rfl, ?_, rfl⟩)
     have a:(!gD b)=true:=a;have a:gD b=false:=by simpa using a
     cases A:gW s.data.toList with
     |false=>rfl
     | true =>
      have:=Rs A (i+1);rw[q,I6,k,a]at this;simp at this
    ·have a : (!gD b) = false := a
     have a:gD b=true:=by simpa using a
     refine aa.p (aa.some (.inl ⟨(),?_,?_⟩))
     ·rw [q, Rq, k]
      rfl
     ·rw [q, I6, d, k, a]
      rfl
  ·rintro _ d
   unfold DC;dsimp +instances only[go_sem];refine aa.n (aa.some ?_);rw[w,mn]
  ·rintro c g (⟨_, d, rfl, rfl⟩ | h)
   ·rw [w, mn] at d
    exact .inl ⟨rfl,d,rfl⟩
   ·exact .inr h
 ·rintro c g (⟨rfl, d, rfl⟩ | ⟨rfl, d, rfl⟩)
  ·rw [d]
   exact aa.neg rfl (aa.some rfl)
  ·rw [d]
   exact aa.pos rfl (aa.some rfl)
def wrap32{n:Nat}(h:n<128):IntKind.i32.wrap ((n:Nat):Int)=n:=by
 have e:((n:Nat):Int)%4294967296=n:=Int.emod_eq_of_lt (by omega) (by omega);have a:IntKind.i32.wrap ((n:Nat):Int)=if (true&&decide (((n:Nat):Int)%4294967296 ≥ 2147483648))=true then ((n:Nat):Int)%4294967296-4294967296 else ((n:Nat):Int)%4294967296:=rfl
 rw[a,e,iN (by simp; omega)]
def El{s:BY}(h:b_ s=true){i:Nat}(hi:i<s.size):(s.data.toList.getD i 0).toNat<128:=by
 have b:=gx s;have a:i<s.data.toList.length:=by omega
 rw[eh,cn a];exact C4 h i _ (cn a)
def Rt(s:BY)(r:Nat)(h:r<128):∃ k,wB [.s s,.i ((r:Nat):Int)]=some [.i k]:=by
 refine⟨eN s.data.toList ((r:Nat):Int).toNat.toUInt8,aa.toEq ?_⟩;unfold wB C8;dsimp +instances only[go_sem];refine aa.pos ?_ (aa.some rfl);rw[aE,bz,be,dT,dT];omega
def ag0(s:BY)(h:b_ s=true)(b:0<s.size)(d:s.size<=900000):∃ r:Nat,r<128/\zy [.s s]=some [.i (r:Int),.i 1]:=by
 have e:(((s.size:Nat):Int)-1).toNat=s.size-1:=by omega
 have a:=El h (show s.size-1<s.size by omega);refine⟨(s.data.toList.getD (s.size-1) 0).toNat,a,aa.toEq ?_⟩;unfold zy;dsimp +instances only[go_sem];rw[e,wrap32 a];refine aa.neg (by simp only[beq_eq_false_iff_ne]; omega) (aa.p (aa.p (aa.pos (by rw[be,dT]; omega) (aa.some rfl))))
def Em{s:BY}(h:b_ s=true)(i:Nat):b_ (s.extract 0 i)=true:=cq.2 fun b a=>by
 rw[pF]at a;exact cq.1 h b (uB (oq a))
def I8{s:BY}(h:b_ s=true)(i:Nat):b_ (s.extract i s.size)=true:=cq.2 fun b a=>by
 rw[Fl]at a;exact cq.1 h b (uB a)
def ag1(s:BY)(h:b_ s=true)(I:s.size<=900000):∃ k:Int,rR [.s s,.s gl]=some [.i k] /\ -1<=k/\k<(s.size:Nat):=by
 have key:aa (rR [.s s,.s gl]) fun g=>∃ k:Int,g=[.i k] /\ -1<=k/\k<(s.size:Nat):=by
  unfold rR;dsimp +instances only[go_sem];refine aa.neg (by rw[eE,eE]; rfl) ?_;refine aa.test (fun a=>?_) fun a=>?_
  ·have a : s.size = 1 := by simp only [beq_iff_eq] at a; omega
   have d:=El h (show 0<s.size by omega);rw[wrap32 d];refine aa.p (aa.neg (by rw[bz,dF]; omega) ?_);obtain⟨k,q⟩:=Rt gl _ d;refine aa.cE q ?_;exact aa.test (fun _=>aa.some ⟨0,rfl,by omega,by omega⟩) fun _=>aa.some ⟨-1,rfl,by omega,by omega⟩
  ·refine aa.call (aa.eq (rfl : It [.i ((s.size : Nat) : Int)] = some [.t (aK 8 ((s.size : Nat) : Int))])) ?_
   rintro _ rfl;dsimp +instances only[go_sem];refine aa.test (fun w=>?_) fun w=>?_
   ·rw [be, dT] at w
    have hm:Dn [.s gl]=some [.l [setRow gl],.t true]:=by
     refine aa.toEq ?_;unfold Dn C7;dsimp +instances only[go_sem];exact aa.pos rfl (aa.some rfl)
    refine aa.cE hm ?_;refine aa.pos rfl (aa.p ?_);dsimp +instances only[go_sem];generalize J:bF mM (setRow gl)=row;refine aa.loop (P:=fun c g=>(c=1/\g=[])\/(c=0/\∃ k:Nat,k<s.size/\g=[.i (k:Int)])) ?_ rfl ?_
    ·have M : ((s.size : Nat) : Int) - 1 = ((s.size : Nat) : Int) - 1 := rfl
     refine iZ.inv (fun t:LG × Nat=>[.s s,.l [t.1],.i ((t.2:Int)-1)]) (fun t=>t.2<=s.size) (fun t=>t.2) (fun t y=>?_) (row,s.size) (aY _) (by simp only; omega);obtain⟨row,i⟩:=t;simp only at y;unfold Iv;dsimp +instances only[go_sem];by_cases v:i=0
     ·subst v
      exact aa.neg (by rw[bz,dF]; simp) (aa.some (.inr ⟨1,rfl,.inl ⟨rfl,rfl⟩⟩))
     ·have z : ((i : Int) - 1).toNat = i - 1 := by omega
      rw[z];refine aa.p (aa.p ?_);have d:=El h (show i-1<s.size by omega);have A:aa (Dp [.l [bF mM row],.i (((s.data.toList.getD (i-1) 0).toNat:Nat):Int)]) fun g=>∃ b,g=[.t b]:=by
       unfold Dp;refine aa.pos ?_ (aa.some ⟨_,rfl⟩);rw[aE,dY,be,dT,dT];show 0<=(((s.data.toList.getD (i-1) 0).toNat:Nat):Int)/\(((s.data.toList.getD (i-1) 0).toNat:Nat):Int)<256
       omega
      refine aa.call A ?_;rintro _ ⟨b,rfl⟩;refine aa.test (fun _=>aa.some (.inr ⟨0,rfl,.inr ⟨rfl,i-1,by omega,?_⟩⟩)) fun _=>aa.p (aa.some (.inl ⟨rfl,(bF mM row,i-1),?_,by simp only; omega,by simp only; omega⟩))
      ·rw[show ((i:Int)-1)=((i-1:Nat):Int) by omega]
      ·simp only
       rw[show ((i:Int)-1)=((i-1:Nat):Int) by omega]
    ·rintro c g (⟨rfl, rfl⟩ | ⟨rfl, k, q, rfl⟩)
     ·exact aa.neg rfl (aa.some ⟨-1,rfl,by omega,by omega⟩)
     ·exact aa.pos rfl (aa.some ⟨k,rfl,by omega,by omega⟩)
   ·refine aa.neg rfl ?_
    refine aa.loop (P:=fun c g=>(c=1/\g=[])\/(c=0/\∃ k:Nat,k<s.size/\g=[.i (k:Int)])) ?_ rfl ?_
    ·refine iZ.inv (fun i : Nat => [.s s, .s gl, .i (i : Int)]) (fun i => i <= s.size) (fun i => i) (fun i hi => ?_) s.size (aY _) (by omega)
     unfold Ix;dsimp +instances only[go_sem];by_cases v:i=0
     ·subst v
      exact aa.neg rfl (aa.some (.inr ⟨1,rfl,.inl ⟨rfl,rfl⟩⟩))
     ·rw [eH]
      refine aa.p (aa.p ?_);have N:(s.extract 0 i).size=i:=by rw[sH]; omega
      obtain⟨r,d,he⟩:=ag0 (s.extract 0 i) (Em h i) (by omega) (by omega);refine aa.cE he ?_;dsimp +instances only[go_sem];refine aa.p ?_;obtain⟨k,q⟩:=Rt gl r d;refine aa.cE q ?_;refine aa.test (fun _=>aa.some (.inr ⟨0,rfl,.inr ⟨rfl,i-1,by omega,?_⟩⟩)) fun _=>aa.some (.inl ⟨rfl,i-1,?_,by omega,by omega⟩)
      ·rw[show ((i:Int)-1)=((i-1:Nat):Int) by omega]
      ·rw[show ((i:Int)-1)=((i-1:Nat):Int) by omega]
    ·rintro c g (⟨rfl, rfl⟩ | ⟨rfl, k, q, rfl⟩)
     ·exact aa.neg rfl (aa.some ⟨-1,rfl,by omega,by omega⟩)
     ·exact aa.pos rfl (aa.some ⟨k,rfl,by omega,by omega⟩)
 obtain⟨g,B,k,rfl,a,F⟩:=key;exact⟨k,B,a,F⟩
def eA(s:BY):Int:=(gi ((rR [.s s,.s gl]).getD []) 0).iV
def En{s:BY}(h:b_ s=true)(b:s.size<=900000):rR [.s s,.s gl]=some [.i (eA s)] /\ -1<=eA s/\eA s<(s.size:Nat):=by
 obtain⟨k,a,d,g⟩:=ag1 s h b;have e:eA s=k:=by unfold eA; rw[a]; rfl
 rw[e];exact⟨a,d,g⟩
def wY(s:BY):Prop:=gW s.data.toList=true/\s.size<=10/\1<=eA s/\eA s<=3/\1<=((s.size:Nat):Int)-eA s-1/\((s.size:Nat):Int)-eA s-1<=4/\0<fX (s.data.toList.take (eA s).toNat)
open Classical in
def e9(s:BY):Bool:=decide (wY s)
def n9(s:BY):Bool:=gW s.data.toList&&(cR 0 (fX s.data.toList)&&bf s.size 4)
def ju(s:BY):Bool:=s.data.toList==[112]||(s.data.toList==[109]||(s.data.toList==[109,109]||(s.data.toList==[97,109]||((aH s.size 1&&gD (s.data.toList.getD 0 0))||n9 s))))
open Classical in
def Ru{s:BY}(h:wY s):e9 s=true:=dE h
open Classical in
def Ar{s:BY}(h:¬ wY s):e9 s=false:=decide_eq_false h
open Classical in
def I9{s:BY}:e9 s=true↔wY s:=decide_eq_true_iff
def ag2(s:BY)(h:b_ s=true)(y:s.size<=900000):aa (DD [.s s]) fun g=>∃ i,g=[.i i,.t (e9 s)]/\(e9 s=true->i=eA s):=by
 obtain⟨F,M,N⟩:=En h y;have no:¬ wY s->∀(i:Int),∃ z,[G.i i,G.t false]=[G.i z,G.t (e9 s)]/\(e9 s=true->z=eA s):=fun A i=>⟨i,by rw[Ar A],fun a=>(A (I9.1 a)).elim⟩
 unfold DD;dsimp +instances only[go_sem];refine aa.cE (I7 s y) ?_;dsimp +instances only[go_sem];refine aa.test (fun b=>aa.some (no (fun a=>?_) 0)) fun b=>?_
 ·rw [a.1] at b
  cases b
 have b:gW s.data.toList=true:=by simpa using b
 refine aa.test (fun d=>aa.some (no (fun a=>?_) 0)) fun d=>?_
 ·rw [be, dT] at d
  have:=a.2.1;omega
 rw[be,dF]at d;refine aa.cE F ?_;dsimp +instances only[go_sem];refine aa.test (fun k=>aa.some (no (fun a=>?_) 0)) fun k=>?_
 ·rw [be, dT] at k
  have:=a.2.2.1;omega
 rw[be,dF]at k;refine aa.test (fun q=>aa.some (no (fun a=>?_) 0)) fun q=>?_
 ·rw [be, dT] at q
  have:=a.2.2.2.1;omega
 rw[be,dF]at q;refine aa.p (aa.p (aa.test (fun v=>aa.some (no (fun a=>?_) 0)) fun v=>?_))
 ·rw [be, dT] at v
  have:=a.2.2.2.2.1;omega
 rw[be,dF]at v;refine aa.p (aa.p (aa.test (fun w=>aa.some (no (fun a=>?_) 0)) fun w=>?_))
 ·rw [be, dT] at w
  have:=a.2.2.2.2.2.1;omega
 rw[be,dF]at w;refine aa.p ?_;have I:(s.extract 0 (eA s).toNat).size<=900000:=by rw[sH]; omega
 refine aa.cE (I7 _ I) ?_;have J:(s.extract 0 (eA s).toNat).data.toList=s.data.toList.take (eA s).toNat:=by rw[pF]; simp
 rw[J,Rs b];refine aa.some ⟨eA s,?_,fun _=>rfl⟩;show [G.i (eA s),G.t (aK 0 ((fX (s.data.toList.take (eA s).toNat):Nat):Int))]=_
 by_cases B:0<fX (s.data.toList.take (eA s).toNat)
 ·rw[Ru ⟨b,by omega,by omega,by omega,by omega,by omega,B⟩,be,dE (by omega)]
 ·rw[Ar (fun a=>B a.2.2.2.2.2.2),be,decide_eq_false (by omega)]
def I_(s:BY)(h:b_ s=true)(b:s.size<=900000):aa (t_ [.s s]) fun g=>∃ row,g=[.l [row],.t (e9 s)]:=by
 obtain⟨_,k,q⟩:=En h b;unfold t_;dsimp +instances only[go_sem];refine aa.call (ag2 s h b) ?_;rintro _ ⟨i,rfl,hi⟩;dsimp +instances only[go_sem];refine aa.test (fun a=>?_) fun a=>?_
 ·have a : e9 s = false := by simpa using a
  rw[a];exact aa.some ⟨_,rfl⟩
 ·have a : e9 s = true := by simpa using a
  rw[hi a,a];have d:=I9.1 a;have:=d.2.2.1;exact aa.p (aa.p (aa.p (aa.p (aa.some ⟨_,rfl⟩))))
def I'(s:BY)(b:s.size<=900000):zJ [.s s]=some [.t (n9 s)]:=by
 refine aa.toEq ?_;unfold zJ n9;dsimp +instances only[go_sem];refine aa.cE (I7 s b) ?_;dsimp +instances only[go_sem];cases d:gW s.data.toList with
 |false=>exact aa.neg rfl (aa.some rfl)
 | true =>
  refine aa.pos rfl ?_;simp only[cT,fB];refine aa.test (fun a=>?_) fun a=>?_
  ·rw [be, dT] at a
   rw[show cR 0 (fX s.data.toList)=true by rw[dH]; omega,fB];refine aa.some ?_;rw[bz,fP.2 (by rw[dT,cu]; omega:decide (((s.size:Nat):Int)<=4)=true↔bf s.size 4=true)]
  ·rw [be, dF] at a
   rw[show cR 0 (fX s.data.toList)=false by rw[nv,ne_eq,dH]; omega];exact aa.some rfl
def ag3(s:BY)(z:s.size<=900000):aa (zK [.s s]) fun g=>∃ i a,g=[.i i,.s a,.t (ju s)]:=by
 unfold zK ju;dsimp +instances only[go_sem];simp only[eE];have d:∀(i:Int) (a:BY) {b c:Bool},b=c->aa (some [G.i i,G.s a,G.t b]) fun g=>∃ i a,g=[.i i,.s a,.t c]:=fun i a b c e=>aa.some ⟨i,a,by rw[e]⟩;refine aa.test (fun q=>d _ _ (by rw[q]; rfl)) fun q=>?_;refine aa.test (fun v=>d _ _ (by rw[v]; simp)) fun v=>?_;refine aa.test (fun w=>d _ _ (by rw[w]; simp)) fun w=>?_;refine aa.test (fun y=>d _ _ (by rw[y]; simp)) fun y=>?_;rw[q,v,w,y];simp only[iz];refine aa.test (fun h=>?_) fun h=>?_
 ·have h : s.size = 1 := by simp only [beq_iff_eq] at h; omega
  refine aa.p ?_;refine aa.cE (Rp (s.data.toList.getD 0 0)) ?_;rw[show aH s.size 1=true by rw[h]; rfl,fB];refine aa.test (fun k=>?_) fun k=>?_
  ·have k : gD (s.data.toList.getD 0 0) = true := k
   exact d _ _ (by rw[k]; rfl)
  ·have k : gD (s.data.toList.getD 0 0) = false := k
   refine aa.cE (I' s z) ?_;exact d _ _ (by rw[k]; rfl)
 ·have h : s.size ≠ 1 := by simp only [beq_eq_false_iff_ne, ne_eq] at h; omega
  rw[show aH s.size 1=false by rw[nv,ne_eq,Fc]; exact h,ml,iz];refine aa.cE (I' s z) ?_;exact d _ _ rfl
def Ja:BY:=⟨#[47]⟩
def iu(s:BY):Int:=lB s.data.toList [47]
def fu(s:BY):BY:=if 0<=iu s then s.extract 0 (iu s).toNat else s
def cQ(s:BY):BY:=if 0<=iu s then s.extract ((iu s)+1).toNat s.size else ⟨#[]⟩
def ag4(s:BY):0<=iu s->iu s<(s.size:Nat):=by
 intro h;unfold iu at *;rw[pD]at *;obtain⟨o,a⟩:∃ o:Nat,eN s.data.toList 47=o:=⟨(eN s.data.toList 47).toNat,by omega⟩
 have:=(Lib.indexByte_some a).1;have:=(List.getElem?_eq_some_iff.1 this).1;rw[a,gx];omega
def Cx(s:BY)(h:s.size<=900000):oR [.s s,.s Ja]=some [.s (fu s),.s (cQ s),.t (aR 0 (iu s))]:=by
 refine aa.toEq ?_;unfold oR;dsimp +instances only[go_sem];refine aa.call (P:=fun g=>g=[.s (fu s),.s (cQ s),.t (aR 0 (iu s))]) ?_ ?_
 ·unfold zx
  dsimp +instances only[go_sem];have hi:wA [.s s,.s Ja]=some [.i (iu s)]:=by
   refine aa.toEq ?_;unfold wA C5;dsimp +instances only[go_sem];exact aa.pos rfl (aa.some rfl)
  refine aa.cE hi ?_;dsimp +instances only[go_sem];have d:(Ja.size:Nat)=1:=rfl;rw[d];refine aa.test (fun a=>?_) fun a=>?_
  ·have b : 0 <= iu s := by rw [bz, dT] at a; exact a
   have:=ag4 s b;rw[a];refine aa.p (aa.p (aa.p (aa.some ?_)));unfold fu cQ;rw[iP b,iP b];rfl
  ·have b : ¬ 0 <= iu s := by rw [bz, dF] at a; exact a
   rw[a];refine aa.some ?_;unfold fu cQ;rw[iN b,iN b]
 ·rintro _ rfl
  exact aa.some rfl
def Rv(s:BY):(fu s).size<=s.size:=by
 unfold fu;split
 ·rw[sH]; omega
 ·omega
def Rw(s:BY):(cQ s).size<=s.size:=by
 unfold cQ;split
 ·rw[sH]; omega
 ·exact fO _
def Rx{s:BY}(h:b_ s=true):b_ (fu s)=true:=by
 unfold fu;split
 ·exact Em h _
 ·exact h
def Ry{s:BY}(h:b_ s=true):b_ (cQ s)=true:=by
 unfold cQ;split
 ·exact I8 h _
 ·rfl
def ag5{s:BY}(h:0<=iu s):e9 s=false:=Ar fun a=>by
 have b:=a.1;have hm:(47:UInt8)∉s.data.toList:=fun hm=>by
  have:=cq.1 b _ hm
  revert this
  decide
 unfold iu at h;rw[pD,zl hm]at h;omega
def kH(s:BY):Bool:=bf s.size 14&&(e9 s||(aR 0 (iu s)&&((e9 (cQ s)&&n9 (fu s))||(e9 (fu s)&&ju (cQ s)))))
def As(s:BY)(h:b_ s=true)(A:s.size<=900000):rU [.s s]=some [.t (kH s)]:=by
 refine aa.toEq ?_;unfold rU;dsimp +instances only[go_sem];refine aa.call (P:=fun g=>∃ row,g=[.l [row],.t (kH s)]) ?_ ?_
 ·unfold DE kH
  dsimp +instances only[go_sem];have q:∀(row:LG) {b c:Bool},b=c->aa (some [G.l [row],G.t b]) fun g=>∃ row,g=[.l [row],.t c]:=fun row b c e=>aa.some ⟨row,by rw[e]⟩;refine aa.test (fun g0=>?_) fun g0=>?_
  ·rw [be, dT] at g0
   exact q _ (by rw[show bf s.size 14=false by rw[nv,ne_eq,cu]; omega]; rfl)
  rw[be,dF]at g0;rw[show bf s.size 14=true by rw[cu]; omega,fB];refine aa.call (I_ s h A) ?_;rintro _ ⟨row,rfl⟩;dsimp +instances only[go_sem];refine aa.test (fun y=>q _ (by rw[y]; rfl)) fun y=>?_;rw[y,iz];refine aa.cE (Cx s A) ?_;dsimp +instances only[go_sem];refine aa.test (fun v=>?_) fun v=>?_
  ·have v : aR 0 (iu s) = false := by simpa using v
   exact q _ (by rw[v]; rfl)
  have v:aR 0 (iu s)=true:=by simpa using v
  rw[v,fB];have F:=Rv s;have I:=Rw s;have B:=Rx h;have aB:=Ry h;have rest:aa (aj (t_ [G.s (fu s)]) fun w=>aj (zK [G.s (cQ s)]) fun z=>bif !(gi w 1).bV then some [G.l [[G.s (⟨#[]⟩:BY),G.s (⟨#[]⟩:BY),G.s (⟨#[]⟩:BY),G.i 0,G.s (⟨#[]⟩:BY)]],G.t false] else
    bif !(gi z 2).bV then some [G.l [[G.s (⟨#[]⟩:BY),G.s (⟨#[]⟩:BY),G.s (⟨#[]⟩:BY),G.i 0,G.s (⟨#[]⟩:BY)]],G.t false] else some [G.l [[G.s (gi (gi w 0).rV 0).sV,G.s (gi (gi w 0).rV 1).sV,G.s (gi (gi w 0).rV 2).sV,G.i (gi z 0).iV,G.s (gi z 1).sV]],G.t true])
    fun g=>∃ row,g=[G.l [row],G.t (e9 (fu s)&&ju (cQ s))]:=by
   refine aa.call (I_ _ B (by omega)) ?_;rintro _ ⟨row,rfl⟩;refine aa.call (ag3 _ (by omega)) ?_;rintro _ ⟨i,a,rfl⟩;dsimp +instances only[go_sem];refine aa.test (fun k=>?_) fun k=>?_
   ·have k : e9 (fu s) = false := by simpa using k
    exact q _ (by rw[k]; rfl)
   have k:e9 (fu s)=true:=by simpa using k
   rw[k,fB];refine aa.test (fun d=>?_) fun d=>?_
   ·have d : ju (cQ s) = false := by simpa using d
    exact q _ (by rw[d])
   ·have d : ju (cQ s) = true := by simpa using d
    exact q _ (by rw[d])
  refine aa.call (I_ _ aB (by omega)) ?_;rintro _ ⟨row,rfl⟩;dsimp +instances only[go_sem];refine aa.test (fun k=>?_) fun k=>?_
  ·rw [k, fB]
   refine aa.cE (I' (fu s) (by omega)) ?_;refine aa.test (fun d=>?_) fun d=>?_
   ·have d : n9 (fu s) = true := d
    exact q _ (by rw[d]; rfl)
   ·have d : n9 (fu s) = false := d
    rw[d,iz];exact rest
  ·rw [k, ml, iz]
   exact rest
 ·rintro _ ⟨row, rfl⟩
  exact aa.some rfl
def qw:BY:=⟨#[97,98,99,100,101,102,103,104,105,106,107,108,109,110,111,112,113,114,115,116,117,118,119,120,121,122]⟩
def wZ:BY:=⟨#[97,98,99,100,101,102,103,104,105,106,107,108,109,110,111,112,113,114,115,116,117,118,119,120,121,122,48,49,50,51,52,53,54,55,56,57]⟩
def pc(p:UInt8->Bool) (h:((List.range 256).all fun n=>p (UInt8.ofNat n))=true) (b:UInt8):p b=true:=by
 have:=cq.1 h b.toNat (List.mem_range.2 (UInt8.toNat_lt b))
 rwa [Fk]at this
def ag6(b:UInt8):qw.data.toList.contains b=gV b:=by
 have:=pc (fun b=>qw.data.toList.contains b==gV b) (by kernel_rfl) b;simpa using this
def Rz(b:UInt8):wZ.data.toList.contains b=(gV b||gD b):=by
 have:=pc (fun b=>wZ.data.toList.contains b==(gV b||gD b)) (by kernel_rfl) b;simpa using this
def RA(b:UInt8):gl.data.toList.contains b=gD b:=by
 have:=pc (fun b=>gl.data.toList.contains b==gD b) (by kernel_rfl) b;simpa using this
def Jb{p:UInt8->Bool}:∀{l:List UInt8},l.dropWhile p=[]->∀ b∈l,p b=true
 | [],_,b,a=>by cases a
 | x::l,h,b,a=>by
  rw[List.dropWhile_cons]at h;split at h
  ·rename_i d
   rcases cf.1 a with rfl|a
   ·exact d
   ·exact Jb h b a
  ·cases h
def Jc{l a:List UInt8}:pE l a=[]↔∀ b∈l,a.contains b=true:=by
 refine⟨fun h=>?_,YX⟩;unfold pE Lib.trimLeftS at h;have g:∀ b∈Tn l a,a.contains b=true:=Jb h;unfold Tn at g;cases d:l.reverse.dropWhile (a.contains ·)with
 |nil=>exact fun b k=>Jb d b (List.mem_reverse.2 k)
 | cons x r =>
  have q:=g x (by rw[d]; simp);have:=List.head_dropWhile_not (p:=(a.contains ·)) (l:=l.reverse) (by rw[d]; simp);simp only[d,List.head_cons]at this;rw[q]at this;cases this
def RB(a:List UInt8):∀ l:List UInt8,Tl l a=l.any (a.contains ·)
 | []=>rfl
 | b::l=>by
  have d:=RB a l;have h:=Lib.indexAny_ge a l;unfold Tl at d|-;unfold akv;rw[akr,<-d];cases k:a.contains b with
  |true=>simp
  | false =>
   rw[iN (by simp)];by_cases g:akv l a = -1
   ·rw[g]; simp
   ·rw [iN (by simpa using g)]
    simp only[iz];exact decide_eq_decide.2 ⟨fun _=>by omega,fun _=>by omega⟩
def ag7(l:List UInt8):l.any gV=cR 0 (fX l):=by
 rw[fP,mh,dH];unfold fX;rw[List.length_pos_iff_exists_mem];simp only[List.mem_filter]
def Jd(a u v:Int):wC [.i a,.i u,.i v]=some [.t (aR u a&&aR a v)]:=by
 refine aa.toEq ?_;unfold wC;dsimp +instances only[go_sem];exact aa.test (fun h=>aa.some (by rw[h,fB])) fun h=>aa.some (by rw[h,ml])
def RC(s:BY)(h:b_ s=true)(a:s.size<=900000):Ah [.s s,.s qw]=some [.t (cR 0 (fX s.data.toList))]:=by
 refine aa.toEq ?_;unfold Ah C6;dsimp +instances only[go_sem];refine aa.pos ?_ (aa.some ?_)
 ·rw [h, fB, aE, aE]
  exact⟨rfl,by rw[dH]; omega,rfl⟩
 ·rw [RB, <- ag7]
  congr 3
  funext b
  exact ag6 b
def ag8(s:BY)(d:0<s.size)(k:s.size<=900000):aa (lV [.s s,.s wZ]) fun g=>∃ t,g=[.s t]/\(t.toList==(⟨#[]⟩:BY).toList)=gW s.data.toList:=by
 unfold lV;dsimp +instances only[go_sem];refine aa.pos ?_ (aa.some ⟨_,rfl,?_⟩)
 ·simp only [aE, cu, dH]
  exact⟨by rfl,by decide,by decide,by omega,by omega⟩
 ·have e : (trimB s wZ).toList = pE s.data.toList wZ.data.toList := by rw [eE]; simp [trimB]
  rw[e,eE,fP,beq_iff_eq];show pE s.data.toList wZ.data.toList=[]↔_
  rw[Jc];unfold gW;rw[cq];exact⟨fun h b a=>by rw[<-Rz]; exact h b a,fun h b a=>by rw[Rz]; exact h b a⟩
def RD(s:BY)(h:b_ s=true)(d:s.size<=900000)(lo hi:Int)(k:1<=lo):Ai [.s s,.i lo,.i hi]=some [.t ((aR lo ((s.size:Nat):Int)&&aR ((s.size:Nat):Int) hi)&&(gW s.data.toList&&cR 0 (fX s.data.toList)))]:=by
 refine aa.toEq ?_;unfold Ai;dsimp +instances only[go_sem];refine aa.cE (Jd _ _ _) ?_;dsimp +instances only[go_sem];refine aa.test (fun a=>?_) fun a=>aa.some (by rw[a,ml]);rw[a,fB];rw[aE,bz,dT]at a;refine aa.call (ag8 s (by omega) d) ?_;rintro _ ⟨t,rfl,g⟩;dsimp +instances only[go_sem];rw[g];refine aa.test (fun b=>?_) fun b=>aa.some (by rw[b,ml]);rw[b,fB];refine aa.cE (RC s h d) ?_;exact aa.some rfl
def At(s:BY)(h:b_ s=true)(g:s.size<=900000):Ak [.s s]=some [.t (n9 s)]:=by
 refine aa.toEq ?_;unfold Ak;dsimp +instances only[go_sem];refine aa.cE (RD s h g 1 4 (by omega)) ?_;have e:((aR 1 ((s.size:Nat):Int)&&aR ((s.size:Nat):Int) 4)&&(gW s.data.toList&&cR 0 (fX s.data.toList)))=n9 s:=by
  unfold n9;have k:=Rr s.data.toList;have q:=gx s;rw[fP];simp only[aE,bz,dT,dH,cu];constructor
  ·rintro ⟨⟨a, b⟩, c, d⟩
   exact⟨c,d,by omega⟩
  ·rintro ⟨a, b, c⟩
   exact⟨⟨by omega,by omega⟩,a,b⟩
 dsimp +instances only[go_sem];rw[e];exact aa.some rfl
def ag9(l:List UInt8)(i:Nat):fX (l.take i)<=fX l:=(akY gV (List.take_sublist i l)).length_le
def Au(s:BY)(h:b_ s=true)(v:s.size<=900000):aa (wN [.s s]) fun g=>∃ i,g=[.i i]/\aK i 0 = !e9 s/\aR 0 i=e9 s/\(e9 s=true->i=eA s):=by
 obtain⟨w,I,J⟩:=En h v;have no:¬ wY s->∃ i,[G.i (-1)]=[G.i i]/\aK i 0 = !e9 s/\aR 0 i=e9 s/\(e9 s=true->i=eA s):=fun t=>⟨-1,rfl,by rw[Ar t]; rfl,by rw[Ar t]; rfl,fun a=>(t (I9.1 a)).elim⟩
 unfold wN;dsimp +instances only[go_sem];refine aa.cE w ?_;refine aa.cE (RD s h v 3 10 (by omega)) ?_;dsimp +instances only[go_sem];refine aa.test (fun b=>aa.some (no fun a=>?_)) fun b=>?_
 ·have F := ag9 s.data.toList (eA s).toNat
  have:((aR 3 ((s.size:Nat):Int)&&aR ((s.size:Nat):Int) 10)&&(gW s.data.toList&&cR 0 (fX s.data.toList)))=true:=by
   simp only[aE,bz,dT,dH];obtain⟨y,M,N,O,U,V,W⟩:=a;exact⟨⟨by omega,by omega⟩,y,by omega⟩
  rw[this]at b;cases b
 have b:((aR 3 ((s.size:Nat):Int)&&aR ((s.size:Nat):Int) 10)&&(gW s.data.toList&&cR 0 (fX s.data.toList)))=true:=by simpa using b
 simp only[aE,bz,dT]at b;obtain⟨⟨s1,s2⟩,z,_⟩:=b;refine aa.cE (Jd _ _ _) ?_;dsimp +instances only[go_sem];refine aa.test (fun k=>aa.some (no fun a=>?_)) fun k=>?_
 ·have:(aR 1 (eA s)&&aR (eA s) 3)=true:=by
   simp only[aE,bz,dT];exact⟨a.2.2.1,a.2.2.2.1⟩
  rw[this]at k;cases k
 have k:(aR 1 (eA s)&&aR (eA s) 3)=true:=by simpa using k
 simp only[aE,bz,dT]at k;refine aa.p (aa.p ?_);refine aa.cE (Jd _ _ _) ?_;dsimp +instances only[go_sem];refine aa.test (fun q=>aa.some (no fun a=>?_)) fun q=>?_
 ·have:(aR 1 (((s.size:Nat):Int)-1-eA s)&&aR (((s.size:Nat):Int)-1-eA s) 4)=true:=by
   simp only[aE,bz,dT];have:=a.2.2.2.2.1;have:=a.2.2.2.2.2.1;omega
  rw[this]at q;cases q
 have q:(aR 1 (((s.size:Nat):Int)-1-eA s)&&aR (((s.size:Nat):Int)-1-eA s) 4)=true:=by simpa using q
 simp only[aE,bz,dT]at q;refine aa.p ?_;have A:(s.extract 0 (eA s).toNat).size<=900000:=by rw[sH]; omega
 refine aa.cE (RC _ (Em h _) A) ?_;dsimp +instances only[go_sem];have B:(s.extract 0 (eA s).toNat).data.toList=s.data.toList.take (eA s).toNat:=by rw[pF]; simp
 rw[B];refine aa.test (fun d=>aa.some (no fun a=>?_)) fun d=>?_
 ·rw [show cR 0 (fX (s.data.toList.take (eA s).toNat)) = true by rw [dH]; exact a.2.2.2.2.2.2] at d
  cases d
 ·have d : cR 0 (fX (s.data.toList.take (eA s).toNat)) = true := by simpa using d
  rw[dH]at d;have a:e9 s=true:=Ru ⟨z,by omega,by omega,by omega,by omega,by omega,d⟩;refine aa.some ⟨eA s,rfl,?_,?_,fun _=>rfl⟩
  ·rw [a, be, decide_eq_false (by omega)]
   rfl
  ·rw[a,bz,dE (by omega)]
def Eo(s:BY)(h:b_ s=true)(a:s.size<=900000)(b:e9 s=true):aa (Aj [.s s]) fun g=>∃ row,g=[.l [row]]:=by
 obtain⟨_,d,k⟩:=En h a;unfold Aj;dsimp +instances only[go_sem];refine aa.call (Au s h a) ?_;rintro _ ⟨i,rfl,_,_,hi⟩;dsimp +instances only[go_sem];rw[hi b];exact aa.p (aa.p (aa.p (aa.p (aa.some ⟨_,rfl⟩))))
def RE(s:BY)(h:s.size=1):tT [.s gl,.s s]=some [.t (gD (s.data.toList.getD 0 0))]:=by
 obtain⟨c,rfl⟩:=Lib.one_byte s h;refine aa.toEq ?_;unfold tT zb;dsimp +instances only[go_sem];refine aa.pos rfl (aa.some ?_);show [G.t (aR 0 (lB gl.data.toList [c]))]=[G.t (gD c)]
 have:=pc (fun c=>aR 0 (lB gl.data.toList [c])==gD c) (by kernel_rfl) c;rw[show aR 0 (lB gl.data.toList [c])=gD c by simpa using this]
def Av(s:BY)(h:b_ s=true)(J:s.size<=900000):ug [.s s]=some [.t (kH s)]:=by
 refine aa.toEq ?_;unfold ug;dsimp +instances only[go_sem];refine aa.call (P:=fun g=>∃ row,g=[.l [row],.t (kH s)]) ?_ ?_
 rotate_left
 ·rintro _ ⟨row, rfl⟩
  exact aa.some rfl
 have a:∀(row:LG) {b c:Bool},b=c->aa (some [G.l [row],G.t b]) fun g=>∃ row,g=[.l [row],.t c]:=fun row b c e=>aa.some ⟨row,by rw[e]⟩;have hA:=Rv s;have hB:=Rw s;have I:=Rx h;have aB:=Ry h;unfold IG kH;dsimp +instances only[go_sem];refine aa.cE (Cx s J) ?_;dsimp +instances only[go_sem];refine aa.test (fun g0=>?_) fun g0=>?_
 ·rw [be, dT] at g0
  exact a _ (by rw[show bf s.size 14=false by rw[nv,ne_eq,cu]; omega]; rfl)
 rw[be,dF]at g0;rw[show bf s.size 14=true by rw[cu]; omega,fB];refine aa.test (fun v=>?_) fun v=>?_
 ·have v : aR 0 (iu s) = false := by simpa using v
  have M:¬ 0<=iu s:=by rw[bz,dF]at v; exact v
  have V:fu s=s:=by unfold fu; rw[iN M]
  rw[v,ml,To,V];refine aa.call (Au s h J) ?_;rintro _ ⟨i,rfl,W,_,_⟩;dsimp +instances only[go_sem];rw[W];refine aa.test (fun q=>?_) fun q=>?_
  ·have q : e9 s = false := by simpa using q
   exact a _ (by rw[q])
  ·have q : e9 s = true := by simpa using q
   refine aa.call (Eo s h J q) ?_;rintro _ ⟨row,rfl⟩;exact a _ (by rw[q])
 have v:aR 0 (iu s)=true:=by simpa using v
 have M:0<=iu s:=by rw[bz,dT]at v; exact v
 rw[ag5 M,v,iz,fB];refine aa.call (Au (cQ s) aB (by omega)) ?_;rintro _ ⟨i,rfl,_,X,_⟩;dsimp +instances only[go_sem];rw[X];refine aa.test (fun q=>?_) fun q=>?_
 ·rw [q, fB]
  refine aa.cE (At (fu s) I (by omega)) ?_;dsimp +instances only[go_sem];refine aa.test (fun N=>?_) fun N=>?_
  ·refine aa.call (Eo (cQ s) aB (by omega) q) ?_
   rintro _ ⟨row,rfl⟩;exact a _ (by rw[N]; rfl)
  rw[N,iz];refine aa.call (Au (fu s) I (by omega)) ?_;rintro _ ⟨Y,rfl,O,_,_⟩;dsimp +instances only[go_sem];rw[O];refine aa.test (fun w=>?_) fun w=>?_
  ·have w : e9 (fu s) = false := by simpa using w
   exact a _ (by rw[w]; rfl)
  have F:e9 (fu s)=true:=by simpa using w
  rw[F,fB];refine aa.call (Eo (fu s) I (by omega) F) ?_;rintro _ ⟨row,rfl⟩;dsimp +instances only[go_sem];simp only[eE];refine aa.test (fun y=>a _ (by unfold ju; rw[show ((cQ s).data.toList==[112])=true from y]; rfl)) fun y=>?_;refine aa.test (fun z=>a _ (by unfold ju; rw[show ((cQ s).data.toList==[109])=true from z]; simp)) fun z=>?_;refine aa.test (fun c3=>a _ (by unfold ju; rw[show ((cQ s).data.toList==[109,109])=true from c3]; simp)) fun c3=>?_;refine aa.test (fun A=>a _ (by unfold ju; rw[show ((cQ s).data.toList==[97,109])=true from A]; simp)) fun A=>?_;have U:ju (cQ s)=((aH (cQ s).size 1&&gD ((cQ s).data.toList.getD 0 0))||n9 (cQ s)):=by
   unfold ju;rw[show ((cQ s).data.toList==[112])=false from y,show ((cQ s).data.toList==[109])=false from z,show ((cQ s).data.toList==[109,109])=false from c3,show ((cQ s).data.toList==[97,109])=false from A];simp only[iz]
  rw[U];refine aa.test (fun d=>?_) fun d=>?_
  ·have d : (cQ s).size = 1 := by simp only [beq_iff_eq] at d; omega
   rw[show aH (cQ s).size 1=true by rw[d]; rfl,fB];refine aa.cE (RE (cQ s) d) ?_;dsimp +instances only[go_sem];refine aa.test (fun B=>a _ (by rw[B]; rfl)) fun B=>?_;rw[B,iz];refine aa.cE (At (cQ s) aB (by omega)) ?_;dsimp +instances only[go_sem];exact aa.test (fun k=>a _ (by rw[k])) fun k=>a _ (by rw[k])
  ·have d : (cQ s).size ≠ 1 := by simp only [beq_eq_false_iff_ne, ne_eq] at d; omega
   rw[show aH (cQ s).size 1=false by rw[nv,ne_eq,Fc]; exact d,ml,iz];refine aa.cE (At (cQ s) aB (by omega)) ?_;dsimp +instances only[go_sem];exact aa.test (fun k=>a _ (by rw[k])) fun k=>a _ (by rw[k])
 ·rw [q, ml, iz]
  refine aa.call (Au (fu s) I (by omega)) ?_;rintro _ ⟨Y,rfl,O,_,_⟩;dsimp +instances only[go_sem];rw[O];refine aa.test (fun w=>?_) fun w=>?_
  ·have w : e9 (fu s) = false := by simpa using w
   exact a _ (by rw[w]; rfl)
  have F:e9 (fu s)=true:=by simpa using w
  rw[F,fB];refine aa.call (Eo (fu s) I (by omega) F) ?_;rintro _ ⟨row,rfl⟩;dsimp +instances only[go_sem];simp only[eE];refine aa.test (fun y=>a _ (by unfold ju; rw[show ((cQ s).data.toList==[112])=true from y]; rfl)) fun y=>?_;refine aa.test (fun z=>a _ (by unfold ju; rw[show ((cQ s).data.toList==[109])=true from z]; simp)) fun z=>?_;refine aa.test (fun c3=>a _ (by unfold ju; rw[show ((cQ s).data.toList==[109,109])=true from c3]; simp)) fun c3=>?_;refine aa.test (fun A=>a _ (by unfold ju; rw[show ((cQ s).data.toList==[97,109])=true from A]; simp)) fun A=>?_;have U:ju (cQ s)=((aH (cQ s).size 1&&gD ((cQ s).data.toList.getD 0 0))||n9 (cQ s)):=by
   unfold ju;rw[show ((cQ s).data.toList==[112])=false from y,show ((cQ s).data.toList==[109])=false from z,show ((cQ s).data.toList==[109,109])=false from c3,show ((cQ s).data.toList==[97,109])=false from A];simp only[iz]
  rw[U];refine aa.test (fun d=>?_) fun d=>?_
  ·have d : (cQ s).size = 1 := by simp only [beq_iff_eq] at d; omega
   rw[show aH (cQ s).size 1=true by rw[d]; rfl,fB];refine aa.cE (RE (cQ s) d) ?_;dsimp +instances only[go_sem];refine aa.test (fun B=>a _ (by rw[B]; rfl)) fun B=>?_;rw[B,iz];refine aa.cE (At (cQ s) aB (by omega)) ?_;dsimp +instances only[go_sem];exact aa.test (fun k=>a _ (by rw[k])) fun k=>a _ (by rw[k])
  ·have d : (cQ s).size ≠ 1 := by simp only [beq_eq_false_iff_ne, ne_eq] at d; omega
   rw[show aH (cQ s).size 1=false by rw[nv,ne_eq,Fc]; exact d,ml,iz];refine aa.cE (At (cQ s) aB (by omega)) ?_;dsimp +instances only[go_sem];exact aa.test (fun k=>a _ (by rw[k])) fun k=>a _ (by rw[k])
def Je(s:BY)(c:UInt8)(h:s.size<=900000):n4 [.s s,.s (⟨#[c]⟩:BY)]=some [.l ((bB c s.data.toList).map fun y=>[G.s (aq y)])]:=by
 have a:=wo c s.data.toList;have b:=Dc c s.data.toList;cases d:bB c s.data.toList with
 |nil=>exact(wm c _ d).elim
 | cons x g =>
  rw[d]at a b;have:=Rm c x g b (by rw[a,<-gx]; omega);rw[a,l7]at this;exact this
def RF(b:UInt8):ch b=gD b:=rfl
def Jf(s:BY)(d:0<s.size)(k:s.size<=900000):aa (lV [.s s,.s gl]) fun g=>∃ t,g=[.s t]/\(t.toList==(⟨#[]⟩:BY).toList)=s.data.toList.all ch:=by
 unfold lV;dsimp +instances only[go_sem];refine aa.pos ?_ (aa.some ⟨_,rfl,?_⟩)
 ·simp only [aE, cu, dH]
  exact⟨by rfl,by decide,by decide,by omega,by omega⟩
 ·have e : (trimB s gl).toList = pE s.data.toList gl.data.toList := by rw [eE]; simp [trimB]
  rw[e,eE,fP,beq_iff_eq];show pE s.data.toList gl.data.toList=[]↔_
  rw[Jc,cq];exact⟨fun h b a=>by rw[RF,<-RA]; exact h b a,fun h b a=>by rw[RA,<-RF]; exact h b a⟩
def gE(l:List UInt8):Bool:=match l with|45::_=>true|_=>false
def eT(l:List UInt8):List UInt8:=match l with|45::t=>t|t=>t
def Jg(d:Nat)(l:List UInt8):ja d l=if eT l≠[]/\(eT l).length<=d/\(eT l).all ch=true/\((eT l).head? ≠ some 48\/(eT l=[48]/\gE l=false)) then some (bif gE l then -(aT (eT l):Int) else (aT (eT l):Int)) else none:=by
 unfold ja;split
 ·rename_i t
  have a:eT (45::t)=t:=rfl;have b:gE (45::t)=true:=rfl;rw[a,b];simp
 ·rename_i h
  have a:eT l=l:=by
   unfold eT;split
   ·exact(h _ rfl).elim
   ·rfl
  have b:gE l=false:=by
   unfold gE;split
   ·exact(h _ rfl).elim
   ·rfl
  rw[a,b];simp
def RG(l:List UInt8):(eT l).length<=l.length:=by
 unfold eT;split
 ·simp
 ·exact aY _
def RH(s:BY)(v:s.size<=900000):uc [.s s,.s (⟨#[45]⟩:BY)]=some [.t (gE s.data.toList)]:=by
 refine aa.toEq ?_;unfold uc;dsimp +instances only[go_sem];have k:(⟨#[45]⟩:BY).size=1:=rfl;have a:=gx s;rw[k];cases d:s.data.toList with
 | nil =>
  rw[d]at a;simp only[kf]at a;refine aa.neg (by rw[bz,dF]; omega) (aa.some ?_);rfl
 | cons b r =>
  rw[d]at a;simp only[bW]at a;refine aa.pos (by rw[bz,dT]; omega) (aa.pos (by rw[aE,dY,bz,dT,dT]; omega) (aa.some ?_));rw[eE,pF,eE,d];show [G.t ([b]==[45])]=[G.t (gE (b::r))]
  by_cases g:b=45
  ·subst g
   rfl
  ·have q:gE (b::r)=false:=by
    unfold gE;split
    ·rename_i h
     cases h;exact(g rfl).elim
    ·rfl
   rw[q,show ([b]==[45])=false by simpa using g]
def RI(s:BY):(bif gE s.data.toList then s.extract 1 s.size else s)=aq (eT s.data.toList):=by
 cases a:s.data.toList with
 | nil =>
  show s=aq []
  rw[<-l7 s,a]
 | cons b r =>
  by_cases d:b=45
  ·subst d
   show s.extract 1 s.size=aq r
   refine wX ?_;rw[Fl,a,cU];rfl
  ·have g:eT (b::r)=b::r:=by
    unfold eT;split
    ·rename_i h
     cases h;exact(d rfl).elim
    ·rfl
   have k:gE (b::r)=false:=by
    unfold gE;split
    ·rename_i h
     cases h;exact(d rfl).elim
    ·rfl
   rw[g,k,<-a,l7];rfl
def ag_(s:BY)(q:s.size<=900000):ud [.s s,.s (⟨#[45]⟩:BY)]=some [.s (aq (eT s.data.toList)),.t (gE s.data.toList)]:=by
 refine aa.toEq ?_;unfold ud;dsimp +instances only[go_sem];refine aa.call (P:=fun g=>g=[.s (aq (eT s.data.toList)),.t (gE s.data.toList)]) ?_ ?_
 ·unfold DP
  dsimp +instances only[go_sem];refine aa.cE (RH s q) ?_;dsimp +instances only[go_sem];have v:(⟨#[45]⟩:BY).size=1:=rfl;rw[v];have a:=RI s;cases d:gE s.data.toList with
  | false =>
   rw[d]at a;refine aa.pos rfl (aa.some ?_);rw[<-a];rfl
  | true =>
   rw[d]at a;have h:=gx s;have w:0<s.size:=by
    cases k:s.data.toList with
    |nil=>rw[k]at d; cases d
    |cons b r=>rw[k]at h; simp only[bW]at h; omega
   refine aa.neg rfl (aa.pos (by rw[aE,dY,bz,dT,dT]; omega) (aa.some ?_));rw[<-a];rfl
 ·rintro _ rfl
  exact aa.some rfl
def RJ(s:BY)(W:s.size<=900000):aa (zQ [.s s,.i 15]) fun g=>∃ n,g=[.i n,.t (ja 15 s.data.toList).isSome]/\∀ v,ja 15 s.data.toList=some v->n=v:=by
 have U:=RG s.data.toList;have hz:=gx s;rw[Jg];generalize X:gE s.data.toList=neg;generalize Y:eT s.data.toList=t at U;have no:∀{p:Prop} [Decidable p] (v:Int),¬ p->aa (some [G.i 0,G.t false]) fun g=>∃ n,g=[.i n,.t (if p then some v else none).isSome]/\∀ w,(if p then some v else none)=some w->n=w:=fun v F=>by
  rw[iN F];exact aa.some ⟨0,rfl,fun w A=>by cases A⟩
 have N:=ag_ s W;rw[X,Y]at N;unfold zQ;dsimp +instances only[go_sem];refine aa.cE N ?_;dsimp +instances only[go_sem];rw[se,eE,bJ,cU];refine aa.test (fun a=>no _ fun h=>h.1 (by simpa using a)) fun a=>?_;have a:t≠[]:=by simpa using a
 have F:0<t.length:=List.length_pos_iff.2 a;refine aa.test (fun q=>no _ fun h=>by rw[be,dT]at q; have:=h.2.1; omega) fun q=>?_;rw[be,dF]at q;have q:t.length<=15:=by omega
 refine aa.call (Jf (aq t) (by rw[bJ]; omega) (by rw[bJ]; omega)) ?_;rintro _ ⟨u,rfl,B⟩;rw[cU]at B;have B:(u.toList==[])=t.all ch:=by rw[eE (⟨#[]⟩:BY)]at B; exact B
 dsimp +instances only[go_sem];rw[B];refine aa.test (fun d=>no _ fun h=>by rw[h.2.2.1]at d; cases d) fun d=>?_;have d:t.all ch=true:=by simpa using d
 refine aa.p ?_;have J:lY [.s (aq t)]=some [.i (aT t:Int)]:=by
  refine aa.toEq ?_;unfold lY tN;dsimp +instances only[go_sem];refine aa.pos (by rw[bJ,cu]; omega) ?_;rw[cU,Dd a d];exact aa.some rfl
 have hv:=Ik 15 t d q;have M:∀{p:Prop} [Decidable p],p->aa (bif neg then (bif aF (0-(aT t:Int)) then some [G.i (0-(aT t:Int)),G.t true] else none) else some [G.i (aT t:Int),G.t true]) fun g=>∃ n,g=[.i n,.t (if p then some (bif neg then -(aT t:Int) else (aT t:Int)) else none).isSome]/\∀ w,(if p then some (bif neg then -(aT t:Int) else (aT t:Int)) else none)=some w->n=w:=fun F=>by
  rw[iP F];cases neg with
  |true=>exact aa.pos rfl (aa.pos (by simp only[aF,sl]; omega) (aa.some ⟨_,rfl,fun w A=>by cases A; simp⟩))
  |false=>exact aa.neg rfl (aa.some ⟨_,rfl,fun w A=>by cases A; rfl⟩)
 have O:((((t.getD 0 0).toNat:Nat):Int)==48)=(t.head? == some 48):=by
  cases t with
  |nil=>exact(a rfl).elim
  | cons b r =>
   show (((b.toNat:Nat):Int)==48)=(some b==some 48)
   rw[fP,beq_iff_eq,beq_iff_eq];constructor
   ·intro e
    rw[show b=48 from UInt8.toNat_inj.1 (by show b.toNat=48; omega)]
   ·intro e
    cases e;rfl
 rw[O];refine aa.test (fun k=>?_) fun k=>?_
 ·have k : t.head? = some 48 := by simpa using k
  refine aa.test (fun z=>no _ fun h=>?_) fun z=>?_
  ·rw [be, dT] at z
   rcases h.2.2.2 with y|⟨y,_⟩
   ·exact y k
   ·rw [y] at z
    simp at z
  ·rw [be, dF] at z
   refine aa.test (fun I=>no _ fun h=>?_) fun I=>?_
   ·rcases h.2.2.2 with y | ⟨_, y⟩
    ·exact y k
    ·rw [y] at I
     cases I
   ·refine aa.call (aa.eq J) ?_
    rintro _ rfl;have V:t=[48]:=by
     cases t with
     |nil=>exact(a rfl).elim
     | cons b r =>
      have:r=[]:=List.eq_nil_of_length_eq_zero (by simp at z; omega);subst this;simpa using k
    exact M ⟨a,q,d,.inr ⟨V,I⟩⟩
 ·have k : t.head? ≠ some 48 := by simpa using k
  refine aa.cE J ?_;exact M ⟨a,q,d,.inl k⟩
def Ep(s set:BY)(p:UInt8->Bool)(v:∀ b:UInt8,aK (eN set.data.toList b) 0 = !p b)(B:s.size<=900000):tS [.s s,.s set]=some [.t (s.data.toList.all p)]:=by
 refine aa.toEq ?_;unfold tS;dsimp +instances only[go_sem];have w:=gx s;refine aa.loop (P:=fun c g=>(c=1/\s.data.toList.all p=true/\g=[])\/(c=0/\s.data.toList.all p=false/\g=[.t false])) ?_ rfl ?_
 ·refine ((oO (σ:=Unit) (fun _ i=>[.s s,.s set,.i ((s.size:Nat):Int),.i (i:Int)]) s.size (fun _=>(1,[])) (fun _ i=>(s.data.toList.take i).all p=true)
   (fun c g=>c=0/\s.data.toList.all p=false/\g=[.t false]) ?_ ?_ s.size () 0 (by omega) rfl).to (by omega)).mono ?_
  ·rintro _ i a hi
   have k:i<s.data.toList.length:=by omega
   have y:s.data.toList.getD i 0=s.data.toList[i]:=by rw[eh,cn k]; rfl
   have q:s.data.toList.take (i+1)=s.data.toList.take i++[s.data.toList[i]]:=by rw[A8,cn k]; rfl
   have hm:s.data.toList[i]∈s.data.toList:=sE k;unfold Dm;dsimp +instances only[go_sem];simp only[eH,y];generalize F:s.data.toList[i]=b at q hm;refine aa.p (aa.p ?_);have z:wv [.s set,.i ((b.toNat:Nat):Int)]=some [.i (eN set.data.toList b)]:=by
    show some [G.i (eN set.data.toList ((b.toNat:Nat):Int).toNat.toUInt8)]=_
    rw[eH,show b.toNat.toUInt8=b from Fk]
   refine aa.cE z ?_;dsimp +instances only[go_sem];rw[v];refine aa.test (fun d=>?_) fun d=>?_
   ·have d : p b = false := by simpa using d
    refine aa.some (.inr ⟨0,_,rfl,rfl,?_,rfl⟩);cases A:s.data.toList.all p with
    |false=>rfl
    |true=>rw[cq.1 A b hm]at d; cases d
   ·have d : p b = true := by simpa using d
    refine aa.p (aa.some (.inl ⟨(),rfl,?_⟩));rw[q,sF,a];simp[d]
  ·rintro _ a
   unfold Dm;dsimp +instances only[go_sem];exact aa.n (aa.some rfl)
  ·rintro c g (⟨_, a, rfl, rfl⟩ | h)
   ·rw [w, mn] at a
    exact .inl ⟨rfl,a,rfl⟩
   ·exact .inr h
 ·rintro c g (⟨rfl, a, rfl⟩ | ⟨rfl, a, rfl⟩)
  ·rw [a]
   exact aa.neg rfl (aa.some rfl)
  ·rw [a]
   exact aa.pos rfl (aa.some rfl)
def RL(b:UInt8):aK (eN gl.data.toList b) 0 = !ch b:=by
 have:=pc (fun b=>aK (eN gl.data.toList b) 0 == !ch b) (by kernel_rfl) b;simpa using this
def ag'(s:BY)(q:s.size<=900000):DY [.s s,.s (⟨#[45]⟩:BY)]=some [.s (aq (eT s.data.toList))]:=by
 refine aa.toEq ?_;unfold DY;dsimp +instances only[go_sem];refine aa.call (P:=fun g=>g=[.s (aq (eT s.data.toList))]) ?_ ?_
 ·unfold IF
  dsimp +instances only[go_sem];refine aa.cE (RH s q) ?_;dsimp +instances only[go_sem];have t:(⟨#[45]⟩:BY).size=1:=rfl;rw[t];have a:=RI s;cases d:gE s.data.toList with
  | false =>
   rw[d]at a;refine aa.neg rfl (aa.some ?_);rw[<-a];rfl
  | true =>
   rw[d]at a;have h:=gx s;have v:0<s.size:=by
    cases k:s.data.toList with
    |nil=>rw[k]at d; cases d
    |cons b r=>rw[k]at h; simp only[bW]at h; omega
   refine aa.pos rfl (aa.pos (by rw[aE,dY,bz,dT,dT]; omega) (aa.some ?_));rw[<-a];rfl
 ·rintro _ rfl
  exact aa.some rfl
def aha(l:List UInt8):l=bif gE l then 45::eT l else eT l:=by
 unfold gE eT;split
 ·rfl
 ·rfl
def ahb(t:List UInt8)(neg:Bool)(k:t≠[])(h:t.all ch=true) :
  (f_ (bif neg then -(aT t:Int) else (aT t:Int))==(bif neg then 45::t else t))=decide (t.head? ≠ some 48\/(t=[48]/\neg=false)):=by
 have d:=canon t.length t rfl k h;have q:jg (aT t)=t->t.head? = some 48->t=[48]:=fun e a=>by
  have:=O0 (aT t) (by rw[e]; exact a);rw[this,lh (by omega)]at e;exact e.symm
 rw[fP,beq_iff_eq,dT];cases neg with
 | false =>
  have e:f_ (bif false then -(aT t:Int) else (aT t:Int))=jg (aT t):=by
   show f_ (aT t:Int)=_
   unfold f_;rw[iN (by omega)];simp
  rw[e];constructor
  ·intro b
   by_cases a:t.head? = some 48
   ·exact .inr ⟨q b a,rfl⟩
   ·exact .inl a
  ·rintro (a | ⟨a, _⟩)
   ·exact d (.inl a)
   ·exact d (.inr a)
 | true =>
  show f_ (-(aT t:Int))=45::t↔_
  by_cases g:aT t=0
  ·rw [g]
   have e:f_ (-((0:Nat):Int))=[48]:=by
    unfold f_;rw[iN (by omega),show (-((0:Nat):Int)).toNat=0 from rfl,lh (by omega)];rfl
   rw[e];constructor
   ·intro b
    simp at b
   ·rintro (a | ⟨_, a⟩)
    ·have := d (.inl a)
     rw[g,lh (by omega)]at this;exact(a (by rw[<-this]; rfl)).elim
    ·cases a
  ·have e:f_ (-(aT t:Int))=45::jg (aT t):=by
    unfold f_;rw[iP (by omega)];simp
   rw[e];constructor
   ·intro b
    have b:jg (aT t)=t:=by simpa using b
    refine .inl fun a=>?_;have:=O0 (aT t) (by rw[b]; exact a);exact g this
   ·rintro (a | ⟨_, a⟩)
    ·rw[d (.inl a)]
    ·cases a
def RM(s:BY)(I:s.size<=900000):aa (zY [.s s,.i 15]) fun g=>∃ n,g=[.i n,.t (ja 15 s.data.toList).isSome]/\∀ v,ja 15 s.data.toList=some v->n=v:=by
 have B:=RG s.data.toList;have N:=gx s;have k:=aha s.data.toList;have z:=ag' s I;rw[Jg];generalize O:gE s.data.toList=neg at k;generalize U:eT s.data.toList=t at B k z;have no:∀{p:Prop} [Decidable p] (v:Int),¬ p->aa (some [G.i 0,G.t false]) fun g=>∃ n,g=[.i n,.t (if p then some v else none).isSome]/\∀ w,(if p then some v else none)=some w->n=w:=fun v J=>by
  rw[iN J];exact aa.some ⟨0,rfl,fun w M=>by cases M⟩
 unfold zY;dsimp +instances only[go_sem];refine aa.cE z ?_;dsimp +instances only[go_sem];rw[se,bJ];refine aa.test (fun a=>no _ fun h=>h.1 (by rw[eE]at a; simpa using a)) fun a=>?_;have a:t≠[]:=by rw[eE]at a; simpa using a
 refine aa.test (fun d=>no _ fun h=>by rw[be,dT]at d; have:=h.2.1; omega) fun d=>?_;rw[be,dF]at d;have d:t.length<=15:=by omega
 refine aa.cE (Ep (aq t) gl ch RL (by rw[bJ]; omega)) ?_;dsimp +instances only[go_sem];rw[cU];refine aa.test (fun b=>no _ fun h=>by rw[h.2.2.1]at b; cases b) fun b=>?_;have b:t.all ch=true:=by simpa using b
 have V:s.data.toList.length<=16:=by
  rw[k];cases neg with
  |true=>show (45::t).length<=16; simp only[bW]; omega
  |false=>show t.length<=16; omega
 have q:=Ik 15 t b d;have F:lY [.s s]=some [.i (bif neg then -(aT t:Int) else (aT t:Int))]:=by
  refine aa.toEq ?_;unfold lY tN;dsimp +instances only[go_sem];refine aa.pos (by rw[cu]; omega) ?_;rw[k];cases neg with
  | true =>
   show aa ((Lib.atoi (45::t)).map fun n=>[G.i n]) _
   rw[YZ a b];exact aa.some rfl
  | false =>
   show aa ((Lib.atoi t).map fun n=>[G.i n]) _
   rw[Dd a b];exact aa.some rfl
 refine aa.cE F ?_;dsimp +instances only[go_sem];have A : -9223372036854775808<=(bif neg then -(aT t:Int) else (aT t:Int))/\(bif neg then -(aT t:Int) else (aT t:Int))<=9223372036854775807:=by
  cases neg with
  |true=>show -9223372036854775808 <= -(aT t:Int) /\ -(aT t:Int)<=9223372036854775807; omega
  |false=>show -9223372036854775808<=(aT t:Int)/\(aT t:Int)<=9223372036854775807; omega
 refine aa.cE (pb _ A.1 A.2) ?_;refine aa.some ⟨(bif neg then -(aT t:Int) else (aT t:Int)),?_,?_⟩
 ·(dsimp +instances only [go_sem])
  rw[o_,se,eE,k,ahb t neg a b];congr 3;by_cases y:t.head? ≠ some 48\/(t=[48]/\neg=false)
  ·rw [iP ⟨a, d, b, y⟩, dE y]
   rfl
  ·rw [iN (fun h => y h.2.2.2), decide_eq_false y]
   rfl
 ·intro v q
  split at q
  ·cases q
   rfl
  ·cases q
def fc(W:List (List UInt8)):Bool:=W.all fun y => !y.isEmpty
def df(W:List (List UInt8)):LL:=W.map fun y=>[G.s (aq y)]
def lq(W:List (List UInt8)):(df W).length=W.length:=by simp[df]
def Er(W:List (List UInt8))(i:Nat)(hi:i<W.length):(df W).getD i []=[G.s (aq W[i])]:=by
 unfold df;rw[eh,List.getElem?_map,cn hi];rfl
def n_(y:List UInt8):((aq y).toList==(⟨#[]⟩:BY).toList)=y.isEmpty:=by
 rw[se,eE];cases y<;>rfl
def RN(c:UInt8)(l:List UInt8):(bB c l).length<=l.length+1:=Ih c l
def ahc(s:BY)(q:s.size<=900000):DO [.s s]=some (bif fc (bB 32 s.data.toList) then [.l (df (bB 32 s.data.toList)),.t true] else [.l [],.t false]):=by
 refine aa.toEq ?_;have v:=RN 32 s.data.toList;have z:=gx s;unfold DO;dsimp +instances only[go_sem];refine aa.cE (Je s 32 q) ?_;generalize bB 32 s.data.toList=W at v;show aa (bT true (cd zP [.l (df W),.l (df W),.i (((df W).length:Nat):Int),.i 0]) _) _
 rw[lq];refine aa.loop (P:=fun c g=>(c=1/\fc W=true/\g=[.l (df W)])\/(c=0/\fc W=false/\g=[.l [],.t false])) ?_ rfl ?_
 ·refine ((oO (σ:=Unit) (fun _ i=>[.l (df W),.l (df W),.i ((W.length:Nat):Int),.i (i:Int)]) W.length (fun _=>(1,[.l (df W)])) (fun _ i=>fc (W.take i)=true)
   (fun c g=>c=0/\fc W=false/\g=[.l [],.t false]) ?_ ?_ W.length () 0 (by omega) rfl).to (by omega)).mono ?_
  ·rintro _ i a hi
   have d:W.take (i+1)=W.take i++[W[i]]:=by rw[A8,cn hi]; rfl
   have hm:W[i]∈W:=sE hi;have k:=Er W i hi;generalize W[i]=y at d hm k;unfold zP;dsimp +instances only[go_sem];rw[lq];refine aa.p (aa.p ?_);simp only[eH,k];dsimp +instances only[go_sem];rw[n_];refine aa.test (fun b=>?_) fun b=>?_
   ·refine aa.some (.inr ⟨0, _, rfl, rfl, ?_, rfl⟩)
    cases w:fc W with
    |false=>rfl
    | true =>
     have:=cq.1 w y hm;rw[b]at this;cases this
   ·refine aa.p (aa.some (.inl ⟨(), rfl, ?_⟩))
    unfold fc at a|-;rw[d,sF,a];simp[b]
  ·rintro _ a
   unfold zP;dsimp +instances only[go_sem];exact aa.n (aa.some rfl)
  ·rintro c g (⟨_, a, rfl, rfl⟩ | h)
   ·rw [mn] at a
    exact .inl ⟨rfl,a,rfl⟩
   ·exact .inr h
 ·rintro c g (⟨rfl, a, rfl⟩ | ⟨rfl, a, rfl⟩)
  ·rw [a]
   exact aa.neg rfl (aa.some rfl)
  ·rw [a]
   exact aa.pos rfl (aa.some rfl)
def ahd(W:List (List UInt8))(z:W.length<=900001):DW [.l (df W),.s (⟨#[]⟩:BY)]=some [.t (!fc W)]:=by
 refine aa.toEq ?_;unfold DW;dsimp +instances only[go_sem];refine aa.call (P:=fun g=>∃ k:Int,g=[.i k]/\aR 0 k = !fc W) ?_ ?_
 ·unfold ue
  dsimp +instances only[go_sem];rw[lq];refine aa.loop (P:=fun c g=>(c=1/\fc W=true/\g=[])\/(c=0/\fc W=false/\∃ i:Nat,g=[.i (i:Int)])) ?_ rfl ?_
  ·refine ((oO (σ:=Unit) (fun _ i=>[.l (df W),.s (⟨#[]⟩:BY),.i ((W.length:Nat):Int),.i (i:Int)]) W.length (fun _=>(1,[])) (fun _ i=>fc (W.take i)=true)
    (fun c g=>c=0/\fc W=false/\∃ i:Nat,g=[.i (i:Int)]) ?_ ?_ W.length () 0 (by omega) rfl).to (by omega)).mono ?_
   ·rintro _ i a hi
    have d:W.take (i+1)=W.take i++[W[i]]:=by rw[A8,cn hi]; rfl
    have hm:W[i]∈W:=sE hi;have q:=Er W i hi;generalize W[i]=y at d hm q;unfold wL;dsimp +instances only[go_sem];rw[lq];refine aa.p (aa.p ?_);simp only[eH,q];dsimp +instances only[go_sem];have he:((⟨#[]⟩:BY).toList==(aq y).toList)=y.isEmpty:=by
     rw[<-n_,fP,beq_iff_eq,beq_iff_eq];exact eq_comm
    rw[he];refine aa.test (fun b=>?_) fun b=>?_
    ·refine aa.some (.inr ⟨0, _, rfl, rfl, ?_, i, rfl⟩)
     cases v:fc W with
     |false=>rfl
     | true =>
      have:=cq.1 v y hm;rw[b]at this;cases this
    ·refine aa.p (aa.some (.inl ⟨(), rfl, ?_⟩))
     unfold fc at a|-;rw[d,sF,a];simp[b]
   ·rintro _ a
    unfold wL;dsimp +instances only[go_sem];exact aa.n (aa.some rfl)
   ·rintro c g (⟨_, a, rfl, rfl⟩ | h)
    ·rw [mn] at a
     exact .inl ⟨rfl,a,rfl⟩
    ·exact .inr h
  ·rintro c g (⟨rfl, a, rfl⟩ | ⟨rfl, a, i, rfl⟩)
   ·rw [a]
    exact aa.neg rfl (aa.some ⟨-1,rfl,rfl⟩)
   ·rw [a]
    exact aa.pos rfl (aa.some ⟨(i:Int),rfl,by rw[bz,dE (by omega)]; rfl⟩)
 ·rintro _ ⟨k, rfl, w⟩
  refine aa.some ?_;dsimp +instances only[go_sem];rw[w]
def ahe(s:BY)(a:s.size<=900000):DX [.s s]=some [.l (df (bB 32 s.data.toList)),.t (fc (bB 32 s.data.toList))]:=by
 refine aa.toEq ?_;have b:=RN 32 s.data.toList;have d:=gx s;unfold DX;dsimp +instances only[go_sem];refine aa.cE (Je s 32 a) ?_;dsimp +instances only[go_sem];refine aa.cE (ahd _ (by omega)) ?_;refine aa.some ?_;dsimp +instances only[go_sem];simp only[Bool.not_not];rfl
def w5(V:List Int):LL:=V.map fun n=>[G.i n]
def ahf(V:List Int):(w5 V).length=V.length:=by simp[w5]
def ahg(V:List Int)(n:Int):w5 V++[[G.i n]]=w5 (V++[n]):=by simp[w5]
def dL(L:List (List UInt8))(z:List UInt8):List UInt8:=L.flatMap (fun p=>p++[10])++z
def Aw(p:List UInt8)(L:List (List UInt8))(z:List UInt8):dL (p::L) z=p++10::dL L z:=by simp[dL]
def Es:∀(L:List (List UInt8)) (z:List UInt8),eD (L++[z]) [10]=dL L z
 | [],z=>by
  rw[nm,kN];rfl
 | p::L,z=>by
  have b:=Es L z;rw[Aw,<-b];cases a:L++[z]with
  |nil=>simp at a
  | cons x r =>
   rw[kK,a,jK];rfl
def ahh:∀(L:List (List UInt8)) (p z:List UInt8),dL (L++[p]) z=dL L p++10::z:=fun L p z=>by simp[dL]
def ahi(l:List UInt8):∃ L z,l=dL L z/\(∀ p∈L,10∉p)/\10∉z/\L.length<=l.length:=by
 have a:=wo 10 l;have b:=Dc 10 l;have d:=Ih 10 l;rcases xp (bB 10 l)with e|⟨L,z,e⟩
 ·exact(wm 10 l e).elim
 ·rw [xq] at e
  rw[e]at a b d;rw[Es]at a;refine⟨L,z,a.symm,fun p g=>b p (List.mem_append_left _ g),b z (by simp),?_⟩;simp at d;exact d
def Jh:∀(L:List (List UInt8)) (z:List UInt8),(∀ p∈L,p.length<=(dL L z).length)/\z.length<=(dL L z).length
 | [],z=>by simp[dL]
 | p::L,z=>by
  have a:=Jh L z;rw[Aw];simp only[dG,bW,cf,forall_eq_or_imp];refine⟨⟨by omega,fun q b=>?_⟩,by omega⟩;have:=a.1 q b;omega
def ahj(b:List UInt8)(c:UInt8)(g:b.length<=900000):DL [.s (aq (b++[c])),.s (⟨#[10]⟩:BY)]=some [.t (c==10)]:=by
 refine aa.toEq ?_;unfold DL;dsimp +instances only[go_sem];have a:(⟨#[10]⟩:BY).size=1:=rfl;rw[a,bJ,dG,Fm];refine aa.p (aa.p (aa.p (aa.some ?_)));have e:((((b.length+1:Nat):Int)-((1:Nat):Int)).toNat)=b.length:=by omega
 rw[e];have d:(((aq (b++[c])).extract b.length (b.length+1)).toList==(⟨#[10]⟩:BY).toList)=(c==10):=by
  rw[eE,pF,eE,cU];simp
 rw[d]
def RO(b:List UInt8)(c:UInt8)(a:b.length<=900000):DM [.s (aq (b++[c])),.s (⟨#[10]⟩:BY)]=some [.s (aq (bif c==10 then b else b++[c])),.t (c==10)]:=by
 refine aa.toEq ?_;unfold DM;dsimp +instances only[go_sem];refine aa.call (P:=fun g=>g=[.s (aq (bif c==10 then b else b++[c])),.t (c==10)]) ?_ ?_
 ·unfold IB
  dsimp +instances only[go_sem];refine aa.cE (ahj b c a) ?_;dsimp +instances only[go_sem];cases k:(c==10)with
  |false=>exact aa.pos rfl (aa.some rfl)
  | true =>
   have d:(⟨#[10]⟩:BY).size=1:=rfl;rw[d,bJ,dG,Fm];refine aa.neg rfl (aa.p (aa.p (aa.some ?_)));have e:((((b.length+1:Nat):Int)-((1:Nat):Int)).toNat)=b.length:=by omega
   rw[e];have h:(aq (b++[c])).extract 0 b.length=aq b:=by
    refine wX ?_;rw[pF,cU,cU];simp
   rw[h];rfl
 ·rintro _ rfl
  exact aa.some rfl
def oa(L:List (List UInt8))(z:List UInt8):List (List UInt8):=bif z.isEmpty then L else L++[z]
def RP(x:List UInt8)(a:List (List UInt8))(h:∀ y∈x::a,(10:UInt8)∉y) (b:(eD (x::a) [10]).length<=900000):n4 [.s (aq (eD (x::a) [10])),.s (⟨#[10]⟩:BY)]=some [.l (df (x::a))]:=Rm 10 x a h (by omega)
def ahk(L:List (List UInt8))(z:List UInt8)(A:∀ p∈L,(10:UInt8)∉p)(q:(10:UInt8)∉z)(d:(dL L z).length<=900000):DN [.s (aq (dL L z))]=some [.l (df (oa L z)),.t z.isEmpty]:=by
 refine aa.toEq ?_;unfold DN;dsimp +instances only[go_sem];rw[n_];rcases xp z with rfl|⟨B,c,e⟩
 ·rcases xp L with rfl | ⟨k, p, e⟩
  ·exact aa.pos rfl (aa.some rfl)
  ·rw [xq] at e
   have b:dL L []=dL k p++[10]:=by rw[e,ahh]
   have g:(dL k p).length<=900000:=by rw[b]at d; simp at d; omega
   refine aa.neg (by rw[b]; simp) ?_;rw[b];refine aa.cE (RO _ _ g) ?_;dsimp +instances only[go_sem];show aa (aj (n4 [.s (aq (dL k p)),_]) _) _
   rw[<-Es]at g|-;cases a:k++[p]with
   |nil=>simp at a
   | cons x v =>
    rw[a]at g;refine aa.cE (RP x v (by rw[<-a,<-e]; exact A) g) ?_;refine aa.some ?_;rw[<-a,<-e];rfl
 ·rw [xq] at e
  have F:(c==10)=false:=by
   rw[beq_eq_false_iff_ne];rintro rfl;rw[e]at q;simp at q
  have b:dL L z=dL L B++[c]:=by rw[e]; simp[dL]
  have w:z.isEmpty=false:=by rw[e]; simp
  have g:(dL L B).length<=900000:=by rw[b]at d; simp at d; omega
  refine aa.neg (by rw[b]; simp) ?_;rw[b];refine aa.cE (RO _ _ g) ?_;dsimp +instances only[go_sem];rw[F,<-b,w];show aa (aj (n4 [.s (aq (dL L z)),_]) _) _
  rw[<-Es]at d|-;cases a:L++[z]with
  |nil=>simp at a
  | cons x v =>
   rw[a]at d;refine aa.call (aa.eq (RP x v ?_ d)) ?_
   ·rw [<- a]
    intro y h;rcases cN.1 h with h|h
    ·exact A y h
    ·rw [gH.1 h]
     exact q
   ·rintro _ rfl
    refine aa.some ?_;unfold oa;rw[<-a,w];rfl
def ahl(p r:List UInt8)(a:(10:UInt8)∉p)(b:(p++10::r).length<=900000):oR [.s (aq (p++10::r)),.s (⟨#[10]⟩:BY)]=some [.s (aq p),.s (aq r),.t true]:=by
 refine aa.toEq ?_;unfold oR;dsimp +instances only[go_sem];refine aa.call (P:=fun g=>g=[.s (aq p),.s (aq r),.t true]) ?_ ?_
 ·unfold zx
  dsimp +instances only[go_sem];have d:wA [.s (aq (p++10::r)),.s (⟨#[10]⟩:BY)]=some [.i ((p.length:Nat):Int)]:=by
   show some [G.i (lB (aq (p++10::r)).data.toList [10])]=_
   rw[pD,cU,zm r a]
  refine aa.cE d ?_;dsimp +instances only[go_sem];have h:(⟨#[10]⟩:BY).size=1:=rfl;rw[h,bJ];simp only[dG,bW]at b|-;refine aa.p (aa.p (aa.p (aa.p (aa.some ?_))));have k:(aq (p++10::r)).extract 0 (((p.length:Nat):Int).toNat)=aq p:=by
   refine wX ?_;rw[pF,cU,cU];simp
  have q:(aq (p++10::r)).extract ((((p.length:Nat):Int)+((1:Nat):Int)).toNat) (p.length+(r.length+1))=aq r:=by
   refine wX ?_;rw[pF,cU,cU];have e:((((p.length:Nat):Int)+((1:Nat):Int)).toNat)=p.length+1:=by omega
   rw[e];have v:p.length+(r.length+1)-(p.length+1)=r.length:=by omega
   simp[List.drop_append,v,List.drop_eq_nil_of_le (Nat.le_succ p.length)]
  rw[k,q]
 ·rintro _ rfl
  exact aa.some rfl
def ahm(z:List UInt8)(a:(10:UInt8)∉z):oR [.s (aq z),.s (⟨#[10]⟩:BY)]=some [.s (aq z),.s (⟨#[]⟩:BY),.t false]:=by
 refine aa.toEq ?_;unfold oR;dsimp +instances only[go_sem];refine aa.call (P:=fun g=>g=[.s (aq z),.s (⟨#[]⟩:BY),.t false]) ?_ ?_
 ·unfold zx
  dsimp +instances only[go_sem];have b:wA [.s (aq z),.s (⟨#[10]⟩:BY)]=some [.i (-1)]:=by
   show some [G.i (lB (aq z).data.toList [10])]=_
   rw[pD,cU,zl a]
  refine aa.cE b ?_;exact aa.neg rfl (aa.some rfl)
 ·rintro _ rfl
  exact aa.some rfl
def uo(b:UInt8):Bool:=(gV b||gD b)||(b==45||b==95)
def qx:BY:=⟨#[97,98,99,100,101,102,103,104,105,106,107,108,109,110,111,112,113,114,115,116,117,118,119,120,121,122,48,49,50,51,52,53,54,55,56,57,45,95]⟩
def pd(s:BY):Bool:=(bf 1 s.size&&bf s.size 40)&&(gV (s.data.toList.getD 0 0)&&s.data.toList.all uo)
def uq(s:BY):Bool:=aH s.size 0||pd s
def ahn(b:UInt8):aK (eN qw.data.toList b) 0 = !gV b:=by
 have:=pc (fun b=>aK (eN qw.data.toList b) 0 == !gV b) (by kernel_rfl) b;simpa using this
def aho(b:UInt8):aR 0 (eN qw.data.toList b)=gV b:=by
 have:=pc (fun b=>aR 0 (eN qw.data.toList b)==gV b) (by kernel_rfl) b;simpa using this
def ahp(b:UInt8):aK (eN qx.data.toList b) 0 = !uo b:=by
 have:=pc (fun b=>aK (eN qx.data.toList b) 0 == !uo b) (by kernel_rfl) b;simpa using this
def RQ(b:UInt8):qx.data.toList.contains b=uo b:=by
 have:=pc (fun b=>qx.data.toList.contains b==uo b) (by kernel_rfl) b;simpa using this
def ahq(s:BY)(d:0<s.size)(k:s.size<=900000):aa (lV [.s s,.s qx]) fun g=>∃ t,g=[.s t]/\(t.toList==(⟨#[]⟩:BY).toList)=s.data.toList.all uo:=by
 unfold lV;dsimp +instances only[go_sem];refine aa.pos ?_ (aa.some ⟨_,rfl,?_⟩)
 ·simp only [aE, cu, dH]
  exact⟨by rfl,by decide,by decide,by omega,by omega⟩
 ·have e : (trimB s qx).toList = pE s.data.toList qx.data.toList := by rw [eE]; simp [trimB]
  rw[e,eE,fP,beq_iff_eq];show pE s.data.toList qx.data.toList=[]↔_
  rw[Jc,cq];exact⟨fun h b a=>by rw[<-RQ]; exact h b a,fun h b a=>by rw[RQ]; exact h b a⟩
def ahr(set:BY)(b:UInt8):wv [.s set,.i ((b.toNat:Nat):Int)]=some [.i (eN set.data.toList b)]:=by
 show some [G.i (eN set.data.toList ((b.toNat:Nat):Int).toNat.toUInt8)]=_
 rw[eH,show b.toNat.toUInt8=b from Fk]
def Et(s:BY):(s.toList==(⟨#[]⟩:BY).toList)=aH s.size 0:=by
 rw[<-l7 s,n_,bJ];cases s.data.toList<;>rfl
def RR(s:BY)(g:s.size<=900000):rT [.s s]=some [.t (pd s)]:=by
 refine aa.toEq ?_;unfold rT pd;dsimp +instances only[go_sem];rw[Et];refine aa.test (fun a=>?_) fun a=>?_
 ·have a : s.size ≠ 0 := fun e => by rw [e] at a; cases a
  rw[show bf 1 s.size=true by rw[cu]; omega,fB];refine aa.test (fun b=>?_) fun b=>?_
  ·rw [bz, dT] at b
   rw[show bf s.size 40=true by rw[cu]; omega,fB];refine aa.p ?_;refine aa.cE (ahr qw _) ?_;dsimp +instances only[go_sem];rw[aho];refine aa.test (fun d=>?_) fun d=>?_
   ·rw [d, fB]
    refine aa.call (ahq s (by omega) g) ?_;rintro _ ⟨t,rfl,h⟩;dsimp +instances only[go_sem];rw[h];exact aa.some rfl
   ·rw [d, ml]
    exact aa.some rfl
  ·rw [bz, dF] at b
   rw[show bf s.size 40=false by rw[nv,ne_eq,cu]; omega,ml];exact aa.some rfl
 ·have a:s.size=0:=by
   cases k:s.size with
   |zero=>rfl
   |succ n=>rw[k]at a; cases a
  rw[a];exact aa.some rfl
def Ji(s:BY)(h:s.size<=900000):ql [.s s]=some [.t (pd s)]:=by
 refine aa.toEq ?_;unfold ql pd;dsimp +instances only[go_sem];refine aa.cE (Ao _ 1 40) ?_;dsimp +instances only[go_sem];have d:=gx s;have e:ca ((s.size:Nat):Int) 1 40=(bf 1 s.size&&bf s.size 40):=by
  unfold ca;rw[fP];simp only[aE,bz,dT,cu];omega
 rw[e];refine aa.test (fun a=>?_) fun a=>?_
 ·rw [a, fB]
  simp only[aE,cu]at a;have k:(s.extract 0 1).data.toList=[s.data.toList.getD 0 0]:=by
   rw[pF];cases q:s.data.toList with
   | nil =>
    rw[q]at d;have d:s.size=0:=d;omega
   |cons b r=>simp
  refine aa.p ?_;refine aa.cE (Ep (s.extract 0 1) qw gV ahn (by rw[sH]; omega)) ?_;dsimp +instances only[go_sem];rw[k,List.all_cons,List.all_nil,Bool.and_true];refine aa.test (fun g=>?_) fun g=>?_
  ·rw [g, fB]
   refine aa.cE (Ep s qx uo ahp h) ?_;exact aa.some rfl
  ·rw [g, ml]
   exact aa.some rfl
 ·rw [a, ml]
  exact aa.some rfl
def RS(s:BY)(a:s.size<=900000):wG [.s s]=some [.t (uq s)]:=by
 refine aa.toEq ?_;unfold wG uq;dsimp +instances only[go_sem];rw[Et];refine aa.test (fun h=>aa.some (by rw[h]; rfl)) fun h=>?_;rw[h,iz];refine aa.cE (RR s a) ?_;exact aa.some rfl
def mV(n:Int):Prop := -1000000000000000<=n/\n<=1000000000000000
def mW(s:BY):Prop:=b_ s=true/\s.size<=900000
def eL(r:LG):Prop:=∃(t m:Int) (b c:BY) (s h:Int) (x y:BY),r=[.i t,.i m,.s b,.s c,.i s,.i h,.s x,.s y]/\mV t/\mV m/\mW b/\mW c/\mW x/\mW y
def eL.eta{r:LG}(h:eL r):bF [.I,.I,.str,.str,.I,.I,.str,.str] r=r:=by
 obtain⟨t,m,b,c,s,h,x,y,rfl,_⟩:=h;rfl
def Jj{r s:LG}(k:eL r)(q:eL s):nZ [.l [r],.l [s]]=some [.i (dq r s)]:=by
 obtain⟨t,m,b,c,_,_,_,_,rfl,A,hm,_⟩:=k;obtain⟨t',m',a,d,_,_,_,_,rfl,w,y,_⟩:=q;unfold mV at *;refine aa.toEq ?_;unfold nZ dq wU;dsimp +instances only[go_sem];simp only[Ec];by_cases v:t=t'
 ·subst v
  have z:lp t t=0:=by simp[lp]
  simp only[z];(repeat first|refine aa.p ?_|refine aa.n ?_);by_cases g:iL c d=0
  ·simp only [g]
   (repeat first|refine aa.p ?_|refine aa.n ?_);by_cases h:iL b a=0
   ·simp only [h]
    (repeat first|refine aa.p ?_|refine aa.n ?_);refine aa.cE (sign_eq m m') ?_;dsimp +instances only[go_sem];exact aa.some (by simp)
   ·refine aa.pos (by simpa using h) (aa.call (aa.eq (rfl : lj [.s b, .s a] = some [.i (iL b a)])) ?_)
    rintro _ rfl;dsimp +instances only[go_sem];exact aa.some (by simp[h])
  ·refine aa.pos (by simpa using g) (aa.call (aa.eq (rfl : lj [.s c, .s d] = some [.i (iL c d)])) ?_)
   rintro _ rfl;dsimp +instances only[go_sem];exact aa.some (by simp[g])
 ·(repeat first|refine aa.p ?_|refine aa.n ?_)
  refine aa.cE (sign_eq t t') ?_;dsimp +instances only[go_sem];have z:lp t t'≠0:=by
   unfold lp;split
   ·omega
   ·split<;>omega
  exact aa.some (by simp[z])
def Jk{r s:LG}(g:eL r)(h:eL s):qm [.l [r],.l [s]]=some [.i (dq r s)]:=by
 obtain⟨t,m,b,c,_,_,_,_,rfl,v,hm,_⟩:=g;obtain⟨t',m',a,d,_,_,_,_,rfl,k,q,_⟩:=h;refine aa.toEq ?_;unfold qm;dsimp +instances only[go_sem];refine aa.cE (Ed t t') ?_;refine aa.cE (rfl:lj [.s c,.s d]=some [.i (iL c d)]) ?_;refine aa.cE (rfl:lj [.s b,.s a]=some [.i (iL b a)]) ?_;refine aa.cE (Ed m m') ?_;dsimp +instances only[go_sem];refine aa.cE (or_eq _ _ _ _) ?_;exact aa.some rfl
def ob(r:LG):Int :=
 bif !ca (gi r 0).iV 0 345686399999 then 1 else bif !ca (gi r 1).iV 1 3 then 4 else bif !pd (gi r 2).sV then 5 else bif !kH (gi r 3).sV then 3 else
 bif !ca (gi r 4).iV 0 99999 then 1 else bif !ca (gi r 5).iV 0 99999 then 1 else bif !uq (gi r 6).sV then 5 else bif !uq (gi r 7).sV then 5 else 0
def ahs{r:LG}(d:eL r):wH [.l [r]]=some [.i (ob r)]:=by
 obtain⟨t,m,b,c,s,h,x,y,rfl,_,_,g,a,k,q⟩:=d;unfold wH DF DG ob;dsimp +instances only[go_sem];have v:=RR b g.2;have w:=RS x k.2;have z:=RS y q.2;have A:=As c a.1 a.2;rw[kG t,kG m];rw[v,A,kG s,kG h,w,z];generalize ca t 0 345686399999=B;generalize ca m 1 3=F;generalize pd b=I;generalize kH c=J;generalize ca s 0 99999=M;generalize ca h 0 99999=N;generalize uq x=O;generalize uq y=U;cases B<;>cases F<;>cases I<;>cases J<;>cases M<;>cases N<;>cases O<;>cases U<;>rfl
def aht{r:LG}(q:eL r):wO [.l [r]]=some [.i (ob r)]:=by
 obtain⟨t,m,b,c,s,h,x,y,rfl,_,_,v,a,w,A⟩:=q;unfold wO Dl ob uq;dsimp +instances only[go_sem];have B:=Ji b v.2;have F:=Ji x w.2;have I:=Ji y A.2;have J:=Av c a.1 a.2;have d:=Et x;have g:=Et y;generalize (⟨#[]⟩:BY)=z at d g|-;simp only[Ao,NY rfl,B,J,F,I];dsimp +instances only[go_sem];rw[d,g];generalize ca t 0 345686399999=M;generalize ca m 1 3=N;generalize pd b=O;generalize kH c=U;generalize ca s 0 99999=V;generalize ca h 0 99999=W;generalize pd x=X;generalize pd y=Y;generalize aH x.size 0=b9;generalize aH y.size 0=k;cases M<;>cases N<;>cases O<;>cases U<;>cases V<;>cases W<;>cases X<;>cases Y<;>cases b9<;>cases k<;>rfl
def lr:Option LG->LL->Int
 |_,[]=>0
 |none,x::q=>if ob x≠0 then ob x else lr (some x) q
 |some y,x::q=>if ob x≠0 then ob x else if 0<=dq y x then 7 else lr (some x) q
def sk(l:LL):Int:=if 2000<l.length then 2 else lr none l
section
variable {C D:LG->Option LG} (hC:∀ r,eL r->C [.l [r]]=some [.i (ob r)]) (hD:∀ r s,eL r->eL s->D [.l [r],.l [s]]=some [.i (dq r s)])
include hC hD
theorem RU:∀(q p:LL),(∀ z∈p++q,eL z)->p.length+q.length<100000 ->
  bl (lZ [.I,.I,.str,.str,.I,.I,.str,.str] C D) [.l (p++q),.l (p++q),.i ((p.length+q.length:Nat):Int),.i (p.length:Int)] (q.length+1) fun c g=>(c=0/\g=[.i (lr p.getLast? q)])\/c=1/\lr p.getLast? q=0
 | [],p,k,A=>by
  refine bl.stop (x:=1) (d':=[]) (aa.toEq ?_) (.inr ⟨rfl,by unfold lr; rfl⟩);unfold lZ;dsimp +instances only[go_sem];(repeat first|refine aa.p ?_|refine aa.n ?_);exact aa.some rfl
 | x::q,p,k,A=>by
  simp only[bW]at A;have a:eL x:=k x (by simp);have t:(p++x::q).getD (p.length:Int).toNat []=x:=lg _ _ _ _ _ (by simp);have h:(p++x::q).length=p.length+q.length+1:=by simp; omega
  by_cases b:ob x=0
  ·have w := RU q (p ++ [x]) (by simpa using k) (by simp; omega)
   rw[aks]at w;rcases xp p with rfl|⟨d,y,rfl⟩
   ·have e : lr ([] : LL).getLast? (x :: q) = lr (some x) q := by simp [lr, b]
    rw[e];refine bl.next (aa.toEq ?_) w
    unfold lZ;dsimp +instances only[go_sem];simp only[t,h,bW,a.eta];(repeat first|refine aa.p ?_|refine aa.n ?_);refine aa.cE (hC x a) ?_;dsimp +instances only[go_sem];simp only[b];(repeat first|refine aa.p ?_|refine aa.n ?_);refine aa.some ?_;simp;omega
   ·rw [xq] at *
    have v:eL y:=k y (by simp);have B:((d++[y])++x::q).getD (((d++[y]).length:Int)-1).toNat []=y:=by
     have e:(d++[y])++x::q=d++y::x::q:=by simp
     rw[e]; exact lg _ _ _ _ _ (by simp)
    have M:(d++[y]).length=d.length+1:=by simp
    have J:(d++[y]).getLast? = some y:=by simp
    rw[J];by_cases F:0<=dq y x
    ·refine bl.stop (x := 0) (d' := [.i 7]) (aa.toEq ?_) (.inl ⟨rfl, by simp [lr, b, F]⟩)
     unfold lZ;dsimp +instances only[go_sem];simp only[t,B,h,bW,a.eta,v.eta];(repeat first|refine aa.p ?_|refine aa.n ?_);refine aa.cE (hC x a) ?_;dsimp +instances only[go_sem];simp only[b];(repeat first|refine aa.p ?_|refine aa.n ?_);refine aa.cE (hD y x v a) ?_;dsimp +instances only[go_sem];(repeat first|refine aa.p ?_|refine aa.n ?_);exact aa.some rfl
    ·have e : lr (some y) (x :: q) = lr (some x) q := by simp [lr, b, F]
     rw[e];refine bl.next (aa.toEq ?_) w
     unfold lZ;dsimp +instances only[go_sem];simp only[t,B,h,bW,a.eta,v.eta];(repeat first|refine aa.p ?_|refine aa.n ?_);refine aa.cE (hC x a) ?_;dsimp +instances only[go_sem];simp only[b];(repeat first|refine aa.p ?_|refine aa.n ?_);refine aa.cE (hD y x v a) ?_;dsimp +instances only[go_sem];(repeat first|refine aa.p ?_|refine aa.n ?_);refine aa.some ?_;simp;omega
  ·refine bl.stop (x := 0) (d' := [.i (ob x)]) (aa.toEq ?_) (.inl ⟨rfl, by cases N : p.getLast? <;> simp [lr, b]⟩)
   unfold lZ;dsimp +instances only[go_sem];simp only[t,h,bW,a.eta];(repeat first|refine aa.p ?_|refine aa.n ?_);refine aa.cE (hC x a) ?_;dsimp +instances only[go_sem];refine aa.pos (by simpa using b) (aa.some rfl)
theorem RV(l:LL)(b:∀ z∈l,eL z)(d:l.length<100000):Ee [.I,.I,.str,.str,.I,.I,.str,.str] C D [.l l]=some [.i (sk l)]:=by
 refine aa.toEq ?_;unfold Ee sk;dsimp +instances only[go_sem];by_cases h:2000<l.length
 ·(repeat first|refine aa.p ?_|refine aa.n ?_)
  exact aa.some (by simp[h])
 ·(repeat first|refine aa.p ?_|refine aa.n ?_)
  have a:=RU hC hD l [] (by simpa using b) (by simpa using d);have k:((0:Nat):Int)=0:=rfl;simp only[nm,kf,eo,k]at a;refine aa.loop (a.to (by omega)) (by(first|rfl|assumption|(simp only[aF,sl]<;>omega))) ?_;rintro c g (⟨rfl,rfl⟩|⟨rfl,q⟩)
  ·(dsimp +instances only [go_sem])
   (repeat first|refine aa.p ?_|refine aa.n ?_);refine aa.some ?_;rw[iN h];rfl
  ·(repeat first|refine aa.p ?_|refine aa.n ?_)
   refine aa.some ?_;rw[iN h];exact congrArg (fun z=>[G.i z]) q.symm
end
def ahu(l:LL)(a:∀ z∈l,eL z)(b:l.length<100000):wJ [.l l]=some [.i (sk l)] :=
 RV (fun _ h=>ahs h) (fun _ _ h h'=>Jk h h') l a b
def ahv(l:LL)(a:∀ z∈l,eL z)(b:l.length<100000):wP [.l l]=some [.i (sk l)] :=
 RV (fun _ h=>aht h) (fun _ _ h h'=>Jj h h') l a b
def gp(W:List (List UInt8))(i:Nat)(hi:i<W.length):gi ((df W).getD i []) 0=.s (aq (W.getD i [])):=by
 rw[Er W i hi,eh,cn hi];rfl
def Eu{c:UInt8}{l p:List UInt8}(a:p∈bB c l):p.length<=l.length:=by
 have b:=wo c l;rw[<-b];clear b;generalize bB c l=W at a
 induction W with
 |nil=>cases a
 | cons x d g =>
  cases d with
  | nil =>
   rw[kN,gH.1 a];exact aY _
  | cons y h =>
   rw[jK,dG,dG];rcases cf.1 a with rfl|a
   ·omega
   ·have := g a
    omega
def ahw{W:List (List UInt8)}{i:Nat}{b:UInt8}(h:b∈W.getD i []):∃ y∈W,b∈y:=by
 rw[eh]at h;cases a:W[i]? with
 |none=>rw[a]at h; cases h
 | some y =>
  rw[a]at h;exact⟨y,eC a,h⟩
def Ev{W:List (List UInt8)}{i n:Nat}(h:∀ y∈W,y.length<=n):(W.getD i []).length<=n:=by
 rw[eh];cases a:W[i]? with
 |none=>exact fO _
 |some y=>exact h y (eC a)
def ahx{w:List UInt8}:mV ((ja 15 w).getD 0):=by
 rw[Jg];unfold mV;split
 ·rename_i h
  have a:=Ik 15 _ h.2.2.1 h.2.1;show -1000000000000000<=(bif gE w then -(aT (eT w):Int) else (aT (eT w):Int))/\(bif gE w then -(aT (eT w):Int) else (aT (eT w):Int))<=1000000000000000
  cases gE w with
  | true =>
   show -1000000000000000 <= -(aT (eT w):Int) /\ -(aT (eT w):Int)<=1000000000000000
   omega
  | false =>
   show -1000000000000000<=(aT (eT w):Int)/\(aT (eT w):Int)<=1000000000000000
   omega
 ·show -1000000000000000 <= (0 : Int) /\ (0 : Int) <= 1000000000000000
  omega
def jv(W:List (List UInt8))(y:List UInt8):Int:=if y∈W then ((W.idxOf y:Nat):Int) else -1
def ahy(W:List (List UInt8))(y:List UInt8)(a:W.length<=100):mV (jv W y)/\jv W y<W.length:=by
 unfold jv mV;split
 ·rename_i h
  have:=List.idxOf_lt_length_iff.2 h;omega
 ·omega
def indexAny(W:List (List UInt8))(y:List UInt8)(z:W.length<=900001):ue [.l (df W),.s (aq y)]=some [.i (jv W y)]:=by
 refine aa.toEq ?_;unfold ue;dsimp +instances only[go_sem];rw[lq];refine aa.loop (P:=fun c g=>(c=1/\jv W y = -1/\g=[])\/(c=0/\g=[.i (jv W y)])) ?_ rfl ?_
 ·refine ((oO (σ:=Unit) (fun _ i=>[.l (df W),.s (aq y),.i ((W.length:Nat):Int),.i (i:Int)]) W.length (fun _=>(1,[])) (fun _ i=>y∉W.take i)
   (fun c g=>c=0/\g=[.i (jv W y)]) ?_ ?_ W.length () 0 (by omega) (by simp)).to (by omega)).mono ?_
  ·rintro _ i a hi
   have k:W.take (i+1)=W.take i++[W[i]]:=by rw[A8,cn hi]; rfl
   have hm:W[i]∈W:=sE hi;have q:=Er W i hi;have d:W[i]=y->jv W y=(i:Int):=fun e=>by
    unfold jv;rw[iP (e▸hm)];congr 1;have t:W=W.take i++W.drop i:=(List.take_append_drop i W).symm;rw[t,List.idxOf_append,iN a,J8 hi,e,List.idxOf_cons_self,iy];omega
   generalize W[i]=w at k hm q d;unfold wL;dsimp +instances only[go_sem];rw[lq];refine aa.p (aa.p ?_);simp only[eH,q];dsimp +instances only[go_sem];rw[se,se];refine aa.test (fun b=>?_) fun b=>?_
   ·have b : y = w := by simpa using b
    exact aa.some (.inr ⟨0,_,rfl,rfl,by rw[d b.symm]⟩)
   ·have b : y ≠ w := by simpa using b
    refine aa.p (aa.some (.inl ⟨(),rfl,?_⟩));rw[k];intro v;rcases cN.1 v with h|h
    ·exact a h
    ·exact b (gH.1 h)
  ·rintro _ a
   unfold wL;dsimp +instances only[go_sem];exact aa.n (aa.some rfl)
  ·rintro c g (⟨_, a, rfl, rfl⟩ | h)
   ·rw [mn] at a
    refine .inl ⟨rfl,?_,rfl⟩;unfold jv;rw[iN a]
   ·exact .inr h
 ·rintro c g (⟨rfl, a, rfl⟩ | ⟨rfl, rfl⟩)
  ·rw [a]
   exact aa.neg rfl (aa.some rfl)
  ·exact aa.pos rfl (aa.some rfl)
def l8(l:List UInt8):List UInt8:=if l=[45] then [] else l
def RW(l:List UInt8):zS [.s (aq l)]=some [.s (aq (l8 l))]:=by
 refine aa.toEq ?_;unfold zS l8;dsimp +instances only[go_sem];rw[se,eE];refine aa.test (fun h=>?_) fun h=>?_
 ·rw [iP (by simpa using h)]
  exact aa.some rfl
 ·rw [iN (by simpa using h)]
  exact aa.some rfl
def RX(l:List UInt8):zZ [.s (aq l)]=some [.s (aq (l8 l))]:=by
 refine aa.toEq ?_;unfold zZ l8;dsimp +instances only[go_sem];rw[se,eE];refine aa.test (fun h=>?_) fun h=>?_
 ·rw [iP (by simpa using h)]
  exact aa.some rfl
 ·rw [iN (by simpa using h)]
  exact aa.some rfl
end
end Go.Proofs.jL

namespace Go.Proofs.jL
open Go Go.AL Go.Proofs
noncomputable section
def RY(L:List (List UInt8))(z:List UInt8):(oa L z).length=bif z.isEmpty then L.length else L.length+1:=by
 unfold oa;cases z.isEmpty<;>simp
end
end Go.Proofs.jL
