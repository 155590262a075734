/-
 What is proved: what the stream gives on data. No condition.
-/
import Derived.Test.YtomcmchdbdnclaaGreatDoorML5
import Derived.Test.YtomcmchdbdnclaaGreatDoorME
set_option linter.all false
open Bool renaming and_true->gD,and_eq_true->ax,true_and->jm,eq_iff_iff->lJ
open Function renaming comp->Ak
open Go.ByteArray renaming toList_eq->tq
open Go.Lib renaming compareBytes->i_
open Int renaming toNat_natCast->aK,tmod->Aq,tdiv->Ef,tmod_lt_of_pos->al2,tmod_eq_emod_of_nonneg->al3,mul_nonneg->al4,le_refl->wP,le_trans->Lo,eq_ofNat_of_zero_le->Ei
open List renaming length_cons->bG,append_nil->cB,append_assoc->fq,length_map->bN,mem_map->cH,getElem?_map->bB,getElem_of_mem->pj,getElem?_eq_getElem->bx,getElem?_eq_none->nh,getElem?_set_self->bf,getElem?_set->dv,all_eq_true->da,getD_eq_getElem?_getD->bP,mem_cons->bC,map_cons->bX,cons_append->kY,ext_getElem?->iK,length_set->ib,length_append->en,mem_append->cw,nil_append->iY,replicate->bQ,length_range->mr,mem_flatten->D7,mem_cons_self->bZ,mem_cons_of_mem->cq,length_replicate->tc,map_append->eO,nodup_cons->nq,mem_singleton->iZ,range->dB,mem_append_left->my,any_eq_true->lI,mem_range->fu,length_nil->k6,map_nil->k8,not_mem_nil->nr,getElem?_range->om,getElem_mem->th,mem_append_right->oq,filter_cons->tm,range_succ->wN,pairwise_map->wO,pairwise_iff_getElem->Ll,pairwise_cons->ot,any_cons->As,eq_replicate_iff->Lp,getElem?_replicate->WM,sum_cons->WN,foldl_append->al7,filter_nil->WQ,nodup_append->Eh,Nodup->Lr
open List.Pairwise renaming take->amz
open Nat renaming le_refl->aB,le_trans->lD,zero_le->dX,lt_or_ge->kU,zero_add->cn,beq->ai,ble->dD,ble_eq->q9,beq_refl->fe,exists_eq_add_of_le->al6,lt_trichotomy->Eg,le_succ_of_le->Au,le_of_not_lt->al8
open Option renaming map_some->dS
open UInt8 renaming le_antisymm->WK,not_lt->Ar,lt_irrefl->WL,lt_trans->al5
namespace Go.Proofs.iy
open Go Go.AL Go.Proofs
noncomputable section
theorem J4(x n:Int)(h0:1<=n)(h1:n<=1099511627776):aa (u6 [.i x,.i n]) fun g=>∃ v,g=[.i v]/\0<=v/\v<n:=by
 unfold u6;dsimp +instances only[Aa,Ab,Ac,Ad,Ae,Af,Ag];have ha:=al2 x (by omega:0<n);have hb:=Int.lt_tmod_of_pos x (by omega:0<n);(repeat first|refine aa.p ?_|refine aa.n ?_);refine aa.test (fun h=>?_) fun h=>?_
 ·simp only [cd, decide_eq_true_eq] at h
  (repeat first|refine aa.p ?_|refine aa.n ?_);exact aa.some ⟨_,rfl,by omega,by omega⟩
 ·simp only [cd, decide_eq_false_iff_not] at h
  exact aa.some ⟨_,rfl,by omega,by omega⟩
theorem o_(l:List (List G))(a n:Int)(ha:0<=a)(O:a<=1000000)(h0:1<=n)(h1:n<=1099511627776) :
  aa (l_ [.l l,.i a,.i n]) fun g=>∃ v,g=[.l l,.i (a+1),.i v]/\0<=v/\v<n:=by
 unfold l_;dsimp +instances only[Aa,Ab,Ac,Ad,Ae,Af,Ag];have I:a+1-1=a:=by omega
 simp only[I];by_cases U:l.length=0
 ·(repeat first|refine aa.p ?_|refine aa.n ?_)
  refine aa.call (J4 _ n h0 h1) ?_;rintro _ ⟨v,rfl,d,k⟩;dsimp +instances only[Aa,Ab,Ac,Ad,Ae,Af,Ag];exact aa.some ⟨v,rfl,d,k⟩
 ·have M : (0 : Int) < (l.length : Int) := by omega
  have d0:0<=Ef a l.length:=Int.tdiv_nonneg ha (by omega);have d1:Ef a l.length<=a:=by
   rw[Int.tdiv_eq_ediv_of_nonneg ha];exact Int.ediv_le_self _ ha
  have m0:0<=Aq a l.length:=by
   rw[al3 ha];exact Int.emod_nonneg _ (by omega)
  have m1:Aq a l.length<l.length:=al2 a M;have m2:Aq a l.length<=a:=by
   rw[al3 ha];have:=Int.mul_ediv_add_emod a l.length;have y:0<=(l.length:Int)*(a / l.length):=al4 (by omega) (Int.ediv_nonneg ha (by omega));omega
  generalize V:Ef a l.length=q at *;generalize hr:Aq a l.length=r at *;have p0:0<=q*(7919+r):=al4 d0 (by omega);have p1:q*(7919+r)<=1000000*2000000:=Int.mul_le_mul (by omega) (by omega) (by omega) (by omega);generalize W:q*(7919+r)=z at *;(repeat first|refine aa.p ?_|refine aa.n ?_);refine aa.call (J4 _ 1073741824 (by omega) (by omega)) ?_;rintro _ ⟨u,rfl,d,k⟩;dsimp +instances only[Aa,Ab,Ac,Ad,Ae,Af,Ag];(repeat first|refine aa.p ?_|refine aa.n ?_);refine aa.call (J4 _ n h0 h1) ?_;rintro _ ⟨v,rfl,y,N⟩;dsimp +instances only[Aa,Ab,Ac,Ad,Ae,Af,Ag];exact aa.some ⟨v,rfl,y,N⟩
theorem Dn(l:List (List G))(a lo hi:Int)(ha:0<=a)(d:a<=1000000)(h0:lo<=hi)(h1 : -1000000000<=lo)(k:hi<=1000000000) :
  aa (qt [.l l,.i a,.i lo,.i hi]) fun g=>∃ v,g=[.l l,.i (a+1),.i v]/\lo<=v/\v<=hi:=by
 unfold qt;dsimp +instances only[Aa,Ab,Ac,Ad,Ae,Af,Ag];(repeat first|refine aa.p ?_|refine aa.n ?_);refine aa.call (o_ l a _ ha d (by omega) (by omega)) ?_;rintro _ ⟨v,rfl,q,u⟩;dsimp +instances only[Aa,Ab,Ac,Ad,Ae,Af,Ag];(repeat first|refine aa.p ?_|refine aa.n ?_);exact aa.some ⟨_,rfl,by omega,by omega⟩
theorem TW{l:List (List G)}{v:Int}(h0:0<=v)(h1:v<l.length):l.getD v.toNat []∈l:=by
 have:v.toNat<l.length:=by omega
 rw[bP,bx this];exact th this
theorem TX(P:Int->Prop)(l:List (List G))(a:Int)(xs:List (List G))(ha:0<=a)(d:a<=1000000)(h0:1<=xs.length)(h1:xs.length<=1000000)(k:∀ x∈xs,P (gi x 0).int) :
  aa (kL [.l l,.i a,.l xs]) fun g=>∃ v,g=[.l l,.i (a+1),.i v]/\P v:=by
 unfold kL;dsimp +instances only[Aa,Ab,Ac,Ad,Ae,Af,Ag];refine aa.call (o_ l a _ ha d (by omega) (by omega)) ?_;rintro _ ⟨v,rfl,q,u⟩;dsimp +instances only[Aa,Ab,Ac,Ad,Ae,Af,Ag];(repeat first|refine aa.p ?_|refine aa.n ?_);exact aa.some ⟨_,rfl,k _ (TW q u)⟩
theorem TY(P:ByteArray->Prop)(l:List (List G))(a:Int)(xs:List (List G))(ha:0<=a)(d:a<=1000000)(h0:1<=xs.length)(h1:xs.length<=1000000)(k:∀ x∈xs,P (gi x 0).str) :
  aa (gW [.l l,.i a,.l xs]) fun g=>∃ v,g=[.l l,.i (a+1),.s v]/\P v:=by
 unfold gW;dsimp +instances only[Aa,Ab,Ac,Ad,Ae,Af,Ag];refine aa.call (o_ l a _ ha d (by omega) (by omega)) ?_;rintro _ ⟨v,rfl,q,u⟩;dsimp +instances only[Aa,Ab,Ac,Ad,Ae,Af,Ag];(repeat first|refine aa.p ?_|refine aa.n ?_);exact aa.some ⟨_,rfl,k _ (TW q u)⟩
theorem sO(l:List (List G))(a n:Int)(ha:0<=a)(d:a<=1000000)(h0:1<=n)(h1:n<=1000000) :
  aa (mY [.l l,.i a,.i n]) fun g=>∃ b,g=[.l l,.i (a+1),.t b]:=by
 unfold mY;dsimp +instances only[Aa,Ab,Ac,Ad,Ae,Af,Ag];refine aa.call (o_ l a _ ha d (by omega) (by omega)) ?_;rintro _ ⟨v,rfl,k,q⟩;exact aa.some ⟨_,rfl⟩
theorem Dp(l:List (List G))(a lo hi:Int)(ha:0<=a)(I:a<=900000)(h0:lo<=hi)(h1 : -1000000000<=lo)(y:hi<=1000000000) :
  aa (sF [.l l,.i a,.i lo,.i hi]) fun g=>∃ v,g=[.l l,.i (a+2),.i v] /\ -1099511627776<=v/\(v<=1000000001\/v=1099511627776):=by
 unfold sF;dsimp +instances only[Aa,Ab,Ac,Ad,Ae,Af,Ag];have d:a+1+1=a+2:=by omega
 refine aa.call (sO l a 12 ha (by omega) (by omega) (by omega)) ?_;rintro _ ⟨b,rfl⟩;dsimp +instances only[Aa,Ab,Ac,Ad,Ae,Af,Ag];cases b with
 | true =>
  (repeat first|refine aa.p ?_|refine aa.n ?_);refine aa.call (TX (fun v => -1099511627776<=v/\(v<=1000000001\/v=1099511627776)) l (a+1) _ (by omega) (by omega) (by simp) (by simp) ?_) ?_
  ·intro x k
   simp only[bC,nr,or_false]at k;rcases k with rfl|rfl|rfl|rfl|rfl|rfl<;>(dsimp +instances only[Aa,Ab,Ac,Ad,Ae,Af,Ag])<;>omega
  ·rintro _ ⟨v, rfl, q, u⟩
   dsimp +instances only[Aa,Ab,Ac,Ad,Ae,Af,Ag];exact aa.some ⟨v,by rw[d],q,u⟩
 | false =>
  (repeat first|refine aa.p ?_|refine aa.n ?_);refine aa.call (Dn l (a+1) lo hi (by omega) (by omega) h0 h1 y) ?_;rintro _ ⟨v,rfl,q,u⟩;dsimp +instances only[Aa,Ab,Ac,Ad,Ae,Af,Ag];exact aa.some ⟨v,by rw[d],by omega,by omega⟩
def ma(L:List ByteArray)(s:ByteArray):Bool:=L.any fun x=>u4 x s
theorem ji{L:List ByteArray}{s:ByteArray}(h:ma L s=true):s∈L:=by
 obtain⟨x,d,he⟩:=lI.1 h;exact PO he▸d
theorem pb(lo hi:Int)(l:List (List G))(a:Int)(xs:List (List G))(ha:0<=a)(d:a<=1000000)(h0:(dD 1 xs.length&&dD xs.length 1000000)=true) (k:(xs.all fun x=>aZ lo (gi x 0).int&&aZ (gi x 0).int hi)=true) :
  aa (kL [.l l,.i a,.l xs]) fun g=>∃ v,g=[.l l,.i (a+1),.i v]/\lo<=v/\v<=hi:=by
 simp only[ax,q9]at h0;refine TX (fun v=>lo<=v/\v<=hi) l a xs ha d h0.1 h0.2 fun x q=>?_;have:=da.1 k x q;simpa only[eT,ax,decide_eq_true_eq]using this
theorem j6(L:List ByteArray)(l:List (List G))(a:Int)(xs:List (List G))(ha:0<=a)(d:a<=1000000)(h0:(dD 1 xs.length&&dD xs.length 1000000)=true) (k:(xs.all fun x=>ma L (gi x 0).str)=true) :
  aa (gW [.l l,.i a,.l xs]) fun g=>∃ v,g=[.l l,.i (a+1),.s v]/\v∈L:=by
 simp only[ax,q9]at h0;exact TY (fun v=>v∈L) l a xs ha d h0.1 h0.2 fun x q=>ji (da.1 k x q)
def calls:List ByteArray:=[⟨#[]⟩,⟨#[107,49]⟩,⟨#[75,49,65,66]⟩,⟨#[107,49,97,98,47]⟩,⟨#[49,97]⟩,⟨#[107,49,97,98,47,109,109,47,112]⟩,⟨#[107,49,97,98]⟩,⟨#[107,49,97,97]⟩,⟨#[107,49,97,98,47,52]⟩,
 ⟨#[111,104,50,97,98,99]⟩,⟨#[111,104,50,97,98,100]⟩,⟨#[119,49,97,119]⟩,⟨#[110,49,109,109]⟩,⟨#[103,51,120,121,122,47,112]⟩,⟨#[119,49,97,120]⟩]
def iV:List ByteArray:=[⟨#[]⟩,⟨#[66]⟩,⟨#[98,50,48]⟩,⟨#[98,52,48]⟩,⟨#[98]⟩,⟨#[99]⟩]
def names:List ByteArray:=[⟨#[]⟩,⟨#[65]⟩,⟨#[49]⟩,⟨#[102,105,110]⟩,⟨#[117,115,97]⟩,⟨#[120]⟩]
def small(n:Int):Prop := -2000000000000<=n/\n<=2000000000000
def cU(r:List G):Prop:=∃(t m:Int) (b c:ByteArray) (s h:Int) (x y:ByteArray),r=[.i t,.i m,.s b,.s c,.i s,.i h,.s x,.s y]/\small t/\small m/\small s/\small h/\b∈iV/\c∈calls/\x∈names/\y∈names
def tight(n:Int):Prop := -1900000000000<=n/\n<=1900000000000
def sP(n:Int):Prop := -1900000000000<=n/\(n<=345000000000\/(345686399999<n/\n<=1900000000000))
def J5(r:List G):Prop:=∃(t m:Int) (b c:ByteArray) (s h:Int) (x y:ByteArray),r=[.i t,.i m,.s b,.s c,.i s,.i h,.s x,.s y]/\sP t/\tight m/\tight s/\tight h/\b∈iV/\c∈calls/\x∈names/\y∈names
theorem tight.to{n:Int}(h:tight n):small n:=⟨by have:=h.1; omega,by have:=h.2; omega⟩
theorem sP.to{n:Int}(h:sP n):small n:=by
 unfold sP at h;exact⟨by omega,by omega⟩
theorem J5.to{r:List G}(h:J5 r):cU r:=by
 obtain⟨t,m,b,c,s,h,x,y,e,h1,d,g,k,q⟩:=h;exact⟨t,m,b,c,s,h,x,y,e,h1.to,d.to,g.to,k.to,q⟩
theorem cU.eta{r:List G}(h:cU r):aT [.int .i64,.int .i64,.str,.str,.int .i64,.int .i64,.str,.str] r=r:=by
 obtain⟨t,m,b,c,s,h,x,y,rfl,_⟩:=h;rfl
theorem TZ(l:List (List G))(a:Int)(ha:0<=a)(k:a<=900000):aa (yK [.l l,.i a]) fun g=>∃ v,g=[.l l,.i (a+2),.s v]/\v∈calls:=by
 unfold yK;dsimp +instances only[Aa,Ab,Ac,Ad,Ae,Af,Ag];have d:a+1+1=a+2:=by omega
 refine aa.call (sO l a 60 ha (by omega) (by omega) (by omega)) ?_;rintro _ ⟨b,rfl⟩;dsimp +instances only[Aa,Ab,Ac,Ad,Ae,Af,Ag];cases b with
 | true =>
  (repeat first|refine aa.p ?_|refine aa.n ?_);refine aa.call (j6 calls l (a+1) _ (by omega) (by omega) (by kernel_rfl) (by kernel_rfl)) ?_;rintro _ ⟨v,rfl,h⟩;exact aa.some ⟨v,by(dsimp +instances only[Aa,Ab,Ac,Ad,Ae,Af,Ag]); rw[d],h⟩
 | false =>
  (repeat first|refine aa.p ?_|refine aa.n ?_);refine aa.call (j6 calls l (a+1) _ (by omega) (by omega) (by kernel_rfl) (by kernel_rfl)) ?_;rintro _ ⟨v,rfl,h⟩;exact aa.some ⟨v,by(dsimp +instances only[Aa,Ab,Ac,Ad,Ae,Af,Ag]); rw[d],h⟩
theorem aiY(l:List (List G))(a t:Int)(ha:0<=a)(ha1:a<=800000)(d:sP t) :
  aa (CA [.l l,.i a,.i t]) fun g=>∃ b r,g=[.l l,.i b,.l [r]]/\a<=b/\b<=a+20/\J5 r:=by
 unfold sP at d;unfold CA;dsimp +instances only[Aa,Ab,Ac,Ad,Ae,Af,Ag];refine aa.call (pb 1 3 l a _ ha (by omega) (by kernel_rfl) (by kernel_rfl)) ?_;rintro _ ⟨m,rfl,hm⟩;dsimp +instances only[Aa,Ab,Ac,Ad,Ae,Af,Ag];refine aa.call (j6 iV l _ _ (by omega) (by omega) (by kernel_rfl) (by kernel_rfl)) ?_;rintro _ ⟨u,rfl,hb⟩;dsimp +instances only[Aa,Ab,Ac,Ad,Ae,Af,Ag];refine aa.call (TZ l _ (by omega) (by omega)) ?_;rintro _ ⟨c,rfl,q⟩;dsimp +instances only[Aa,Ab,Ac,Ad,Ae,Af,Ag];refine aa.call (pb 0 7 l _ _ (by omega) (by omega) (by kernel_rfl) (by kernel_rfl)) ?_;rintro _ ⟨s,rfl,hs⟩;dsimp +instances only[Aa,Ab,Ac,Ad,Ae,Af,Ag];refine aa.call (pb 0 9 l _ _ (by omega) (by omega) (by kernel_rfl) (by kernel_rfl)) ?_;rintro _ ⟨h,rfl,hh⟩;dsimp +instances only[Aa,Ab,Ac,Ad,Ae,Af,Ag];refine aa.call (j6 names l _ _ (by omega) (by omega) (by kernel_rfl) (by kernel_rfl)) ?_;rintro _ ⟨x,rfl,v⟩;dsimp +instances only[Aa,Ab,Ac,Ad,Ae,Af,Ag];refine aa.call (j6 names l _ _ (by omega) (by omega) (by kernel_rfl) (by kernel_rfl)) ?_;rintro _ ⟨y,rfl,I⟩;dsimp +instances only[Aa,Ab,Ac,Ad,Ae,Af,Ag];refine aa.call (sO l _ 100 (by omega) (by omega) (by omega) (by omega)) ?_;rintro _ ⟨f,rfl⟩;dsimp +instances only[Aa,Ab,Ac,Ad,Ae,Af,Ag];cases f with
 | false =>
  (repeat first|refine aa.p ?_|refine aa.n ?_);exact aa.some ⟨_,_,rfl,by omega,by omega,t,m,u,c,s,h,x,y,rfl,d,⟨by omega,by omega⟩,⟨by omega,by omega⟩,⟨by omega,by omega⟩,hb,q,v,I⟩
 | true =>
  (repeat first|refine aa.p ?_|refine aa.n ?_);refine aa.call (o_ l _ 4 (by omega) (by omega) (by omega) (by omega)) ?_;rintro _ ⟨k,rfl,hk⟩;dsimp +instances only[Aa,Ab,Ac,Ad,Ae,Af,Ag];by_cases M:k=0
  ·subst M
   (repeat first|refine aa.p ?_|refine aa.n ?_);refine aa.call (Dp l _ 0 500 (by omega) (by omega) (by omega) (by omega) (by omega)) ?_;rintro _ ⟨t',rfl,ht'⟩;dsimp +instances only[Aa,Ab,Ac,Ad,Ae,Af,Ag];refine aa.call (Dp l _ 1 3 (by omega) (by omega) (by omega) (by omega) (by omega)) ?_;rintro _ ⟨m',rfl,hm'⟩;dsimp +instances only[Aa,Ab,Ac,Ad,Ae,Af,Ag];exact aa.some ⟨_,_,rfl,by omega,by omega,t',m',u,c,s,h,x,y,rfl,⟨by omega,by omega⟩,⟨by omega,by omega⟩,⟨by omega,by omega⟩,⟨by omega,by omega⟩,hb,q,v,I⟩
  ·refine aa.neg (by simpa using M) ?_
   by_cases N:k=1
   ·subst N
    (repeat first|refine aa.p ?_|refine aa.n ?_);refine aa.call (j6 iV l _ _ (by omega) (by omega) (by kernel_rfl) (by kernel_rfl)) ?_;rintro _ ⟨b',rfl,U⟩;dsimp +instances only[Aa,Ab,Ac,Ad,Ae,Af,Ag];exact aa.some ⟨_,_,rfl,by omega,by omega,t,m,b',c,s,h,x,y,rfl,d,⟨by omega,by omega⟩,⟨by omega,by omega⟩,⟨by omega,by omega⟩,U,q,v,I⟩
   ·refine aa.neg (by simpa using N) ?_
    by_cases O:k=2
    ·subst O
     (repeat first|refine aa.p ?_|refine aa.n ?_);refine aa.call (Dp l _ 0 99999 (by omega) (by omega) (by omega) (by omega) (by omega)) ?_;rintro _ ⟨s',rfl,hs'⟩;dsimp +instances only[Aa,Ab,Ac,Ad,Ae,Af,Ag];refine aa.call (Dp l _ 0 99999 (by omega) (by omega) (by omega) (by omega) (by omega)) ?_;rintro _ ⟨h',rfl,hh'⟩;dsimp +instances only[Aa,Ab,Ac,Ad,Ae,Af,Ag];exact aa.some ⟨_,_,rfl,by omega,by omega,t,m,u,c,s',h',x,y,rfl,d,⟨by omega,by omega⟩,⟨by omega,by omega⟩,⟨by omega,by omega⟩,hb,q,v,I⟩
    ·refine aa.neg (by simpa using O) ?_
     refine aa.call (j6 names l _ _ (by omega) (by omega) (by kernel_rfl) (by kernel_rfl)) ?_;rintro _ ⟨x',rfl,V⟩;dsimp +instances only[Aa,Ab,Ac,Ad,Ae,Af,Ag];refine aa.call (j6 names l _ _ (by omega) (by omega) (by kernel_rfl) (by kernel_rfl)) ?_;rintro _ ⟨y',rfl,W⟩;dsimp +instances only[Aa,Ab,Ac,Ad,Ae,Af,Ag];exact aa.some ⟨_,_,rfl,by omega,by omega,t,m,u,c,s,h,x',y',rfl,d,⟨by omega,by omega⟩,⟨by omega,by omega⟩,⟨by omega,by omega⟩,hb,q,V,W⟩
def eY(a b:Int):Int:=if a<b then -1 else if b<a then 1 else 0
theorem T0:∀{a b:List UInt8},i_ a b=0->a=b
 | [],[],_=>rfl
 | [],_::_,h=>by simp[i_]at h
 |_::_,[],h=>by simp[i_]at h
 | x::a,y::b,h=>by
  unfold i_ at h;split at h
  ·cases h
  ·split at h
   ·cases h
   ·rename_i h1 d
    rw[T0 h,WK (Ar.1 d) (Ar.1 h1)]
theorem T3:∀ a:List UInt8,i_ a a=0
 | []=>rfl
 |x::a=>by simp[i_,T3 a]
theorem J6(a b:ByteArray):(a.toList==b.toList)=decide (eX a b=0):=by
 rw[tq,tq,lJ,decide_eq_true_eq,beq_iff_eq];constructor
 ·intro h
  unfold eX;rw[h];exact T3 _
 ·exact fun h=>T0 h
def zu(a b c d:Int):Int:=if a≠0 then a else if b≠0 then b else if c≠0 then c else d
def gX(r s:List G):Int:=zu (eY (gi r 0).int (gi s 0).int) (eX (gi r 3).str (gi s 3).str) (eX (gi r 2).str (gi s 2).str) (eY (gi r 1).int (gi s 1).int)
theorem sign_eq(a b:Int):qu [.i (a-b)]=some [.i (eY a b)]:=by
 refine aa.toEq ?_;unfold qu eY;dsimp +instances only[Aa,Ab,Ac,Ad,Ae,Af,Ag];by_cases h1:a<b
 ·(repeat first|refine aa.p ?_|refine aa.n ?_)
  exact aa.some (by simp[h1])
 ·by_cases d : b < a
  ·(repeat first|refine aa.p ?_|refine aa.n ?_)
   exact aa.some (by simp[h1,d])
  ·(repeat first|refine aa.p ?_|refine aa.n ?_)
   exact aa.some (by simp[h1,d])
theorem J7{r s:List G}(hr:cU r)(u:cU s):sD [.l [r],.l [s]]=some [.i (gX r s)]:=by
 obtain⟨t,m,b,c,_,_,_,_,rfl,M,hm,_⟩:=hr;obtain⟨t',m',d,g,_,_,_,_,rfl,y,I,_⟩:=u;unfold small at *;refine aa.toEq ?_;unfold sD gX zu;dsimp +instances only[Aa,Ab,Ac,Ad,Ae,Af,Ag];simp only[J6];by_cases v:t=t'
 ·subst v
  have z:eY t t=0:=by simp[eY]
  simp only[z];(repeat first|refine aa.p ?_|refine aa.n ?_);by_cases k:eX c g=0
  ·simp only [k]
   (repeat first|refine aa.p ?_|refine aa.n ?_);by_cases q:eX b d=0
   ·simp only [q]
    (repeat first|refine aa.p ?_|refine aa.n ?_);refine aa.cE (sign_eq m m') ?_;dsimp +instances only[Aa,Ab,Ac,Ad,Ae,Af,Ag];exact aa.some (by simp)
   ·refine aa.pos (by simpa using q) (aa.call (aa.eq (rfl : mX [.s b, .s d] = some [.i (eX b d)])) ?_)
    rintro _ rfl;dsimp +instances only[Aa,Ab,Ac,Ad,Ae,Af,Ag];exact aa.some (by simp[q])
  ·refine aa.pos (by simpa using k) (aa.call (aa.eq (rfl : mX [.s c, .s g] = some [.i (eX c g)])) ?_)
   rintro _ rfl;dsimp +instances only[Aa,Ab,Ac,Ad,Ae,Af,Ag];exact aa.some (by simp[k])
 ·(repeat first|refine aa.p ?_|refine aa.n ?_)
  refine aa.cE (sign_eq t t') ?_;dsimp +instances only[Aa,Ab,Ac,Ad,Ae,Af,Ag];have z:eY t t'≠0:=by
   unfold eY;split
   ·omega
   ·split<;>omega
  exact aa.some (by simp[z])
theorem Dq(a b:Int):vj [.i a,.i b]=some [.i (eY a b)]:=by
 refine aa.toEq ?_;unfold vj CH eY;dsimp +instances only[Aa,Ab,Ac,Ad,Ae,Af,Ag];simp only[bne_self_eq_false];refine aa.call ⟨_,rfl,rfl⟩ ?_;rintro _ rfl;refine aa.call ⟨_,rfl,rfl⟩ ?_;rintro _ rfl;dsimp +instances only[Aa,Ab,Ac,Ad,Ae,Af,Ag];(repeat first|refine aa.p ?_|refine aa.n ?_);by_cases h1:a<b
 ·(repeat first|refine aa.p ?_|refine aa.n ?_)
  exact aa.some (by simp[h1])
 ·by_cases d : b < a
  ·(repeat first|refine aa.p ?_|refine aa.n ?_)
   exact aa.some (by simp[h1,d])
  ·(repeat first|refine aa.p ?_|refine aa.n ?_)
   exact aa.some (by simp[h1,d])
def qz:List (List G)->Int
 | []=>0
 |x::q=>if (gi x 0).int≠0 then (gi x 0).int else qz q
theorem T4:∀(q p:List (List G)),p.length+q.length<100000 ->
  aL vk [.i 0,.l (p++q),.i ((p.length+q.length:Nat):Int),.i (p.length:Int)] (q.length+1) fun c g=>c<=1/\g=[.i (qz q)]
 | [],p,d=>by
  refine aL.stop (x:=1) (aa.toEq ?_) ⟨by omega,rfl⟩;unfold vk;dsimp +instances only[Aa,Ab,Ac,Ad,Ae,Af,Ag];(repeat first|refine aa.p ?_|refine aa.n ?_);exact aa.some rfl
 | y::q,p,d=>by
  simp only[bG]at d;have g1:(p++y::q).getD (p.length:Int).toNat []=y:=l9 _ _ _ _ _ (by simp);have hlen:(p++y::q).length=p.length+q.length+1:=by simp; omega
  by_cases he:(gi y 0).int=0
  ·have k := T4 q (p ++ [y]) (by simp; omega)
   have e:qz (y::q)=qz q:=by simp[qz,he]
   rw[e];refine aL.next (aa.toEq ?_) k
   unfold vk;dsimp +instances only[Aa,Ab,Ac,Ad,Ae,Af,Ag];simp only[g1,hlen,bG];(repeat first|refine aa.p ?_|refine aa.n ?_);refine aa.some ?_;simp;omega
  ·refine aL.stop (x := 0) (aa.toEq ?_) ⟨by omega, rfl⟩
   unfold vk;dsimp +instances only[Aa,Ab,Ac,Ad,Ae,Af,Ag];simp only[g1,hlen,bG];(repeat first|refine aa.p ?_|refine aa.n ?_);refine aa.some ?_;simp[qz,he]
theorem or_eq(a b c d:Int):CJ [.l [[.i a],[.i b],[.i c],[.i d]]]=some [.i (zu a b c d)]:=by
 refine aa.toEq ?_;unfold CJ;dsimp +instances only[Aa,Ab,Ac,Ad,Ae,Af,Ag];have h:=T4 [[.i a],[.i b],[.i c],[.i d]] [] (by simp);refine aa.loop (h.to (by simp)) (by(first|rfl|assumption|(simp only[ao,sl]<;>omega))) ?_;rintro x g ⟨v,rfl⟩;have e:qz [[.i a],[.i b],[.i c],[.i d]]=zu a b c d:=by
  simp only[qz,zu];dsimp +instances only[Aa,Ab,Ac,Ad,Ae,Af,Ag];by_cases h1:a=0<;>by_cases k:b=0<;>by_cases q:c=0<;>by_cases u:d=0<;>simp[h1,k,q,u]
 rw[e];dsimp +instances only[Aa,Ab,Ac,Ad,Ae,Af,Ag];exact aa.test (fun _=>aa.some rfl) fun _=>aa.some rfl
theorem aiZ{r s:List G}(hr:cU r)(k:cU s):CK [.l [r],.l [s]]=some [.i (gX r s)]:=by
 obtain⟨t,m,b,c,_,_,_,_,rfl,v,hm,_⟩:=hr;obtain⟨t',m',d,g,_,_,_,_,rfl,q,u,_⟩:=k;refine aa.toEq ?_;unfold CK;dsimp +instances only[Aa,Ab,Ac,Ad,Ae,Af,Ag];refine aa.cE (Dq t t') ?_;refine aa.cE (rfl:mX [.s c,.s g]=some [.i (eX c g)]) ?_;refine aa.cE (rfl:mX [.s b,.s d]=some [.i (eX b d)]) ?_;refine aa.cE (Dq m m') ?_;dsimp +instances only[Aa,Ab,Ac,Ad,Ae,Af,Ag];refine aa.cE (or_eq _ _ _ _) ?_;exact aa.some rfl
theorem ai0:uY [.int .i64,.int .i64,.str,.str,.int .i64,.int .i64,.str,.str] sD cU gX:=⟨fun _ _ hr d=>J7 hr d,fun _ h=>h.eta⟩
def dP(v lo hi:Int):Bool:=aZ lo v&&aZ v hi
theorem T5(v lo hi:Int):oZ [.i v,.i lo,.i hi]=some [.t (dP v lo hi)]:=by
 unfold oZ dP;dsimp +instances only[Aa,Ab,Ac,Ad,Ae,Af,Ag];cases aZ lo v<;>rfl
theorem zw(v lo hi:Int):m_ [.i v,.i lo,.i hi]=some [.t (!dP v lo hi)]:=by
 unfold m_ dP;dsimp +instances only[Aa,Ab,Ac,Ad,Ae,Af,Ag];have h1:aj v lo = !aZ lo v:=by rw[cd,eT,lJ]; simp
 have d:aj hi v = !aZ v hi:=by rw[cd,eT,lJ]; simp
 rw[h1,d];cases aZ lo v<;>cases aZ v hi<;>rfl
def nT(s:ByteArray):Bool:=ma [⟨#[98,50,48]⟩,⟨#[98,52,48]⟩,⟨#[102,105,110]⟩,⟨#[117,115,97]⟩,⟨#[120]⟩,⟨#[98]⟩,⟨#[99]⟩] s
def nU(s:ByteArray):Bool:=ma [⟨#[]⟩] s||nT s
def iz(s:ByteArray):Bool:=(gi ((vh [.s s]).getD []) 0).bool
theorem ai1{s:ByteArray}(h:s∈iV\/s∈names):CE [.s s]=some [.t (nT s)]:=by
 simp only[iV,names,bC,nr,or_false]at h;rcases h with(rfl|rfl|rfl|rfl|rfl|rfl)|(rfl|rfl|rfl|rfl|rfl|rfl)<;>kernel_rfl
theorem J8{s:ByteArray}(h:s∈iV\/s∈names):y_ [.s s]=some [.t (nT s)]:=by
 simp only[iV,names,bC,nr,or_false]at h;rcases h with(rfl|rfl|rfl|rfl|rfl|rfl)|(rfl|rfl|rfl|rfl|rfl|rfl)<;>kernel_rfl
theorem T6{s:ByteArray}(h:s∈names):CF [.s s]=some [.t (nU s)]:=by
 simp only[names,bC,nr,or_false]at h;rcases h with(rfl|rfl|rfl|rfl|rfl|rfl)<;>kernel_rfl
theorem J9{s:ByteArray}(h:s∈calls):vh [.s s]=some [.t (iz s)]:=by
 simp only[calls,bC,nr,or_false]at h;rcases h with(rfl|rfl|rfl|rfl|rfl|rfl|rfl|rfl|rfl|rfl|rfl|rfl|rfl|rfl|rfl)<;>kernel_rfl
theorem J_{s:ByteArray}(h:s∈calls):y9 [.s s]=some [.t (iz s)]:=by
 simp only[calls,bC,nr,or_false]at h;rcases h with(rfl|rfl|rfl|rfl|rfl|rfl|rfl|rfl|rfl|rfl|rfl|rfl|rfl|rfl|rfl)<;>kernel_rfl
def gO(r:List G):Int :=
 bif !dP (gi r 0).int 0 345686399999 then 1 else bif !dP (gi r 1).int 1 3 then 4 else bif !nT (gi r 2).str then 5 else bif !iz (gi r 3).str then 3 else
 bif !dP (gi r 4).int 0 99999 then 1 else bif !dP (gi r 5).int 0 99999 then 1 else bif !nU (gi r 6).str then 5 else bif !nU (gi r 7).str then 5 else 0
theorem ai2{r:List G}(hr:cU r):CG [.l [r]]=some [.i (gO r)]:=by
 obtain⟨t,m,b,c,s,h,x,y,rfl,_,_,_,_,hb,d,g,k⟩:=hr;unfold CG HQ HS gO;dsimp +instances only[Aa,Ab,Ac,Ad,Ae,Af,Ag];have q:=ai1 (.inl hb);have u:=T6 g;have v:=T6 k;have I:=J9 d;rw[zw t,zw m];rw[q,I,zw s,zw h,u,v];generalize dP t 0 345686399999=b1;generalize dP m 1 3=M;generalize nT b=N;generalize iz c=O;generalize dP s 0 99999=U;generalize dP h 0 99999=V;generalize nU x=W;generalize nU y=b8;cases b1<;>cases M<;>cases N<;>cases O<;>cases U<;>cases V<;>cases W<;>cases b8<;>rfl
theorem empty_eq(s:ByteArray):(s.toList==(⟨#[]⟩:ByteArray).toList)=ma [⟨#[]⟩] s:=by
 rw[tq,tq];simp only[ma,u4,As,List.any_nil,Bool.or_false];rw[lJ];simp only[beq_iff_eq];exact eq_comm
theorem ai3{r:List G}(hr:cU r):C0 [.l [r]]=some [.i (gO r)]:=by
 obtain⟨t,m,b,c,s,h,x,y,rfl,_,_,_,_,hb,k,q,u⟩:=hr;unfold C0 IJ gO nU;dsimp +instances only[Aa,Ab,Ac,Ad,Ae,Af,Ag];have v:=J8 (.inl hb);have I:=J8 (.inr q);have M:=J8 (.inr u);have N:=J_ k;have ex:=empty_eq x;have d:=empty_eq y;generalize (⟨#[]⟩:ByteArray)=z at ex d|-;simp only[T5,aaS rfl,v,N,I,M];dsimp +instances only[Aa,Ab,Ac,Ad,Ae,Af,Ag];rw[ex,d];generalize dP t 0 345686399999=b1;generalize dP m 1 3=O;generalize nT b=U;generalize iz c=V;generalize dP s 0 99999=W;generalize dP h 0 99999=b6;generalize nT x=b7;generalize nT y=b8;generalize ma [z] x=b9;generalize ma [z] y=g;cases b1<;>cases O<;>cases U<;>cases V<;>cases W<;>cases b6<;>cases b7<;>cases b8<;>cases b9<;>cases g<;>rfl
def sQ(K:List Kd)(C D:List G->Option (List G))(d:List G):Option (Option Nat × List G) :=
 (bif (aj (gi d 3).int (gi d 2).int) then (bif ((az (gi d 3).int)&&(aj (gi d 3).int (((gi d 1).rows.length:Nat):Int))) then (ar (C [.l [(aT K ((gi d 1).rows.getD (((gi d 3).int).toNat) []))]]) fun g1=>(bif ((gi g1 0).int != 0) then some (some 0,[.i (gi g1 0).int]) else (bif (aj 0 (gi d 3).int) then (bif (ao ((gi d 3).int-1)) then (bif ((az ((gi d 3).int-1))&&(aj ((gi d 3).int-1) (((gi d 0).rows.length:Nat):Int))) then (ar (D [.l [(aT K ((gi d 0).rows.getD (((gi d 3).int-1).toNat) []))],.l [(aT K ((gi d 1).rows.getD (((gi d 3).int).toNat) []))]]) fun g2=>(bif (aZ 0 (gi g2 0).int) then some (some 0,[.i 7]) else (bif (ao ((gi d 3).int+1)) then some (none,[.l (gi d 0).rows,.l (gi d 1).rows,.i (gi d 2).int,.i ((gi d 3).int+1)]) else none))) else none) else none) else (bif (ao ((gi d 3).int+1)) then some (none,[.l (gi d 0).rows,.l (gi d 1).rows,.i (gi d 2).int,.i ((gi d 3).int+1)]) else none)))) else none) else some (some 1,[]))
def T7(K:List Kd)(C D:List G->Option (List G))(d:List G):Option (List G) :=
 (bif (aj 2000 (((gi d 0).rows.length:Nat):Int)) then some [.i 2] else (aR true (bV (sQ K C D) [.l (gi d 0).rows,.l (gi d 0).rows,.i (((gi d 0).rows.length:Nat):Int),.i 0]) fun g g3=>(bif ai g 0 then some [.i (gi g3 0).int] else some [.i 0])))
def iD:Option (List G)->List (List G)->Int
 |_,[]=>0
 |none,x::q=>if gO x≠0 then gO x else iD (some x) q
 |some y,x::q=>if gO x≠0 then gO x else if 0<=gX y x then 7 else iD (some x) q
def j7(l:List (List G)):Int:=if 2000<l.length then 2 else iD none l
section
variable {C D:List G->Option (List G)} (hC:∀ r,cU r->C [.l [r]]=some [.i (gO r)]) (hD:∀ r s,cU r->cU s->D [.l [r],.l [s]]=some [.i (gX r s)])
include hC hD
theorem T8:∀(q p:List (List G)),(∀ z∈p++q,cU z)->p.length+q.length<100000 ->
  aL (sQ [.int .i64,.int .i64,.str,.str,.int .i64,.int .i64,.str,.str] C D) [.l (p++q),.l (p++q),.i ((p.length+q.length:Nat):Int),.i (p.length:Int)] (q.length+1) fun c g=>(c=0/\g=[.i (iD p.getLast? q)])\/c=1/\iD p.getLast? q=0
 | [],p,v,N=>by
  refine aL.stop (x:=1) (d':=[]) (aa.toEq ?_) (.inr ⟨rfl,by unfold iD; rfl⟩);unfold sQ;dsimp +instances only[Aa,Ab,Ac,Ad,Ae,Af,Ag];(repeat first|refine aa.p ?_|refine aa.n ?_);exact aa.some rfl
 | x::q,p,v,N=>by
  simp only[bG]at N;have d:cU x:=v x (by simp);have g1:(p++x::q).getD (p.length:Int).toNat []=x:=l9 _ _ _ _ _ (by simp);have hlen:(p++x::q).length=p.length+q.length+1:=by simp; omega
  by_cases k:gO x=0
  ·have M := T8 q (p ++ [x]) (by simpa using v) (by simp; omega)
   rw[List.getLast?_concat]at M;rcases List.eq_nil_or_concat p with rfl|⟨u,y,rfl⟩
   ·have e : iD ([] : List (List G)).getLast? (x :: q) = iD (some x) q := by simp [iD, k]
    rw[e];refine aL.next (aa.toEq ?_) M
    unfold sQ;dsimp +instances only[Aa,Ab,Ac,Ad,Ae,Af,Ag];simp only[g1,hlen,bG,d.eta];(repeat first|refine aa.p ?_|refine aa.n ?_);refine aa.cE (hC x d) ?_;dsimp +instances only[Aa,Ab,Ac,Ad,Ae,Af,Ag];simp only[k];(repeat first|refine aa.p ?_|refine aa.n ?_);refine aa.some ?_;simp;omega
   ·rw [List.concat_eq_append] at *
    have I:cU y:=v y (by simp);have g2:((u++[y])++x::q).getD (((u++[y]).length:Int)-1).toNat []=y:=by
     have e:(u++[y])++x::q=u++y::x::q:=by simp
     rw[e]; exact l9 _ _ _ _ _ (by simp)
    have U:(u++[y]).length=u.length+1:=by simp
    have O:(u++[y]).getLast? = some y:=by simp
    rw[O];by_cases ho:0<=gX y x
    ·refine aL.stop (x := 0) (d' := [.i 7]) (aa.toEq ?_) (.inl ⟨rfl, by simp [iD, k, ho]⟩)
     unfold sQ;dsimp +instances only[Aa,Ab,Ac,Ad,Ae,Af,Ag];simp only[g1,g2,hlen,bG,d.eta,I.eta];(repeat first|refine aa.p ?_|refine aa.n ?_);refine aa.cE (hC x d) ?_;dsimp +instances only[Aa,Ab,Ac,Ad,Ae,Af,Ag];simp only[k];(repeat first|refine aa.p ?_|refine aa.n ?_);refine aa.cE (hD y x I d) ?_;dsimp +instances only[Aa,Ab,Ac,Ad,Ae,Af,Ag];(repeat first|refine aa.p ?_|refine aa.n ?_);exact aa.some rfl
    ·have e : iD (some y) (x :: q) = iD (some x) q := by simp [iD, k, ho]
     rw[e];refine aL.next (aa.toEq ?_) M
     unfold sQ;dsimp +instances only[Aa,Ab,Ac,Ad,Ae,Af,Ag];simp only[g1,g2,hlen,bG,d.eta,I.eta];(repeat first|refine aa.p ?_|refine aa.n ?_);refine aa.cE (hC x d) ?_;dsimp +instances only[Aa,Ab,Ac,Ad,Ae,Af,Ag];simp only[k];(repeat first|refine aa.p ?_|refine aa.n ?_);refine aa.cE (hD y x I d) ?_;dsimp +instances only[Aa,Ab,Ac,Ad,Ae,Af,Ag];(repeat first|refine aa.p ?_|refine aa.n ?_);refine aa.some ?_;simp;omega
  ·refine aL.stop (x := 0) (d' := [.i (gO x)]) (aa.toEq ?_) (.inl ⟨rfl, by cases V : p.getLast? <;> simp [iD, k]⟩)
   unfold sQ;dsimp +instances only[Aa,Ab,Ac,Ad,Ae,Af,Ag];simp only[g1,hlen,bG,d.eta];(repeat first|refine aa.p ?_|refine aa.n ?_);refine aa.cE (hC x d) ?_;dsimp +instances only[Aa,Ab,Ac,Ad,Ae,Af,Ag];refine aa.pos (by simpa using k) (aa.some rfl)
theorem T9(l:List (List G))(d:∀ z∈l,cU z)(k:l.length<100000):T7 [.int .i64,.int .i64,.str,.str,.int .i64,.int .i64,.str,.str] C D [.l l]=some [.i (j7 l)]:=by
 refine aa.toEq ?_;unfold T7 j7;dsimp +instances only[Aa,Ab,Ac,Ad,Ae,Af,Ag];by_cases h:2000<l.length
 ·(repeat first|refine aa.p ?_|refine aa.n ?_)
  exact aa.some (by simp[h])
 ·(repeat first|refine aa.p ?_|refine aa.n ?_)
  have h1:=T8 hC hD l [] (by simpa using d) (by simpa using k);have h0:((0:Nat):Int)=0:=rfl;simp only[iY,k6,cn,h0]at h1;refine aa.loop (h1.to (by omega)) (by(first|rfl|assumption|(simp only[ao,sl]<;>omega))) ?_;rintro c g (⟨rfl,rfl⟩|⟨rfl,q⟩)
  ·(dsimp +instances only [Aa,Ab,Ac,Ad,Ae,Af,Ag])
   (repeat first|refine aa.p ?_|refine aa.n ?_);refine aa.some ?_;rw[if_neg h];rfl
  ·(repeat first|refine aa.p ?_|refine aa.n ?_)
   refine aa.some ?_;rw[if_neg h];exact congrArg (fun z=>[G.i z]) q.symm
end
theorem T_(l:List (List G))(d:∀ z∈l,cU z)(g:l.length<100000):CL [.l l]=some [.i (j7 l)] :=
 T9 (fun _ h=>ai2 h) (fun _ _ h h'=>aiZ h h') l d g
theorem ai4(l:List (List G))(d:∀ z∈l,cU z)(g:l.length<100000):IT [.l l]=some [.i (j7 l)] :=
 T9 (fun _ h=>ai3 h) (fun _ _ h h'=>J7 h h') l d g
end
end Go.Proofs.iy

namespace Go.Proofs.iy
open Go Go.AL Go.Proofs
noncomputable section
theorem Ua:∀ a b:List UInt8,i_ b a = - i_ a b
 | [],[]=>rfl
 | [],_::_=>rfl
 |_::_,[]=>rfl
 | a::xs,b::g=>by
  simp only[i_];have k:=Ua xs g;by_cases h1:a<b
  ·have d : ¬ b < a := fun h => WL a (al5 h1 h)
   simp[h1,d]
  ·by_cases d : b < a
   ·simp[h1,d]
   ·simp[h1,d,k]
theorem Ub:∀{a b c:List UInt8},i_ a b<0->i_ b c<0->i_ a c<0
 | [],[],_,h,_=>by simp[i_]at h
 | [],_::_,[],_,h=>by simp[i_]at h
 | [],_::_,_::_,_,_=>by simp[i_]
 |_::_,[],_,h,_=>by simp[i_]at h
 |_::_,_::_,[],_,h=>by simp[i_]at h
 | a::xs,b::I,c::M,h1,d=>by
  simp only[i_]at h1 d|-;by_cases g:a<b
  ·by_cases k : b < c
   ·rw [if_pos (al5 g k)]
    omega
   ·by_cases u : c < b
    ·rw [if_neg k, if_pos u] at d
     omega
    ·have e : b = c := WK (Ar.1 u) (Ar.1 k)
     subst e;rw[if_pos g];omega
  ·by_cases v : b < a
   ·rw [if_neg g, if_pos v] at h1
    omega
   ·have e : a = b := WK (Ar.1 v) (Ar.1 g)
    subst e;rw[if_neg (WL a),if_neg (WL a)]at h1;by_cases q:a<c
    ·rw [if_pos q]
     omega
    ·by_cases y : c < a
     ·rw [if_neg q, if_pos y] at d
      omega
     ·rw [if_neg q, if_neg y] at d |-
      exact Ub h1 d
theorem ai5{a b:ByteArray}(h:(a.toList==b.toList)=true):a=b:=by
 rw[tq,tq,beq_iff_eq]at h;exact ByteArray.ext (Array.toList_inj.1 h)
theorem sR{a b:ByteArray}:eX a b=0↔a=b:=by
 have h:=J6 a b;constructor
 ·intro e
  rw[decide_eq_true (p:=eX a b=0) e]at h;exact ai5 h
 ·rintro rfl
  have d:(a.toList==a.toList)=true:=by simp
  rw[d]at h;exact of_decide_eq_true h.symm
theorem ai6{a b:Int}:eY a b=0↔a=b:=by
 unfold eY;constructor
 ·intro h
  split at h
  ·omega
  ·split at h<;>omega
 ·rintro rfl
  simp
theorem sS{a b:Int}:eY a b<0↔a<b:=by
 unfold eY;constructor
 ·intro h
  split at h
  ·assumption
  ·split at h<;>omega
 ·intro h
  rw[if_pos h];omega
theorem qA(a b:ByteArray):(a.toList==b.toList)=decide (a=b):=by
 rw[J6,lJ,decide_eq_true_eq,decide_eq_true_eq];exact sR
structure vW {α:Type} (c:α->α->Int):Prop where
 flip:∀ a b,c b a = - c a b
 eq:∀ a b,c a b=0->a=b
 tr:∀ a b d,c a b<0->c b d<0->c a d<0
theorem Uc:vW eY:=⟨fun a b=>by unfold eY; split<;>split<;>first|omega|(split<;>omega)|skip,fun a b h=>ai6.1 h,fun a b d h1 g=>sS.2 (Int.lt_trans (sS.1 h1) (sS.1 g))⟩
theorem Ud:vW eX:=⟨fun a b=>Ua _ _,fun a b h=>sR.1 h,fun a b d h1 g=>Ub h1 g⟩
theorem vW.le{α:Type}{c:α->α->Int}(h:vW c)(a b d:α)(h1:c a b<=0)(g:c b d<=0):c a d<=0:=by
 by_cases k:c a b=0
 ·rw [h.eq a b k]
  exact g
 ·by_cases q : c b d = 0
  ·rw [<- h.eq b d q]
   exact h1
  ·have := h.tr a b d (by omega) (by omega)
   omega
theorem vW.refl{α:Type}{c:α->α->Int}(h:vW c)(a:α):c a a=0:=by
 have:=h.flip a a;omega
theorem ai7{c:List G->List G->Int}(g:∀ a b,c b a = - c a b)(k:∀ a b d,c a b<=0->c b d<=0->c a d<=0):gf (cf c) (fun _=>True):=by
 have lt:∀ r s,cf c r s=decide (c r s<0):=fun r s=>by unfold cf; rw[cd]
 refine⟨fun a b d _ _ _ h1 q=>?_,fun a b _ _ h=>?_⟩
 ·rw [lt, decide_eq_false_iff_not] at *
  have:=k d b a (by have:=g d b; omega) (by have:=g b a; omega);have:=g a d;omega
 ·rw [lt, decide_eq_true_eq] at h
  rw[lt,decide_eq_false_iff_not];have:=g a b;omega
structure dV (F:Nat->Nat->Int) (n m:Nat) (ok:Nat->Nat->Bool) (w:Nat->Nat->Int):Prop where
 ly:∀ i k,n<=i\/m<=k->F i k=0
 step:∀ i k,i<n->k<m->F i k=if ok i k=true then max (max (F (i+1) k) (F i (k+1))) (w i k+F (i+1) (k+1)) else max (F (i+1) k) (F i (k+1))
structure Fair (n m:Nat) (ok:Nat->Nat->Bool) (w:Nat->Nat->Int):Prop where
 pos:∀ i k,i<n->k<m->ok i k=true->0<w i k
 ai8:∀ i p k q,i<p->p<n->k<q->q<m->ok i q=true->ok p k=true->ok i k=true/\ok p q=true/\w i q+w p k<=w i k+w p q
section
variable {F:Nat->Nat->Int} {n m:Nat} {ok:Nat->Nat->Bool} {w:Nat->Nat->Int}
theorem dV.flip(h:dV F n m ok w):dV (fun k i=>F i k) m n (fun k i=>ok i k) (fun k i=>w i k):=by
 refine⟨fun k i hk=>h.ly i k hk.symm,fun k i hk hi=>?_⟩;have:=h.step i k hi hk;rw[this];split<;>omega
theorem Fair.flip(h:Fair n m ok w):Fair m n (fun k i=>ok i k) (fun k i=>w i k):=by
 refine⟨fun k i hk hi ho=>h.pos i k hi hk ho,fun k q i p d u g v h1 y=>?_⟩;obtain⟨a,b,c⟩:=h.ai8 i p k q g v d u y h1;exact⟨a,b,by omega⟩
theorem dV.down(h:dV F n m ok w)(i k:Nat):F (i+1) k<=F i k:=by
 by_cases he:n<=i\/m<=k
 ·rw [h.ly i k he, h.ly (i + 1) k (by omega)]
  exact wP _
 ·rw [h.step i k (by omega) (by omega)]
  split<;>omega
theorem dV.right(h:dV F n m ok w)(i k:Nat):F i (k+1)<=F i k:=h.flip.down k i
theorem dV.J'(h:dV F n m ok w)(i k:Nat):∀ d,F (i+d) k<=F i k
 |0=>wP _
 |d+1=>Lo (h.down (i+d) k) (h.J' i k d)
theorem dV.mono(h:dV F n m ok w){i p k q:Nat}(h1:i<=p)(g:k<=q):F p q<=F i k:=by
 obtain⟨d,rfl⟩:=al6 h1;obtain⟨e,rfl⟩:=al6 g;exact Lo (h.J' i (k+e) d) (h.flip.J' k i e)
theorem dV.take(h:dV F n m ok w){i p k q:Nat}(h1:i<=p)(d:k<=q)(g:p<n)(u:q<m)(ho:ok p q=true):w p q+F (p+1) (q+1)<=F i k:=by
 refine Lo ?_ (h.mono h1 d);rw[h.step p q g u,if_pos ho];omega
theorem dV.Ka(h:dV F n m ok w)(i k:Nat):0<=F i k:=by
 have h1:=h.mono (i:=i) (p:=i+n) (k:=k) (q:=k) (by omega) (aB _);rw[h.ly (i+n) k (.inl (by omega))]at h1;exact h1
theorem dV.row(h:dV F n m ok w){i:Nat}(hi:i<n):∀(s k:Nat),m-k<=s->F i k=F (i+1) k\/∃ q,k<=q/\q<m/\ok i q=true/\F i k=w i q+F (i+1) (q+1)
 | s,k,v=>by
  by_cases hk:k<m
  ·cases s with
   |zero=>omega
   | succ s =>
    have h0:=h.step i k hi hk;have h1:=h.down i k;have y:=h.right (i+1) k;by_cases ho:ok i k=true
    ·rw [if_pos ho] at h0
     by_cases e:F i k=w i k+F (i+1) (k+1)
     ·exact .inr ⟨k,aB _,hk,ho,e⟩
     ·by_cases d : F i k = F (i + 1) k
      ·exact .inl d
      ·have u : F i k = F i (k + 1) := by omega
       rcases h.row hi s (k+1) (by omega)with g|⟨q,g1,g2,g3,g4⟩
       ·exact .inl (by omega)
       ·exact .inr ⟨q,by omega,g2,g3,by omega⟩
    ·rw [if_neg ho] at h0
     by_cases d:F i k=F (i+1) k
     ·exact .inl d
     ·have u : F i k = F i (k + 1) := by omega
      rcases h.row hi s (k+1) (by omega)with g|⟨q,g1,g2,g3,g4⟩
      ·exact .inl (by omega)
      ·exact .inr ⟨q,by omega,g2,g3,by omega⟩
  ·exact .inl (by rw[h.ly i k (.inr (by omega)),h.ly (i+1) k (.inr (by omega))])
def fk(P:Nat->Bool):Nat->Nat->Option Nat
 |_,0=>none
 |q,t+1=>bif P q then some q else fk P (q+1) t
theorem qB{P:Nat->Bool}:∀{t q x:Nat},fk P q t=some x->q<=x/\x<q+t/\P x=true/\∀ y,q<=y->y<x->P y=false
 |0,_,_,h=>by cases h
 | t+1,q,x,h=>by
  unfold fk at h;cases g:P q with
  | true =>
   rw[g]at h;cases h;exact⟨aB _,by omega,g,fun y h1 k=>by omega⟩
  | false =>
   rw[g]at h;obtain⟨a,b,c,d⟩:=qB (t:=t) h;exact⟨by omega,by omega,c,fun y h1 k=>by
    by_cases e:y=q
    ·subst e; exact g
    ·exact d y (by omega) k⟩
theorem vX{P:Nat->Bool}:∀{t q:Nat},fk P q t=none->∀ y,q<=y->y<q+t->P y=false
 |0,q,_,y,h1,g=>by omega
 | t+1,q,h,y,h1,g=>by
  unfold fk at h;cases d:P q with
  |true=>rw[d]at h; cases h
  | false =>
   rw[d]at h;by_cases e:y=q
   ·subst e; exact d
   ·exact vX (t:=t) h y (by omega) (by omega)
theorem Kb{P:Nat->Bool}{t q x:Nat}(h1:q<=x)(u:x<q+t)(k:P x=true)(v:∀ y,q<=y->y<x->P y=false):fk P q t=some x:=by
 cases h:fk P q t with
 |none=>rw[vX h x h1 u]at k; cases k
 | some z =>
  obtain⟨a,b,c,d⟩:=qB h;rcases Eg z x with g|g|g
  ·rw[v z a g]at c; cases c
  ·rw[g]
  ·rw[d x h1 g]at k; cases k
theorem ai9{P:Nat->Bool}{t q:Nat}(h:∀ y,q<=y->y<q+t->P y=false):fk P q t=none:=by
 cases d:fk P q t with
 |none=>rfl
 | some z =>
  obtain⟨a,b,c,_⟩:=qB d;rw[h z a b]at c;cases c
def fA(F:Nat->Nat->Int)(ok:Nat->Nat->Bool)(w:Nat->Nat->Int)(v:Int)(i q:Nat):Bool:=ok i q&&(w i q+F (i+1) (q+1)==v)
theorem sT{v:Int}{i q:Nat}:fA F ok w v i q=true↔ok i q=true/\w i q+F (i+1) (q+1)=v:=by
 unfold fA;rw[ax,beq_iff_eq]
def be(F:Nat->Nat->Int)(m:Nat)(ok:Nat->Nat->Bool)(w:Nat->Nat->Int):Nat->Nat->Nat->List (Nat × Nat)
 |0,_,_=>[]
 | t+1,i,f=>match fk (fA F ok w (F i f) i) f (m-f) with
  |some q=>(i,q)::be F m ok w t (i+1) (q+1)
  |none=>be F m ok w t (i+1) f
theorem me{t i f q:Nat} (h:fk (fA F ok w (F i f) i) f (m-f)=some q):be F m ok w (t+1) i f=(i,q)::be F m ok w t (i+1) (q+1):=by
 rw[be,h]
theorem pc{t i f:Nat} (h:fk (fA F ok w (F i f) i) f (m-f)=none):be F m ok w (t+1) i f=be F m ok w t (i+1) f:=by
 rw[be,h]
theorem pd:∀(t i f:Nat),∀ x∈be F m ok w t i f,i<=x.1/\x.1<i+t/\f<=x.2/\x.2<m/\ok x.1 x.2=true
 |0,_,_,x,h=>by cases h
 | t+1,i,f,x,h=>by
  cases g:fk (fA F ok w (F i f) i) f (m-f)with
  | none =>
   rw[pc g]at h;obtain⟨a,b,c,d,e⟩:=pd t (i+1) f x h;exact⟨by omega,by omega,c,d,e⟩
  | some q =>
   rw[me g]at h;obtain⟨k,v,u,_⟩:=qB g;rcases bC.1 h with rfl|h
   ·exact⟨aB _,by simp,k,by simp; omega,(sT.1 u).1⟩
   ·obtain ⟨a, b, c, d, e⟩ := pd t (i + 1) (q + 1) x h
    exact⟨by omega,by omega,by omega,d,e⟩
theorem Kc:∀(t i f:Nat),(be F m ok w t i f).Pairwise fun x y=>x.1<y.1/\x.2<y.2
 |0,_,_=>.nil
 | t+1,i,f=>by
  cases d:fk (fA F ok w (F i f) i) f (m-f)with
  |none=>rw[pc d]; exact Kc t (i+1) f
  | some q =>
   rw[me d];refine .cons (fun y g=>?_) (Kc t (i+1) (q+1));obtain⟨a,_,c,_,_⟩:=pd t (i+1) (q+1) y g;exact⟨by simp; omega,by simp; omega⟩
theorem Ds(h:dV F n m ok w){i f:Nat}(hi:i<n)(d:∀ q,f<=q->q<m->fA F ok w (F i f) i q=false):F i f=F (i+1) f:=by
 rcases h.row hi (m-f) f (aB _)with e|⟨q,g,k,u,v⟩
 ·exact e
 ·have := d q g k
  rw[sT.2 ⟨u,v.symm⟩]at this;cases this
end
def kN(n m:Nat)(ok:Nat->Nat->Bool)(w:Nat->Nat->Int)(i k:Nat):Int :=
 if h:i<n/\k<m then
  if ok i k=true then max (max (kN n m ok w (i+1) k) (kN n m ok w i (k+1))) (w i k+kN n m ok w (i+1) (k+1)) else max (kN n m ok w (i+1) k) (kN n m ok w i (k+1))
 else 0
termination_by (n-i)+(m-k)
theorem Dt(n m:Nat)(ok:Nat->Nat->Bool)(w:Nat->Nat->Int):dV (kN n m ok w) n m ok w :=
 ⟨fun i k h => by rw [kN, dif_neg (by omega)], fun i k hi hk => by
  conv=>lhs; rw[kN]
  rw[dif_pos ⟨hi,hk⟩]⟩
theorem dV.le{F:Nat->Nat->Int}{n m:Nat}{ok:Nat->Nat->Bool}{w:Nat->Nat->Int}(h:dV F n m ok w){W:Int}(d:0<=W)(hw:∀ i k,w i k<=W):∀(t i k:Nat),n-i=t->F i k<=W*(t:Int)
 |0,i,k,u=>by rw[h.ly i k (.inl (by omega))]; simp
 | t+1,i,k,u=>by
  have e:W*((t+1:Nat):Int)=W*(t:Int)+W:=by rw[Int.natCast_succ,Int.mul_add,Int.mul_one]
  rw[e];rcases h.row (i:=i) (by omega) (m-k) k (aB _)with g|⟨q,_,_,_,g⟩
  ·have := h.le d hw t (i + 1) k (by omega)
   omega
  ·have := h.le d hw t (i + 1) (q + 1) (by omega)
   have:=hw i q;omega
def gY(r:List G):Int:=(gi r 0).int
def j8(r:List G):Int:=(gi r 1).int
def aV(r:List G):ByteArray:=(gi r 2).str
def Ke(r:List G):ByteArray:=(gi r 3).str
def fJ(r:List G):Prop:=aT [.int .i64,.int .i64,.str,.str,.int .i64,.int .i64,.str,.str] r=r /\ -1000000000000<=gY r/\gY r<=1000000000000
def dQ(p q:List G):Int:=if gY q-gY p>gY p-gY q then gY q-gY p else gY p-gY q
def nV(off:Int)(p q:List G):Bool:=((aV p).toList==(aV q).toList)&&((j8 p==j8 q)&&aZ (dQ p q) off)
theorem vY{p q:List G}(d:fJ p)(g:fJ q):0<=dQ p q/\dQ p q<=2000000000000:=by
 obtain⟨_,h1,k⟩:=d;obtain⟨_,u,v⟩:=g;unfold dQ;split<;>omega
theorem Kf{p q:List G}(d:fJ p)(g:fJ q):vo [.l [p],.l [q]]=some [.i (dQ p q)]:=by
 obtain⟨_,h1,k⟩:=d;obtain⟨_,u,v⟩:=g;unfold gY at h1 k u v;refine aa.toEq ?_;unfold vo dQ gY;dsimp +instances only[Aa,Ab,Ac,Ad,Ae,Af,Ag];exact aa.pos (fg.2 ⟨by omega,by omega⟩) (aa.pos (fg.2 ⟨by omega,by omega⟩) (aa.some rfl))
theorem Kg(off:Int){p q:List G}(d:fJ p)(g:fJ q):vp [.l [p],.l [q],.i off]=some [.t (nV off p q)]:=by
 refine aa.toEq ?_;unfold vp nV;dsimp +instances only[Aa,Ab,Ac,Ad,Ae,Af,Ag];refine aa.test (fun h=>?_) fun h=>?_
 ·have h : ((aV p).toList == (aV q).toList) = true := h
  rw[h];refine aa.test (fun h=>?_) fun h=>?_
  ·have h : (j8 p == j8 q) = true := h
   rw[h,d.1,g.1];refine aa.cE (Kf d g) ?_;exact aa.some rfl
  ·have h : (j8 p == j8 q) = false := h
   rw[h];exact aa.some rfl
 ·have h : ((aV p).toList == (aV q).toList) = false := h
  rw[h];exact aa.some rfl
structure JC (a b:List (List G)) (X Y:List Nat):Prop where
 ha:∀ z∈a,fJ z
 hb:∀ z∈b,fJ z
 hX:∀ i∈X,i<a.length
 hY:∀ i∈Y,i<b.length
 na:a.length<=100000
 nb:b.length<=100000
 nX:X.length<=1000
 nY:Y.length<=1000
def aN(X:List Nat):List (List G):=X.map fun(i:Nat)=>[G.i (i:Int)]
theorem fm(X:List Nat):(aN X).length=X.length:=bN _
theorem mf{X:List Nat}{i:Nat}(hi:i<X.length):(aN X).getD i []=[.i ((X.getD i 0:Nat):Int)]:=by
 unfold aN;rw[bP,bB,bx hi,bP,bx hi];rfl
theorem lz{α:Type}{l:List α}{i:Nat}{z:α}(h:i<l.length):l.getD i z∈l:=by
 rw[bP,bx h];exact th h
def fB(a:List (List G))(X:List Nat)(i:Nat):List G:=a.getD (X.getD i 0) []
def cJ(a b:List (List G))(X Y:List Nat)(off:Int)(i k:Nat):Bool:=nV off (fB a X i) (fB b Y k)
def wJ(a b:List (List G))(X Y:List Nat)(i k:Nat):Int:=10000000000-dQ (fB a X i) (fB b Y k)
theorem JC.vZ{a b:List (List G)}{X Y:List Nat}(J:JC a b X Y){i:Nat}(hi:i<X.length):X.getD i 0<a.length/\fJ (fB a X i):=by
 have h:=J.hX _ (lz (z:=0) hi);exact⟨h,J.ha _ (lz h)⟩
theorem JC.v_{a b:List (List G)}{X Y:List Nat}(J:JC a b X Y){i:Nat}(hi:i<Y.length):Y.getD i 0<b.length/\fJ (fB b Y i):=by
 have h:=J.hY _ (lz (z:=0) hi);exact⟨h,J.hb _ (lz h)⟩
theorem ai_{a b:List (List G)}{X Y:List Nat}(J:JC a b X Y)(off:Int)(q:List (List G)){i k:Nat}(hi:i<X.length)(hk:k<Y.length) :
  CN [.l a,.l b,.l (aN X),.l (aN Y),.i off,.l q,.i (i:Int),.i (k:Int)]=some [.l a,.l b,.l (aN X),.l (aN Y),.i off,.l q,.i (wJ a b X Y i k),.t (cJ a b X Y off i k)]:=by
 obtain⟨h1,d⟩:=J.vZ hi;obtain⟨I,g⟩:=J.v_ hk;have y:=vY d g;refine aa.toEq ?_;unfold CN;dsimp +instances only[Aa,Ab,Ac,Ad,Ae,Af,Ag];simp only[aK,mf hi,mf hk,fm];dsimp +instances only[Aa,Ab,Ac,Ad,Ae,Af,Ag];simp only[aK];refine aa.p (aa.p (aa.p (aa.p ?_)));have u:a.getD (X.getD i 0) []=fB a X i:=rfl;have v:b.getD (Y.getD k 0) []=fB b Y k:=rfl;rw[u,v,d.1,g.1];refine aa.cE (Kf d g) ?_;dsimp +instances only[Aa,Ab,Ac,Ad,Ae,Af,Ag];refine aa.pos (fg.2 ⟨by omega,by omega⟩) ?_;refine aa.cE (Kg off d g) ?_;dsimp +instances only[Aa,Ab,Ac,Ad,Ae,Af,Ag];refine aa.pos ?_ (aa.some rfl);simp
theorem Ue{a b:List (List G)}{X Y:List Nat}(J:JC a b X Y)(off:Int)(q:List (List G)){i k:Nat}(hi:i<X.length)(hk:k<Y.length) :
  CP [.l [[.l a,.l b,.l (aN X),.l (aN Y),.i off,.l q]],.i (i:Int),.i (k:Int)]=some [.i (wJ a b X Y i k),.t (cJ a b X Y off i k)]:=by
 obtain⟨h1,d⟩:=J.vZ hi;obtain⟨I,g⟩:=J.v_ hk;have y:=vY d g;refine aa.toEq ?_;unfold CP;dsimp +instances only[Aa,Ab,Ac,Ad,Ae,Af,Ag];simp only[aK,mf hi,mf hk,fm];dsimp +instances only[Aa,Ab,Ac,Ad,Ae,Af,Ag];simp only[aK];refine aa.p (aa.p (aa.p (aa.p ?_)));have u:a.getD (X.getD i 0) []=fB a X i:=rfl;have v:b.getD (Y.getD k 0) []=fB b Y k:=rfl;rw[u,v,d.1,g.1];refine aa.cE (Kf d g) ?_;dsimp +instances only[Aa,Ab,Ac,Ad,Ae,Af,Ag];refine aa.pos (fg.2 ⟨by omega,by omega⟩) ?_;refine aa.cE (Kg off d g) ?_;exact aa.some rfl
def eh(F:Nat->Nat->Int)(m i t:Nat):List (List G):=(dB (m+1)).map fun j=>[G.i (if t<=j then F i j else 0)]
def dW(F:Nat->Nat->Int)(n m i:Nat):List (List G):=(dB (n+1)).map fun p=>[G.l (if i<=p then eh F m p 0 else [])]
theorem qC(F:Nat->Nat->Int)(m i t:Nat):(eh F m i t).length=m+1:=by unfold eh; rw[bN,mr]
theorem wa(F:Nat->Nat->Int)(n m i:Nat):(dW F n m i).length=n+1:=by unfold dW; rw[bN,mr]
theorem zx{F:Nat->Nat->Int}{m i t j:Nat}(d:j<=m):(eh F m i t).getD j []=[.i (if t<=j then F i j else 0)]:=by
 unfold eh;rw[bP,bB,om (by omega)];rfl
theorem Kh{F:Nat->Nat->Int}{n m i p:Nat}(d:p<=n):(dW F n m i).getD p []=[.l (if i<=p then eh F m p 0 else [])]:=by
 unfold dW;rw[bP,bB,om (by omega)];rfl
theorem ai'{F:Nat->Nat->Int}{m i t:Nat}:(eh F m i (t+1)).set t [.i (F i t)]=eh F m i t:=by
 apply iK;intro j;unfold eh;rw[dv,bB,bB,bN,mr];by_cases d:j<m+1
 ·rw [om d]
  by_cases e:t=j
  ·subst e
   rw[if_pos rfl,if_pos d];simp
  ·rw [if_neg e]
   simp only[dS];by_cases h:t<=j
   ·rw[if_pos h,if_pos (by omega)]
   ·rw[if_neg h,if_neg (by omega)]
 ·rw [nh (by simp; omega)]
  by_cases e:t=j
  ·subst e
   rw[if_pos rfl,if_neg d];rfl
  ·rw [if_neg e]
   rfl
theorem aja{F:Nat->Nat->Int}{m i:Nat}(h:F i m=0):eh F m i m=bQ (m+1) [.i 0]:=by
 rw[Lp];refine⟨qC F m i m,fun x d=>?_⟩;unfold eh at d;obtain⟨j,g,rfl⟩:=cH.1 d;rw[fu]at g;by_cases e:m<=j
 ·rw[if_pos e,show j=m from by omega,h]
 ·rw[if_neg e]
theorem ajb{F:Nat->Nat->Int}{m i:Nat}(h:∀ k,F i k=0):eh F m i 0=bQ (m+1) [.i 0]:=by
 rw[Lp];refine⟨qC F m i 0,fun x d=>?_⟩;unfold eh at d;obtain⟨j,g,rfl⟩:=cH.1 d;rw[if_pos (dX _),h]
theorem ajc{F:Nat->Nat->Int}{n m i:Nat}:(dW F n m (i+1)).set i [.l (eh F m i 0)]=dW F n m i:=by
 apply iK;intro j;unfold dW;rw[dv,bB,bB,bN,mr];by_cases d:j<n+1
 ·rw [om d]
  by_cases e:i=j
  ·subst e
   rw[if_pos rfl,if_pos d];simp
  ·rw [if_neg e]
   simp only[dS];by_cases h:i<=j
   ·rw[if_pos h,if_pos (by omega)]
   ·rw[if_neg h,if_neg (by omega)]
 ·rw [nh (by simp; omega)]
  by_cases e:i=j
  ·subst e
   rw[if_pos rfl,if_neg d];rfl
  ·rw [if_neg e]
   rfl
theorem ajd{F:Nat->Nat->Int}{n m:Nat}(h:∀ k,F n k=0):(bQ (n+1) ([.l []]:List G)).set n [.l (bQ (m+1) [.i 0])]=dW F n m n:=by
 apply iK;intro j;unfold dW;rw[dv,bB,WM,tc];by_cases d:j<n+1
 ·rw [om d]
  by_cases e:n=j
  ·subst e
   rw[if_pos rfl,if_pos d,dS,if_pos (aB _),ajb h]
  ·rw[if_neg e,if_pos d,dS,if_neg (by omega)]
 ·rw [nh (by simp; omega)]
  by_cases e:n=j
  ·subst e
   rw[if_pos rfl,if_neg d];rfl
  ·rw [if_neg e, if_neg d]
   rfl
theorem wb(k:Kd)(r:List G)(v:G):dx [k] r 0 [v]=[v]:=by
 simp[dx,pS]
theorem Uf{a b x y d row:List (List G)}{off:Int}{i k:Nat}(hk:k<=100000) :
  yP [.l a,.l b,.l x,.l y,.i off,.l d,.l row,.i (i:Int),.i (k:Int)]=some (some 0,[.l a,.l b,.l x,.l y,.i off,.l d,.l row,.i (i:Int),.i ((k:Int)-1)]):=by
 refine aa.toEq ?_;unfold yP;dsimp +instances only[Aa,Ab,Ac,Ad,Ae,Af,Ag];exact aa.pos (fg.2 ⟨by omega,by omega⟩) (aa.pos (by simp) (aa.some rfl))
theorem Ug{a b:List (List G)}{X Y:List Nat}(J:JC a b X Y)(off:Int){F:Nat->Nat->Int}(d:dV F X.length Y.length (cJ a b X Y off) (wJ a b X Y)){i:Nat}(hi:i<X.length):∀ t:Nat,t<=Y.length ->
  aL yQ [.l a,.l b,.l (aN X),.l (aN Y),.i off,.l (dW F X.length Y.length (i+1)),.l (eh F Y.length i t),.i (i:Int),.i ((t:Int)-1)] (t+1) fun c g=>c=0/\g=[.l a,.l b,.l (aN X),.l (aN Y),.i off,.l (dW F X.length Y.length (i+1)),.l (eh F Y.length i 0),.i (i:Int)]
 | 0,_=>by
  refine aL.stop (x:=0) (aa.toEq ?_) ⟨rfl,rfl⟩;unfold yQ;dsimp +instances only[Aa,Ab,Ac,Ad,Ae,Af,Ag];exact aa.neg (by rw[eT]; decide) (aa.pos (by simp) (aa.some rfl))
 | t+1,ht=>by
  have nX:=J.nX;have nY:=J.nY;have hW:∀ i k,F i k<=10000000000*((X.length-i:Nat):Int):=fun i k=>d.le (W:=10000000000) (by omega) (fun i k=>by
   unfold wJ dQ;split<;>omega) _ i k rfl
  have b1:=d.Ka (i+1) t;have b2:=d.Ka (i+1) (t+1);have b3:=hW (i+1) (t+1);have hwo : -2000000000000<=wJ a b X Y i t/\wJ a b X Y i t<=10000000000:=by
   have:=vY (J.vZ hi).2 (J.v_ (show t<Y.length by omega)).2;unfold wJ;omega
  have ih:=Ug J off d hi t (by omega);have e0:((t+1:Nat):Int)-1=(t:Int):=by omega
  rw[e0];refine aL.next (aa.toEq ?_) ih
  have e1:((i:Int)+1).toNat=i+1:=by omega
  have e2:((t:Int)+1).toNat=t+1:=by omega
  have hM:(dW F X.length Y.length (i+1)).getD (i+1) []=[.l (eh F Y.length (i+1) 0)]:=by rw[Kh (by omega),if_pos (aB _)]
  have hN0:(eh F Y.length (i+1) 0).getD t []=[.i (F (i+1) t)]:=by rw[zx (by omega),if_pos (dX _)]
  have M:(eh F Y.length (i+1) 0).getD (t+1) []=[.i (F (i+1) (t+1))]:=by rw[zx (by omega),if_pos (dX _)]
  have N:(eh F Y.length i (t+1)).getD (t+1) []=[.i (F i (t+1))]:=by rw[zx (by omega),if_pos (aB _)]
  have q:=d.step i t hi (by omega);have y:∀ v,v=F i t->(eh F Y.length i (t+1)).set t [.i v]=eh F Y.length i t:=fun v hv=>by rw[hv,ai']
  have I:∀ v:Int,((eh F Y.length i (t+1)).set t [.i v]).getD t []=[.i v]:=fun v=>by
   rw[bP,bf (by rw[qC]; omega)];rfl
  have O:=wa F X.length Y.length (i+1);have U:=qC F Y.length i (t+1);have V:=qC F Y.length (i+1) 0;generalize hRR:eh F Y.length i (t+1)=R at N y I U|-;unfold yQ;dsimp +instances only[Aa,Ab,Ac,Ad,Ae,Af,Ag];simp only[aK,e1,e2,cn,hM];dsimp +instances only[Aa,Ab,Ac,Ad,Ae,Af,Ag];simp only[hN0,M,N,wb,O,U,V,ib,I,List.set_set];dsimp +instances only[Aa,Ab,Ac,Ad,Ae,Af,Ag];refine aa.p (aa.p (aa.p (aa.p (aa.p (aa.p (aa.p (aa.p (aa.p (aa.p ?_)))))))));refine aa.nO (aa.eq (ai_ J off _ hi (show t<Y.length by omega))) (by simp) ?_;rintro _ rfl;dsimp +instances only[Aa,Ab,Ac,Ad,Ae,Af,Ag];simp only[hM];dsimp +instances only[Aa,Ab,Ac,Ad,Ae,Af,Ag];simp only[M,O,V];dsimp +instances only[Aa,Ab,Ac,Ad,Ae,Af,Ag];refine aa.test (fun h=>?_) fun h=>?_
  ·rw [if_pos h] at q
   refine aa.p (aa.p (aa.p (aa.p (aa.p (aa.p (aa.p (aa.pos (fg.2 ⟨by omega,by omega⟩) (aa.p (aa.p ?_)))))))));refine aa.tail (P:=fun u g=>u=0/\g=[.l a,.l b,.l (aN X),.l (aN Y),.i off,.l (dW F X.length Y.length (i+1)),.l (eh F Y.length i t),.i (i:Int),.i ((t:Int)-1)]) ⟨_,Uf (by omega),0,rfl,?_,?_⟩ (by simp) ?_
   ·rfl
   ·rw [y _ ?_]
    rw[q];split<;>split<;>omega
   ·rintro _ _ ⟨rfl, rfl⟩
    dsimp +instances only[Aa,Ab,Ac,Ad,Ae,Af,Ag];exact aa.pos (by simp) (aa.some rfl)
  ·rw [if_neg (by rw [h]; decide)] at q
   refine aa.tail (P:=fun u g=>u=0/\g=[.l a,.l b,.l (aN X),.l (aN Y),.i off,.l (dW F X.length Y.length (i+1)),.l (eh F Y.length i t),.i (i:Int),.i ((t:Int)-1)]) ⟨_,Uf (by omega),0,rfl,?_,?_⟩ (by simp) ?_
   ·rfl
   ·rw [y _ ?_]
    rw[q];split<;>omega
   ·rintro _ _ ⟨rfl, rfl⟩
    dsimp +instances only[Aa,Ab,Ac,Ad,Ae,Af,Ag];exact aa.pos (by simp) (aa.some rfl)
theorem Uh{a b:List (List G)}{X Y:List Nat}(J:JC a b X Y)(off:Int){F:Nat->Nat->Int}(d:dV F X.length Y.length (cJ a b X Y off) (wJ a b X Y)):∀ t:Nat,t<=X.length ->
  aL yR [.l a,.l b,.l (aN X),.l (aN Y),.i off,.l (dW F X.length Y.length t),.i ((t:Int)-1)] (t+1) fun c g=>c=0/\g=[.l a,.l b,.l (aN X),.l (aN Y),.i off,.l (dW F X.length Y.length 0)]
 | 0,_=>by
  refine aL.stop (x:=0) (aa.toEq ?_) ⟨rfl,rfl⟩;unfold yR;dsimp +instances only[Aa,Ab,Ac,Ad,Ae,Af,Ag];exact aa.neg (by rw[eT]; decide) (aa.pos (by simp) (aa.some rfl))
 | t+1,I=>by
  have nX:=J.nX;have nY:=J.nY;have u:=Uh J off d t (by omega);have v:((t+1:Nat):Int)-1=(t:Int):=by omega
  rw[v];refine aL.next (aa.toEq ?_) u
  have y:((Y.length:Int)+1).toNat=Y.length+1:=by omega
  have k:(bQ (Y.length+1) ([.i 0]:List G))=eh F Y.length t Y.length:=(aja (d.ly t Y.length (.inr (aB _)))).symm;have q:=Ug J off d (show t<X.length by omega) Y.length (aB _);unfold yR;dsimp +instances only[Aa,Ab,Ac,Ad,Ae,Af,Ag];simp only[fm,y,k];refine aa.p (aa.p (aa.p (aa.p ?_)));refine aa.loop (q.to (by omega)) (by simp[qC]) ?_;rintro _ _ ⟨rfl,rfl⟩;dsimp +instances only[Aa,Ab,Ac,Ad,Ae,Af,Ag];simp only[aK,cn,wb,wa];refine aa.p (aa.pos (by simp; omega) (aa.p (aa.pos (by simp[wa]) (aa.some ?_))));rw[ajc]
theorem aje{a b:List (List G)}{X Y:List Nat}(J:JC a b X Y)(off:Int){F:Nat->Nat->Int}(d:dV F X.length Y.length (cJ a b X Y off) (wJ a b X Y)) :
  CO [.l a,.l b,.l (aN X),.l (aN Y),.i off,.l []]=some [.l a,.l b,.l (aN X),.l (aN Y),.i off,.l (dW F X.length Y.length 0)]:=by
 have nX:=J.nX;have nY:=J.nY;have q:((X.length:Int)+1).toNat=X.length+1:=by omega
 have u:((Y.length:Int)+1).toNat=Y.length+1:=by omega
 have g:(bQ (X.length+1) ([.l []]:List G)).set X.length [.l (bQ (Y.length+1) [.i 0])]=dW F X.length Y.length X.length:=ajd fun k=>d.ly X.length k (.inl (aB _));refine aa.toEq ?_;unfold CO;dsimp +instances only[Aa,Ab,Ac,Ad,Ae,Af,Ag];simp only[fm,q,u,cn,wb,g,tc,wa];refine aa.p (aa.p (aa.p (aa.p (aa.p (aa.pos (by simp) (aa.p ?_))))));refine aa.loop ((Uh J off d X.length (aB _)).to (by omega)) (by simp) ?_;rintro _ _ ⟨rfl,rfl⟩;dsimp +instances only[Aa,Ab,Ac,Ad,Ae,Af,Ag];exact aa.pos (by simp) (aa.some rfl)
def dH(X Y:List Nat)(p:Nat × Nat):List G:=[.i ((X.getD p.1 0:Nat):Int),.i ((Y.getD p.2 0:Nat):Int)]
def Ui(X Y:List Nat)(out:List (List G))(i:Nat):Option Nat->List (List G)
 |some q=>out++[dH X Y (i,q)]
 |none=>out
def Uj(f:Nat):Option Nat->Nat
 |some q=>q+1
 |none=>f
theorem Ki{a b d out:List (List G)}{X Y:List Nat}(off:Int){f i k n:Nat}(hi:i<X.length)(hk:k<Y.length)(nY:Y.length<=1000)(ho:out.length<=100000)(t:Bool) :
  vq [.l a,.l b,.l (aN X),.l (aN Y),.i off,.l d,.l out,.i (f:Int),.i (i:Int),.i (k:Int),.i (n:Int),.i (i:Int),.t t] =
   bif t then some (some 0,[.l a,.l b,.l (aN X),.l (aN Y),.i off,.l d,.l (out++[dH X Y (i,k)]),.i ((k+1:Nat):Int),.i (n:Int),.i (i:Int)])
   else some (some 1,[.l a,.l b,.l (aN X),.l (aN Y),.i off,.l d,.l out,.i (f:Int),.i (i:Int),.i (k:Int),.i (n:Int),.i (i:Int)]):=by
 cases t with
 | false =>
  refine aa.toEq ?_;unfold vq;dsimp +instances only[Aa,Ab,Ac,Ad,Ae,Af,Ag];exact aa.neg rfl (aa.pos (by simp) (aa.some rfl))
 | true =>
  refine aa.toEq ?_;unfold vq;dsimp +instances only[Aa,Ab,Ac,Ad,Ae,Af,Ag];simp only[aK,mf hi,mf hk,fm];dsimp +instances only[Aa,Ab,Ac,Ad,Ae,Af,Ag];exact aa.pos rfl (aa.p (aa.p (aa.pos (by simp; omega) (aa.p (aa.pos (by simp) (aa.some rfl))))))
section
variable {a b:List (List G)} {X Y:List Nat} {F:Nat->Nat->Int}
theorem Uk(J:JC a b X Y)(off:Int)(v:dV F X.length Y.length (cJ a b X Y off) (wJ a b X Y))(out:List (List G))(ho:out.length<=100000){f i:Nat}(hi:i<X.length)(hf:f<=Y.length):∀ t k:Nat,k+t=Y.length ->
  aL sJ [.l a,.l b,.l (aN X),.l (aN Y),.i off,.l (dW F X.length Y.length 0),.l out,.i (f:Int),.i (i:Int),.i (k:Int),.i (X.length:Int),.i (i:Int)] (t+1)
   fun c g=>c=0/\g=[.l a,.l b,.l (aN X),.l (aN Y),.i off,.l (dW F X.length Y.length 0),.l (Ui X Y out i (fk (fA F (cJ a b X Y off) (wJ a b X Y) (F i f) i) k t)),.i (Uj f (fk (fA F (cJ a b X Y off) (wJ a b X Y) (F i f) i) k t):Int),.i (X.length:Int),.i (i:Int)]
 | 0,k,hk=>by
  refine aL.stop (x:=0) (aa.toEq ?_) ⟨rfl,rfl⟩;have nY:=J.nY;unfold sJ;dsimp +instances only[Aa,Ab,Ac,Ad,Ae,Af,Ag];simp only[fm];exact aa.n (aa.pos (by simp) (aa.some rfl))
 | t+1,k,hk=>by
  have nX:=J.nX;have nY:=J.nY;have q:k<Y.length:=by omega
  have hW:∀ i k,F i k<=10000000000*((X.length-i:Nat):Int):=fun i k=>v.le (W:=10000000000) (by omega) (fun i k=>by
   unfold wJ dQ;split<;>omega) _ i k rfl
  have b2:=v.Ka (i+1) (k+1);have b3:=hW (i+1) (k+1);have hwo : -2000000000000<=wJ a b X Y i k/\wJ a b X Y i k<=10000000000:=by
   have:=vY (J.vZ hi).2 (J.v_ q).2;unfold wJ;omega
  have V:((i:Int)+1).toNat=i+1:=by omega
  have e2:((k:Int)+1).toNat=k+1:=by omega
  have I:(dW F X.length Y.length 0).getD (i+1) []=[.l (eh F Y.length (i+1) 0)]:=by rw[Kh (by omega),if_pos (dX _)]
  have M:(dW F X.length Y.length 0).getD i []=[.l (eh F Y.length i 0)]:=by rw[Kh (by omega),if_pos (dX _)]
  have N:(eh F Y.length (i+1) 0).getD (k+1) []=[.i (F (i+1) (k+1))]:=by rw[zx (by omega),if_pos (dX _)]
  have O:(eh F Y.length i 0).getD f []=[.i (F i f)]:=by rw[zx (by omega),if_pos (dX _)]
  have U:∀ c:Bool,fA F (cJ a b X Y off) (wJ a b X Y) (F i f) i k=c->fk (fA F (cJ a b X Y off) (wJ a b X Y) (F i f) i) k (t+1)=bif c then some k else fk (fA F (cJ a b X Y off) (wJ a b X Y) (F i f) i) (k+1) t:=fun c hc=>by rw[<-hc]; rfl
  have go:fA F (cJ a b X Y off) (wJ a b X Y) (F i f) i k=false->aa (sJ [.l a,.l b,.l (aN X),.l (aN Y),.i off,.l (dW F X.length Y.length 0),.l out,.i (f:Int),.i (i:Int),.i (k:Int),.i (X.length:Int),.i (i:Int)])
    (fun o=>o=(none,[.l a,.l b,.l (aN X),.l (aN Y),.i off,.l (dW F X.length Y.length 0),.l out,.i (f:Int),.i (i:Int),.i ((k+1:Nat):Int),.i (X.length:Int),.i (i:Int)])):=fun d=>by
   unfold sJ;dsimp +instances only[Aa,Ab,Ac,Ad,Ae,Af,Ag];simp only[fm];refine aa.p ?_;refine aa.cE (Ue J off _ hi q) ?_;dsimp +instances only[Aa,Ab,Ac,Ad,Ae,Af,Ag];simp only[aK,V,e2,I,M];dsimp +instances only[Aa,Ab,Ac,Ad,Ae,Af,Ag];simp only[N,O,wa,qC];dsimp +instances only[Aa,Ab,Ac,Ad,Ae,Af,Ag];refine aa.test (fun h=>?_) fun h=>?_
   ·refine aa.p (aa.p (aa.p (aa.p (aa.pos (fg.2 ⟨by omega, by omega⟩) (aa.p (aa.p ?_))))))
    have y:(wJ a b X Y i k+F (i+1) (k+1)==F i f)=false:=by
     unfold fA at d
     rwa [h,jm]at d
    rw[y];refine aa.tail (P:=fun u g=>u=1/\g=[.l a,.l b,.l (aN X),.l (aN Y),.i off,.l (dW F X.length Y.length 0),.l out,.i (f:Int),.i (i:Int),.i (k:Int),.i (X.length:Int),.i (i:Int)]) ⟨_,Ki off hi q nY ho false,1,rfl,rfl,rfl⟩ (by simp) ?_;rintro _ _ ⟨rfl,rfl⟩;dsimp +instances only[Aa,Ab,Ac,Ad,Ae,Af,Ag];exact aa.neg rfl (aa.p (aa.pos (by simp) (aa.some rfl)))
   ·refine aa.tail (P := fun u g => u = 1 /\ g = [.l a, .l b, .l (aN X), .l (aN Y), .i off, .l (dW F X.length Y.length 0), .l out, .i (f : Int), .i (i : Int), .i (k : Int), .i (X.length : Int), .i (i : Int)]) ⟨_, Ki off hi q nY ho false, 1, rfl, rfl, rfl⟩ (by simp) ?_
    rintro _ _ ⟨rfl,rfl⟩;dsimp +instances only[Aa,Ab,Ac,Ad,Ae,Af,Ag];exact aa.neg rfl (aa.p (aa.pos (by simp) (aa.some rfl)))
  cases d:fA F (cJ a b X Y off) (wJ a b X Y) (F i f) i k with
  | false =>
   rw[U false d,cond_false];exact aL.next (aa.toEq (go d)) (Uk J off v out ho hi hf t (k+1) (by omega))
  | true =>
   rw[U true d,cond_true];obtain⟨o1,o2⟩:=sT.1 d;refine aL.stop (x:=0) (aa.toEq ?_) ⟨rfl,rfl⟩;unfold sJ;dsimp +instances only[Aa,Ab,Ac,Ad,Ae,Af,Ag];simp only[fm];refine aa.p ?_;refine aa.cE (Ue J off _ hi q) ?_;dsimp +instances only[Aa,Ab,Ac,Ad,Ae,Af,Ag];simp only[aK,V,e2,I,M];dsimp +instances only[Aa,Ab,Ac,Ad,Ae,Af,Ag];simp only[N,O,wa,qC];dsimp +instances only[Aa,Ab,Ac,Ad,Ae,Af,Ag];refine aa.pos o1 ?_;refine aa.p (aa.p (aa.p (aa.p (aa.pos (fg.2 ⟨by omega,by omega⟩) (aa.p (aa.p ?_))))));have y:(wJ a b X Y i k+F (i+1) (k+1)==F i f)=true:=by rw[beq_iff_eq]; exact o2
   rw[y];refine aa.tail (P:=fun u g=>u=0/\g=[.l a,.l b,.l (aN X),.l (aN Y),.i off,.l (dW F X.length Y.length 0),.l (out++[dH X Y (i,k)]),.i ((k+1:Nat):Int),.i (X.length:Int),.i (i:Int)]) ⟨_,Ki off hi q nY ho true,0,rfl,rfl,rfl⟩ (by simp) ?_;rintro _ _ ⟨rfl,rfl⟩;dsimp +instances only[Aa,Ab,Ac,Ad,Ae,Af,Ag];exact aa.pos rfl (aa.pos (by simp) (aa.some rfl))
theorem Kj(J:JC a b X Y)(off:Int)(k:dV F X.length Y.length (cJ a b X Y off) (wJ a b X Y)):∀(t i f:Nat) (out:List (List G)),i+t=X.length->f<=Y.length->out.length+t<=100000 ->
  aL vr [.l a,.l b,.l (aN X),.l (aN Y),.i off,.l (dW F X.length Y.length 0),.l out,.i (f:Int),.i (X.length:Int),.i (i:Int)] (t+1)
   fun c g=>c=0/\g=[.l a,.l b,.l (aN X),.l (aN Y),.i off,.l (dW F X.length Y.length 0),.l (out++(be F Y.length (cJ a b X Y off) (wJ a b X Y) t i f).map (dH X Y))]
 | 0,i,f,out,hi,u,ho=>by
  have e:out++(be F Y.length (cJ a b X Y off) (wJ a b X Y) 0 i f).map (dH X Y)=out:=by rw[be,k8,cB]
  rw[e];refine aL.stop (x:=0) (aa.toEq ?_) ⟨rfl,rfl⟩;unfold vr;dsimp +instances only[Aa,Ab,Ac,Ad,Ae,Af,Ag];exact aa.n (aa.pos (by simp) (aa.some rfl))
 | t+1,i,f,out,hi,u,ho=>by
  have nX:=J.nX;have nY:=J.nY;have v:=Uk J off k out (by omega) (f:=f) (i:=i) (by omega) u (Y.length-f) f (by omega);have step:∀ q,fk (fA F (cJ a b X Y off) (wJ a b X Y) (F i f) i) f (Y.length-f)=q->aa (vr [.l a,.l b,.l (aN X),.l (aN Y),.i off,.l (dW F X.length Y.length 0),.l out,.i (f:Int),.i (X.length:Int),.i (i:Int)])
    (fun o=>o=(none,[.l a,.l b,.l (aN X),.l (aN Y),.i off,.l (dW F X.length Y.length 0),.l (Ui X Y out i q),.i (Uj f q:Int),.i (X.length:Int),.i ((i+1:Nat):Int)])):=fun q d=>by
   rw[d]at v;unfold vr;dsimp +instances only[Aa,Ab,Ac,Ad,Ae,Af,Ag];refine aa.p ?_;refine aa.loop (v.to (by omega)) (by simp) ?_;rintro _ _ ⟨rfl,rfl⟩;dsimp +instances only[Aa,Ab,Ac,Ad,Ae,Af,Ag];exact aa.p (aa.pos (by simp) (aa.some rfl))
  cases d:fk (fA F (cJ a b X Y off) (wJ a b X Y) (F i f) i) f (Y.length-f)with
  | none =>
   have:=Kj J off k t (i+1) f out (by omega) u (by omega);rw[pc d];exact aL.next (aa.toEq (step none d)) this
  | some q =>
   obtain⟨y,I,_,_⟩:=qB d;have:=Kj J off k t (i+1) (q+1) (out++[dH X Y (i,q)]) (by omega) (by omega) (by simp; omega);rw[me d,bX];rw[fq]at this;exact aL.next (aa.toEq (step (some q) d)) this
theorem ajf(J:JC a b X Y)(off:Int)(d:dV F X.length Y.length (cJ a b X Y off) (wJ a b X Y)) :
  CQ [.l a,.l b,.l (aN X),.l (aN Y),.i off,.l []]=some [.l a,.l b,.l (aN X),.l (aN Y),.i off,.l (dW F X.length Y.length 0),.l ((be F Y.length (cJ a b X Y off) (wJ a b X Y) X.length 0 0).map (dH X Y))]:=by
 have nX:=J.nX;refine aa.toEq ?_;unfold CQ;dsimp +instances only[Aa,Ab,Ac,Ad,Ae,Af,Ag];refine aa.cE (aje J off d) ?_;dsimp +instances only[Aa,Ab,Ac,Ad,Ae,Af,Ag];simp only[fm];have h:=Kj J off d X.length 0 0 [] (by omega) (dX _) (by simp; omega);rw[iY]at h;refine aa.loop (h.to (by omega)) (by first|rfl|simp) ?_;rintro _ _ ⟨rfl,rfl⟩;dsimp +instances only[Aa,Ab,Ac,Ad,Ae,Af,Ag];exact aa.pos (by simp) (aa.some rfl)
end
abbrev GK:=ByteArray × Int
def dA(k:GK):List G:=[.s k.1,.i k.2]
theorem ajg(k:GK):a8 [.str,.int .i64] (dA k) (dA k)=true:=by
 show ((k.1.toList==k.1.toList)&&((k.2==k.2)&&true))=true
 simp
theorem ajh{k k':GK}(h:k≠k'):a8 [.str,.int .i64] (dA k) (dA k')=false:=by
 show ((k.1.toList==k'.1.toList)&&((k.2==k'.2)&&true))=false
 cases h1:k.1.toList==k'.1.toList with
 |false=>rfl
 | true =>
  cases d:k.2==k'.2 with
  |false=>rfl
  |true=>exact(h (Prod.ext (AY (eq_of_beq h1)) (eq_of_beq d))).elim
def iE(i:Nat)(e:GK × List Nat):List G:=[.l [dA e.1],.l [[.l (aN e.2)]],.i (i:Int),.t true]
def a_:Nat->List (GK × List Nat)->List (List G)
 |_,[]=>[]
 |i,e::L=>iE i e::a_ (i+1) L
theorem we:∀(i:Nat) (L:List (GK × List Nat)),(a_ i L).length=L.length
 |_,[]=>rfl
 |i,_::L=>by simp[a_,we (i+1) L]
theorem wg:∀(i:Nat) (A B:List (GK × List Nat)),a_ i (A++B)=a_ i A++a_ (i+A.length) B
 |i,[],B=>by simp[a_]
 | i,e::A,B=>by
  simp only[kY,a_,wg (i+1) A B,bG];rw[show i+1+A.length=i+(A.length+1) from by omega]
def j9(k:GK)(v:Nat):List (GK × List Nat)->List (GK × List Nat)
 | []=>[(k,[v])]
 |e::L=>if e.1=k then (e.1,e.2++[v])::L else e::j9 k v L
theorem Du(k:GK):∀ L:List (GK × List Nat),(∀ e∈L,e.1≠k)\/∃ A vs B,L=A++(k,vs)::B/\∀ e∈A,e.1≠k
 | []=>.inl fun e h=>by cases h
 | e::L=>by
  by_cases he:e.1=k
  ·exact .inr ⟨[],e.2,L,by rw[<-he]; rfl,fun e h=>by cases h⟩
  ·rcases Du k L with h | ⟨A, vs, B, rfl, h⟩
   ·exact .inl fun x d=>by
     rcases bC.1 d with rfl|d
     ·exact he
     ·exact h x d
   ·exact .inr ⟨e::A,vs,B,rfl,fun x d=>by
     rcases bC.1 d with rfl|d
     ·exact he
     ·exact h x d⟩
theorem Dv{k:GK}(v:Nat):∀{L:List (GK × List Nat)},(∀ e∈L,e.1≠k)->j9 k v L=L++[(k,[v])]
 | [],_=>rfl
 | e::L,h=>by
  rw[j9,if_neg (h e bZ),Dv v fun x d=>h x (cq _ d)];rfl
theorem Dw{k:GK}(v:Nat)(vs:List Nat)(B:List (GK × List Nat)):∀{A:List (GK × List Nat)},(∀ e∈A,e.1≠k)->j9 k v (A++(k,vs)::B)=A++(k,vs++[v])::B
 | [],_=>by rw[iY,j9,if_pos rfl,iY]
 | e::A,h=>by
  rw[kY,j9,if_neg (h e bZ),Dw v vs B fun x d=>h x (cq _ d)];rfl
theorem Kk(k:GK)(R:List (List G)):∀(A:List (GK × List Nat)) (i j:Nat),(∀ e∈A,e.1≠k)->bF [.str,.int .i64] (dA k) (a_ i A++R) j=bF [.str,.int .i64] (dA k) R (j+A.length)
 | [],_,_,_=>rfl
 | e::A,i,j,h=>by
  rw[a_,kY,bF,show (gi (iE i e) 0).row=dA e.1 from rfl,ajh (Ne.symm (h e bZ)),cond_false,Kk k R A (i+1) (j+1) fun x d=>h x (cq _ d),bG];congr 1;omega
theorem Ul{k:GK}{L:List (GK × List Nat)}(h:∀ e∈L,e.1≠k)(i j:Nat):bF [.str,.int .i64] (dA k) (a_ i L) j=none:=by
 have:=Kk k [] L i j h;rw[cB]at this;exact this
theorem Um{k:GK}{A:List (GK × List Nat)}(h:∀ e∈A,e.1≠k)(i:Nat)(r:List G)(hr:(gi r 0).row=dA k)(R:List (List G)):bF [.str,.int .i64] (dA k) (a_ i A++r::R) 0=some (A.length,r):=by
 rw[Kk k (r::R) A i 0 h,bF,hr,ajg,cond_true,cn]
theorem Un(R:List (List G)):∀(A:List (GK × List Nat)) (i j c:Nat),i+A.length<=c->gd (c:Int) (a_ i A++R) j=gd (c:Int) R (j+A.length)
 | [],_,_,_,_=>rfl
 | e::A,i,j,c,h=>by
  rw[bG]at h;have hb:(((gi (iE i e) 2).int.toNat:Int)==(c:Int))=false:=by
   show (((i:Int).toNat:Int)==(c:Int))=false
   rw[aK,beq_eq_false_iff_ne];omega
  rw[a_,kY,gd,hb,cond_false,Un R A (i+1) (j+1) c (by omega),bG];congr 1;omega
theorem Uo(A:List (GK × List Nat))(r:List G)(R:List (List G))(hr:(gi r 2).int=(A.length:Int)):gd (A.length:Int) (a_ 0 A++r::R) 0=some (A.length,r):=by
 rw[Un (r::R) A 0 0 A.length (by omega),gd,hr,aK,show ((A.length:Int)==(A.length:Int))=true from by simp,cond_true,cn]
theorem sU{α:Type}(p:List α)(x y:α)(q:List α)(n:Nat)(h:p.length=n):(p++x::q).set n y=p++y::q:=by
 subst h;rw[List.set_append_right _ _ (aB _),Nat.sub_self,List.set_cons_zero]
def qD(L:List (GK × List Nat)):Nat:=(L.map fun e=>e.2.length).sum
theorem aji{L:List (GK × List Nat)}{e:GK × List Nat}(h:e∈L):e.2.length<=qD L:=by
 induction L with
 |nil=>cases h
 | cons x L d =>
  unfold qD at d|-;rw[bX,WN];rcases bC.1 h with rfl|h
  ·omega
  ·have := d h
   omega
theorem Up(k:GK)(v:Nat):∀ L:List (GK × List Nat),qD (j9 k v L)=qD L+1
 | []=>rfl
 | e::L=>by
  have d:=Up k v L;rw[j9];split
  ·unfold qD
   simp;omega
  ·unfold qD at d |-
   rw[bX,WN,bX,WN,d];omega
theorem ajj(L:List (GK × List Nat))(k:GK)(v:Nat) :
  dO [.str,.int .i64] (a_ 0 L) (dA k)=true/\(ef [.str,.int .i64] (a_ 0 L) (dA k)).length<=qD L /\
   uo (oL [.str,.int .i64] (a_ 0 L) (dA k) L.length) (oK [.str,.int .i64] (a_ 0 L) (dA k) L.length:Nat)=true /\
   um (oL [.str,.int .i64] (a_ 0 L) (dA k) L.length) (oK [.str,.int .i64] (a_ 0 L) (dA k) L.length:Nat) (ef [.str,.int .i64] (a_ 0 L) (dA k)++[[.i (v:Int)]])=a_ 0 (j9 k v L) /\
   dE [.str,.int .i64] (a_ 0 L) (dA k) L.length=(j9 k v L).length:=by
 rcases Du k L with h1|⟨A,vs,B,rfl,I⟩
 ·have d := Ul h1 0 0
  have g:ef [.str,.int .i64] (a_ 0 L) (dA k)=[]:=by unfold ef; rw[d]
  have q:oL [.str,.int .i64] (a_ 0 L) (dA k) L.length=a_ 0 L++[[.l [dA k],.l [[.l []]],.i (L.length:Int),.t false]]:=by unfold oL; rw[d]
  have u:oK [.str,.int .i64] (a_ 0 L) (dA k) L.length=L.length:=by unfold oK; rw[d]
  have y:=Uo L [.l [dA k],.l [[.l []]],.i (L.length:Int),.t false] [] rfl;refine⟨by unfold dO; rw[d],by rw[g]; simp,?_,?_,?_⟩
  ·rw [q, u]
   unfold uo;rw[y];rfl
  ·rw [q, u, g, Dv v h1, wg]
   unfold um;rw[y];simp only[];rw[sU _ _ _ _ _ (we 0 L),cn];rfl
  ·rw [Dv v h1]
   unfold dE dK;rw[d];simp
 ·have d:bF [.str,.int .i64] (dA k) (a_ 0 (A++(k,vs)::B)) 0=some (A.length,iE A.length (k,vs)):=by
   rw[wg,a_,cn];exact Um I 0 (iE A.length (k,vs)) rfl _
  have g:ef [.str,.int .i64] (a_ 0 (A++(k,vs)::B)) (dA k)=aN vs:=by unfold ef; rw[d]; rfl
  have q:oL [.str,.int .i64] (a_ 0 (A++(k,vs)::B)) (dA k) (A++(k,vs)::B).length=a_ 0 A++[.l [dA k],.l [[.l (aN vs)]],.i (A.length:Int),.t false]::a_ (A.length+1) B:=by
   unfold oL;rw[d,wg,a_,cn];exact sU _ _ _ _ _ (we 0 A)
  have u:oK [.str,.int .i64] (a_ 0 (A++(k,vs)::B)) (dA k) (A++(k,vs)::B).length=A.length:=by
   unfold oK;rw[d];show ((A.length:Int).toNat)=A.length
   exact aK _
  have y:=Uo A [.l [dA k],.l [[.l (aN vs)]],.i (A.length:Int),.t false] (a_ (A.length+1) B) rfl;refine⟨by unfold dO; rw[d]; rfl,by rw[g,fm]; exact aji (e:=(k,vs)) (by simp),?_,?_,?_⟩
  ·rw [q, u]
   unfold uo;rw[y];rfl
  ·rw [q, u, g, Dw v vs B I, wg, a_, cn]
   unfold um;rw[y];simp only[];rw[sU _ _ _ _ _ (we 0 A)];have M:aN vs++[[G.i (v:Int)]]=aN (vs++[v]):=by unfold aN; rw[eO]; rfl
   rw[M];rfl
  ·rw [Dw v vs B I]
   unfold dE dK;rw[d];simp
def bo(r:List G):GK:=(aV r,j8 r)
def cP(l:List (List G))(s:ByteArray)(i:Nat):Bool:=(Ke (l.getD i [])).toList==s.toList
def nZ(l:List (List G))(s:ByteArray)(L:List (GK × List Nat))(i:Nat):List (GK × List Nat):=bif cP l s i then j9 (bo (l.getD i [])) i L else L
def mg(l:List (List G))(s:ByteArray)(n:Nat):List (GK × List Nat):=(dB n).foldl (nZ l s) []
theorem Kl(l:List (List G))(s:ByteArray)(n:Nat):mg l s (n+1)=nZ l s (mg l s n) n:=by
 unfold mg;rw[wN,al7];rfl
def cV(l:List (List G))(s:ByteArray)(k:GK)(n:Nat):List Nat:=(dB n).filter fun i=>cP l s i&&decide (bo (l.getD i [])=k)
theorem sV(l:List (List G))(s:ByteArray)(k:GK)(n:Nat):cV l s k (n+1)=cV l s k n++if cP l s n=true/\bo (l.getD n [])=k then [n] else []:=by
 unfold cV;rw[wN,List.filter_append];congr 1;by_cases h1:cP l s n=true
 ·by_cases d : bo (l.getD n []) = k
  ·rw[if_pos ⟨h1,d⟩,tm,if_pos (by rw[h1,jm,decide_eq_true_eq]; exact d),WQ]
  ·rw[if_neg fun e=>d e.2,tm,if_neg (by rw[h1,jm,decide_eq_true_eq]; exact d),WQ]
 ·rw[if_neg fun e=>h1 e.1,tm,if_neg (by rw[ax]; exact fun e=>h1 e.1),WQ]
structure GI (l:List (List G)) (s:ByteArray) (n:Nat) (L:List (GK × List Nat)):Prop where
 Km:qD L<=n
 len:L.length<=n
 nd:(L.map (·.1)).Nodup
 j_:∀ e∈L,e.2=cV l s e.1 n/\e.2≠[]
 all:∀ k,cV l s k n≠[]->∃ e∈L,e.1=k
theorem GI.zero(l:List (List G))(s:ByteArray):GI l s 0 []:=⟨aB _,aB _,by simp,by simp,fun k h=>(h rfl).elim⟩
theorem GI.step{l:List (List G)}{s:ByteArray}{n:Nat}{L:List (GK × List Nat)}(h:GI l s n L):GI l s (n+1) (nZ l s L n):=by
 unfold nZ;cases hw:cP l s n with
 | false =>
  have e:∀ k,cV l s k (n+1)=cV l s k n:=fun k=>by rw[sV,if_neg (by rw[hw]; simp),cB]
  exact⟨Au h.Km,Au h.len,h.nd,fun x d=>by rw[e]; exact h.j_ x d,fun k hk=>by rw[e]at hk; exact h.all k hk⟩
 | true =>
  rw[cond_true];have v:cV l s (bo (l.getD n [])) (n+1)=cV l s (bo (l.getD n [])) n++[n]:=by rw[sV,if_pos ⟨hw,rfl⟩]
  have q:∀ k,bo (l.getD n [])≠k->cV l s k (n+1)=cV l s k n:=fun k hk=>by rw[sV,if_neg (fun e=>hk e.2),cB]
  have I:=Up (bo (l.getD n [])) n L;have U:=h.Km;have N:=h.len;rcases Du (bo (l.getD n [])) L with h1|⟨A,vs,B,rfl,M⟩
  ·rw [Dv n h1] at I |-
   refine⟨by omega,by simp; omega,?_,fun x d=>?_,fun k hk=>?_⟩
   ·rw [eO, Eh]
    refine⟨h.nd,by simp,fun a ha b hb=>?_⟩;obtain⟨e,he,rfl⟩:=cH.1 ha;simp at hb;subst hb;exact h1 e he
   ·rcases cw.1 d with d | d
    ·rw [q x.1 (Ne.symm (h1 x d))]
     exact h.j_ x d
    ·have d := iZ.1 d
     subst d;show [n]=cV l s (bo (l.getD n [])) (n+1)/\[n]≠[]
     rw[v];have:cV l s (bo (l.getD n [])) n=[]:=by
      cases O:cV l s (bo (l.getD n [])) n with
      |nil=>rfl
      | cons y V =>
       obtain⟨e,he,hk⟩:=h.all (bo (l.getD n [])) (by rw[O]; simp);exact(h1 e he hk).elim
     rw[this];simp
   ·by_cases e : bo (l.getD n []) = k
    ·exact⟨_,oq _ bZ,e⟩
    ·rw [q k e] at hk
     obtain⟨x,d,g⟩:=h.all k hk;exact⟨x,my _ d,g⟩
  ·rw [Dw n vs B M] at I |-
   have u:=h.nd;rw[eO,bX]at u;have hB:∀ e∈B,e.1≠bo (l.getD n []):=fun e he hk=>by
    have:=(Eh.1 u).2.1;rw[nq]at this;exact this.1 (hk▸cH.2 ⟨e,he,rfl⟩)
   refine⟨by omega,by simp at N|-; omega,?_,fun x d=>?_,fun k hk=>?_⟩
   ·rw [eO, bX]
    exact u
   ·rcases cw.1 d with d | d
    ·rw [q x.1 (Ne.symm (M x d))]
     exact h.j_ x (my _ d)
    ·rcases bC.1 d with rfl | d
     ·have := h.j_ (bo (l.getD n []), vs) (by simp)
      simp only at this|-;rw[v,<-this.1];simp
     ·rw [q x.1 (Ne.symm (hB x d))]
      exact h.j_ x (oq _ (cq _ d))
   ·by_cases e : bo (l.getD n []) = k
    ·exact⟨_,oq _ bZ,e⟩
    ·rw [q k e] at hk
     obtain⟨x,d,g⟩:=h.all k hk;rcases cw.1 d with d|d
     ·exact⟨x,my _ d,g⟩
     ·rcases bC.1 d with rfl | d
      ·exact(e g).elim
      ·exact⟨x,oq _ (cq _ d),g⟩
theorem GI.to(l:List (List G))(s:ByteArray):∀ n,GI l s n (mg l s n)
 |0=>GI.zero l s
 | n+1=>by
  rw[Kl];exact(GI.to l s n).step
def c5(l:List (List G))(s:ByteArray):List (GK × List Nat):=mg l s l.length
theorem ajk(l:List (List G))(I:l.length<=100000)(s:ByteArray) :
  iv vn [.l [],.i 0,.s s,.l l,.i (l.length:Int),.i 0] fun c g=>c=0/\g=[.l (a_ 0 (c5 l s)),.i ((c5 l s).length:Int)]:=by
 have r:=qs (st:=vn) (σ:=List (GK × List Nat)) (fun L i=>[.l (a_ 0 L),.i (L.length:Int),.s s,.l l,.i (l.length:Int),.i (i:Int)]) l (fun L=>(0,[.l (a_ 0 L),.i (L.length:Int)]))
  (fun L i=>L=mg l s i) [] (by omega) rfl
  (fun L i z d hi q hm M => by
   have u:=GI.to l s i;rw[<-d]at u;have N:=u.Km;have k:nZ l s L i=mg l s (i+1):=by rw[Kl,d]
   obtain⟨v,a2,a3,a4,a5⟩:=ajj L (bo z) i;unfold vn;dsimp +instances only[Aa,Ab,Ac,Ad,Ae,Af,Ag];simp only[aK,q];refine aa.p (aa.p ?_);have y:([.s (gi z 2).str,.i (gi z 1).int]:List G)=dA (bo z):=rfl;rw[y,a4,a5];refine aa.test (fun h=>?_) fun h=>?_
   ·have e:nZ l s L i=j9 (bo z) i L:=by
     unfold nZ cP;rw[q,show ((Ke z).toList==s.toList)=true from h,cond_true]
    rw[e]at k;exact aa.pos v (aa.pos (by simp; omega) (aa.pos (by rw[a3]; simp) (aa.p (aa.some ⟨_,rfl,k⟩))))
   ·have e:nZ l s L i=L:=by
     unfold nZ cP;rw[q,show ((Ke z).toList==s.toList)=false from h,cond_false]
    rw[e]at k;exact aa.p (aa.some ⟨L,rfl,k⟩))
  (fun L d => by
   unfold vn;dsimp +instances only[Aa,Ab,Ac,Ad,Ae,Af,Ag];simp only[aK];exact aa.n (aa.some rfl))
 refine r.mono ?_;rintro c g ⟨L,d,rfl,rfl⟩;exact⟨rfl,by rw[d]; rfl⟩
theorem Uq:∀(i:Nat) (L:List (GK × List Nat)),ql (a_ i L)=true
 |_,[]=>rfl
 | i,e::L=>by
  have:=Uq (i+1) L;unfold ql at this|-;rw[a_,List.all_cons,this];rfl
theorem Dx(l:List (List G))(d:l.length<=100000)(s:ByteArray):sI [.l l,.s s]=some [.l (a_ 0 (c5 l s)),.i ((c5 l s).length:Int)]:=by
 refine aa.toEq ?_;unfold sI;dsimp +instances only[Aa,Ab,Ac,Ad,Ae,Af,Ag];refine aa.loop (ajk l d s) (by first|rfl|simp) ?_;rintro _ _ ⟨rfl,rfl⟩;dsimp +instances only[Aa,Ab,Ac,Ad,Ae,Af,Ag];simp only[aK];exact aa.pos (by rw[Uq]; rfl) (aa.some rfl)
theorem Ur(l:List (List G))(s:ByteArray)(k:GK):cS [.str,.int .i64] (a_ 0 (c5 l s)) (dA k) [.l []]=[.l (aN (cV l s k l.length))]:=by
 have g:=GI.to l s l.length;show cS [.str,.int .i64] (a_ 0 (mg l s l.length)) (dA k) [.l []]=_
 rcases Du k (mg l s l.length)with h1|⟨A,vs,B,he,q⟩
 ·have:cV l s k l.length=[]:=by
   cases d:cV l s k l.length with
   |nil=>rfl
   | cons y v =>
    obtain⟨e,he,hk⟩:=g.all k (by rw[d]; simp);exact(h1 e he hk).elim
  unfold cS;rw[Ul h1,this];rfl
 ·have u:bF [.str,.int .i64] (dA k) (a_ 0 (mg l s l.length)) 0=some (A.length,iE A.length (k,vs)):=by
   rw[he,wg,a_,cn];exact Um q 0 (iE A.length (k,vs)) rfl _
  have d:=g.j_ (k,vs) (by rw[he]; simp);unfold cS;rw[u];show [G.l (aN vs)]=_
  rw[show vs=cV l s k l.length from d.1]
def zy(A B:List (List G))(off:Int)(X Y:List Nat):List (Nat × Nat):=be (kN X.length Y.length (cJ A B X Y off) (wJ A B X Y)) Y.length (cJ A B X Y off) (wJ A B X Y) X.length 0 0
def bI(A:List (List G))(bc:ByteArray)(k:GK):List Nat:=cV A bc k A.length
def fC(A B:List (List G))(ac bc:ByteArray)(off:Int)(k:GK):List (List G):=(zy A B off (bI A bc k) (bI B ac k)).map (dH (bI A bc k) (bI B ac k))
def fK(A B:List (List G))(ac bc:ByteArray)(off:Int):List (List G):=((c5 A bc).map fun e=>fC A B ac bc off e.1).flatten
def kO(r s:List G):Int:=eY (gi r 0).int (gi s 0).int
def gA(A B:List (List G))(ac bc:ByteArray)(off:Int):List (List G):=dG (cf kO) (fK A B ac bc off)
theorem lA{A:List (List G)}{s:ByteArray}{k:GK}{i:Nat}:i∈bI A s k↔i<A.length/\cP A s i=true/\bo (A.getD i [])=k:=by
 unfold bI cV;rw[List.mem_filter,fu,ax,decide_eq_true_eq]
theorem zz(A:List (List G))(s:ByteArray)(k:GK):(bI A s k).length<=A.length:=by
 unfold bI cV;have:=List.length_filter_le (fun i=>cP A s i&&decide (bo (A.getD i [])=k)) (dB A.length)
 rwa [mr]at this
theorem Dy(A:List (List G))(s:ByteArray)(k:GK):(bI A s k).Pairwise (·<·):=(List.pairwise_lt_range).filter _
structure fo (A B:List (List G)):Prop where
 ha:∀ z∈A,fJ z
 hb:∀ z∈B,fJ z
 na:A.length<=1000
 nb:B.length<=1000
theorem fo.flip{A B:List (List G)}(h:fo A B):fo B A:=⟨h.hb,h.ha,h.nb,h.na⟩
theorem fo.jc{A B:List (List G)}(h:fo A B)(ac bc:ByteArray)(k:GK):JC A B (bI A bc k) (bI B ac k):=by
 have h1:=h.na;have d:=h.nb;have g:=zz A bc k;have q:=zz B ac k;exact⟨h.ha,h.hb,fun i hi=>(lA.1 hi).1,fun i hi=>(lA.1 hi).1,by omega,by omega,by omega,by omega⟩
theorem Dz{A B:List (List G)}{off:Int}{X Y:List Nat}{x:Nat × Nat}(h:x∈zy A B off X Y):x.1<X.length/\x.2<Y.length/\cJ A B X Y off x.1 x.2=true:=by
 obtain⟨_,b,_,d,e⟩:=pd _ _ _ x h;exact⟨by omega,d,e⟩
theorem Us(A B:List (List G))(off:Int)(X Y:List Nat):(zy A B off X Y).length<=X.length:=by
 have key:∀(F:Nat->Nat->Int) (m:Nat) (ok:Nat->Nat->Bool) (w:Nat->Nat->Int) (t i f:Nat),(be F m ok w t i f).length<=t:=by
  intro F m ok w t
  induction t with
  |zero=>intro i f; exact aB _
  | succ t d =>
   intro i f;rw[be];split
   ·rw [bG]
    exact Nat.succ_le_succ (d _ _)
   ·exact Au (d _ _)
 exact key _ _ _ _ _ _ _
def zA(r:List G):Prop:=∃ i k:Nat,r=[.i (i:Int),.i (k:Int)]/\i<=100000/\k<=100000
theorem ajl:su vt zA kO:=by
 rintro _ _ ⟨i,k,rfl,h1,g⟩ ⟨d,k',rfl,q,u⟩;refine⟨(i:Int)-(d:Int),?_,?_⟩
 ·refine aa.toEq ?_
  unfold vt;dsimp +instances only[Aa,Ab,Ac,Ad,Ae,Af,Ag];exact aa.pos (fg.2 ⟨by omega,by omega⟩) (aa.some rfl)
 ·show (i : Int) - (d : Int) < 0 ↔ eY (i : Int) (d : Int) < 0
  rw[sS];omega
theorem zB:gf (cf kO) (fun _=>True):=ai7 (fun a b=>Uc.flip _ _) fun a b d h1 g=>Uc.le _ _ _ h1 g
theorem Kn{A B:List (List G)}(h:fo A B){ac bc:ByteArray}{off:Int}{k:GK}{r:List G}(hr:r∈fC A B ac bc off k) :
  ∃ i j:Nat,r=[.i (i:Int),.i (j:Int)]/\i∈bI A bc k/\j∈bI B ac k/\nV off (A.getD i []) (B.getD j [])=true:=by
 obtain⟨x,d,rfl⟩:=cH.1 hr;obtain⟨a,b,c⟩:=Dz d;exact⟨_,_,rfl,lz a,lz b,c⟩
theorem DA{A B:List (List G)}(h:fo A B){ac bc:ByteArray}{off:Int}{r:List G}(hr:r∈fK A B ac bc off) :
  ∃(k:GK) (i j:Nat),r=[.i (i:Int),.i (j:Int)]/\i∈bI A bc k/\j∈bI B ac k/\nV off (A.getD i []) (B.getD j [])=true:=by
 obtain⟨l,d,hr⟩:=D7.1 hr;obtain⟨e,_,rfl⟩:=cH.1 d;obtain⟨i,j,h1⟩:=Kn h hr;exact⟨_,i,j,h1⟩
theorem wh{A B:List (List G)}(h:fo A B){ac bc:ByteArray}{off:Int}:∀ r∈fK A B ac bc off,zA r:=fun r hr=>by
 obtain⟨k,i,j,rfl,h1,d,_⟩:=DA h hr;have:=(lA.1 h1).1;have:=(lA.1 d).1;have:=h.na;have:=h.nb;exact⟨i,j,rfl,by omega,by omega⟩
theorem DB{A B:List (List G)}(h:fo A B)(ac bc:ByteArray)(off:Int):(fK A B ac bc off).Pairwise fun a b=>(gi a 0).int≠(gi b 0).int:=by
 have M:=GI.to A bc A.length;unfold fK;rw[List.pairwise_flatten];refine⟨fun l N=>?_,?_⟩
 ·obtain ⟨e, _, rfl⟩ := cH.1 N
  unfold fC;rw[wO];refine(Kc _ _ _).imp_of_mem fun {x y} d g u he=>?_;obtain⟨k,_,_⟩:=Dz (A:=A) (B:=B) (off:=off) d;obtain⟨b1,_,_⟩:=Dz (A:=A) (B:=B) (off:=off) g;have he:(((bI A bc e.1).getD x.1 0:Nat):Int)=(((bI A bc e.1).getD y.1 0:Nat):Int):=he;have hr:=Ll.1 (Dy A bc e.1) x.1 y.1 k b1 u.1;rw[bP,bx k,bP,bx b1]at he;simp only[Option.getD_some]at he;omega
 ·rw [wO]
  have v:(c5 A bc).Pairwise fun e e'=>e.1≠e'.1:=by
   have:=M.nd;unfold Lr at this
   rwa [wO]at this
  refine v.imp fun {e e'} I x d y g he=>?_;obtain⟨i,j,rfl,h1,_⟩:=Kn h d;obtain⟨q,U,rfl,O,_⟩:=Kn h g;have he:(i:Int)=(q:Int):=he;have he:i=q:=by omega
  subst he;exact I ((lA.1 h1).2.2.symm.trans (lA.1 O).2.2)
theorem DC{A B:List (List G)}(h:fo A B)(ac bc:ByteArray)(off:Int):∀ a∈fK A B ac bc off,∀ b∈fK A B ac bc off,cf kO a b=false->cf kO b a=false->a=b:=by
 intro a ha b hb h1 d;unfold cf kO at h1 d;rw[cd,decide_eq_false_iff_not,sS]at h1 d;have he:(gi a 0).int=(gi b 0).int:=by omega
 obtain⟨i,hi,rfl⟩:=pj ha;obtain⟨j,k,rfl⟩:=pj hb;have q:=Ll.1 (DB h ac bc off);rcases Eg i j with g|g|g
 ·exact(q i j hi k g he).elim
 ·subst g; rfl
 ·exact(q j i k hi g he.symm).elim
theorem ajm{A B:List (List G)}(h:fo A B)(ac bc:ByteArray)(off:Int){out:List (List G)}(d:out.Perm (fK A B ac bc off))(g:out.length<100000):yT [.l out]=some [.l (gA A B ac bc off)]:=by
 have h1:=PI (C:=vt) (Q:=zA) ajl (zB.mono fun _ _=>trivial) out (fun y k=>wh h y (d.mem_iff.1 k)) g fun a ha b hb=>DC h ac bc off a (d.mem_iff.1 ha) b (d.mem_iff.1 hb);unfold yT;rw[h1];have e:dG (cf kO) (fK A B ac bc off)=dG (cf kO) out:=PG zB d.symm (fun _ _=>trivial) (DC h ac bc off);rw[<-e];rfl
def sW(r:List G):GK:=((gi (gi r 0).row 0).str,(gi (gi r 0).row 1).int)
theorem Ko:∀(i:Nat) (L:List (GK × List Nat)) (r:List G),r∈a_ i L->∃(j:Nat) (e:GK × List Nat),e∈L/\r=iE j e
 |_,[],_,h=>by cases h
 | i,e::L,r,h=>by
  rcases bC.1 h with rfl|h
  ·exact⟨i,e,bZ,rfl⟩
  ·obtain ⟨j, e', h1, d⟩ := Ko (i + 1) L r h
   exact⟨j,e',cq _ h1,d⟩
theorem Ut{β:Type}(f:GK->β):∀(i:Nat) (L:List (GK × List Nat)),(a_ i L).map (fun r=>f (sW r))=L.map fun e=>f e.1
 |_,[]=>rfl
 | i,e::L=>by
  simp only[a_,bX,Ut f (i+1) L];rfl
theorem Uu:∀(i:Nat) (L:List (GK × List Nat)),(a_ i L).map dF=(dB L.length).map (i+·)
 |_,[]=>rfl
 | i,e::L=>by
  simp only[a_,bX,Uu (i+1) L,bG,List.range_succ_eq_map,List.map_map];rw[show dF (iE i e)=i from by simp[dF,iE,gi,G.int]];congr 1;refine List.map_congr_left fun x _=>?_;simp only[Ak];omega
theorem DD:∀ l:List Nat,l.Nodup->nodupB l=true
 | [],_=>rfl
 | a::l,d=>by
  obtain⟨h1,g⟩:=nq.1 d;simp only[nodupB,DD l g,gD,Bool.not_eq_true'];cases k:l.any (ai a)with
  |false=>rfl
  | true =>
   obtain⟨x,q,e⟩:=lI.1 k;rw[Nat.eq_of_beq_eq_true e]at h1;exact(h1 q).elim
theorem Uv(L:List (GK × List Nat)):mU (a_ 0 L) L.length=true:=by
 have hb:(a_ 0 L).map dF=dB L.length:=by
  rw[Uu];simp
 unfold mU;rw[hb,ax];refine⟨DD _ List.nodup_range,?_⟩;rw[da];intro r hr;have:dF r∈(a_ 0 L).map dF:=cH.2 ⟨r,hr,rfl⟩;rw[hb,fu]at this;simpa using this
theorem DE{st:List G->List G->Option (List G)}{bl:List G->Nat}{r:List G}{q:List (List G)}{d d':List G}(h:st r d=some d')(ha:bl d'=bl d):eC st bl (r::q) d=eC st bl q d':=by
 simp only[eC,h];rw[ha,show ai (bl d) (bl d)=true from fe _,cond_true]
theorem Uw{A B:List (List G)}(h:fo A B)(ac bc:ByteArray)(off:Int)(clk bl:Nat):∀(q out:List (List G)),(∀ r∈q,r∈a_ 0 (c5 A bc))->out.length+1000*q.length<=1000000 ->
  eC CR (fun d=>(gi d 8).int.toNat) q [.s ac,.l A,.s bc,.l B,.l (a_ 0 (c5 B ac)),.i (clk:Int),.l out,.i off,.i (bl:Int)] =
   some [.s ac,.l A,.s bc,.l B,.l (a_ 0 (c5 B ac)),.i (clk:Int),.l (out++(q.map fun r=>fC A B ac bc off (sW r)).flatten),.i off,.i (bl:Int)]
 | [],out,_,_=>by simp[eC]
 | r::q,out,g,k=>by
  simp only[bG]at k;obtain⟨j,e,he,rfl⟩:=Ko 0 _ r (g r bZ);have u:=(GI.to A bc A.length).j_ e he;have hk:sW (iE j e)=e.1:=rfl;have hX:e.2=bI A bc e.1:=u.1;have J:=h.jc ac bc e.1;have hlen:(fC A B ac bc off e.1).length<=1000:=by
   unfold fC;rw[bN];exact lD (Us _ _ _ _ _) J.nX
  have st:CR (iE j e) [.s ac,.l A,.s bc,.l B,.l (a_ 0 (c5 B ac)),.i (clk:Int),.l out,.i off,.i (bl:Int)]=some [.s ac,.l A,.s bc,.l B,.l (a_ 0 (c5 B ac)),.i (clk:Int),.l (out++fC A B ac bc off e.1),.i off,.i (bl:Int)]:=by
   have v:(gi (gi (iE j e) 1).row 0).rows=aN e.2:=rfl;have y:aT [.str,.int .i64] (gi (iE j e) 0).row=dA e.1:=rfl;refine aa.toEq ?_;unfold CR;rw[v,y];dsimp +instances only[Aa,Ab,Ac,Ad,Ae,Af,Ag];rw[Ur,hX];dsimp +instances only[Aa,Ab,Ac,Ad,Ae,Af,Ag];refine aa.cE (ajf J off (Dt _ _ _ _)) ?_;dsimp +instances only[Aa,Ab,Ac,Ad,Ae,Af,Ag];simp only[aK];exact aa.pos (by
    show ((ai out.length out.length)&&decide (out.length+(fC A B ac bc off e.1).length<=1048576))=true
    rw[fe,jm,decide_eq_true_eq];omega) (aa.pos (by rw[fe]; rfl) (aa.some rfl))
  rw[DE st rfl,Uw h ac bc off clk bl q _ (fun x I=>g x (cq _ I)) (by rw[en]; omega)];rw[bX,List.flatten_cons,hk,fq]
theorem zC:∀(n:Nat) (l:List Nat),l.Nodup->(∀ x∈l,x<n)->l.length<=n
 | 0,l,_,h=>by
  cases l with
  |nil=>exact aB _
  |cons x l=>exact absurd (h x bZ) (by omega)
 | n+1,l,g,h=>by
  by_cases hm:n∈l
  ·have h1:=zC n (l.erase n) (g.erase n) fun x d=>by
    have k:=h x (List.mem_of_mem_erase d);have q:x≠n:=fun e=>by
     subst e;exact(List.Nodup.not_mem_erase g) d
    omega
   rw[List.length_erase_of_mem hm]at h1;omega
  ·have:=zC n l g fun x d=>by
    have k:=h x d;have q:x≠n:=fun e=>hm (e▸d);omega
   omega
theorem ajn{A B:List (List G)}(h:fo A B)(ac bc:ByteArray)(off:Int) :
  Ix [.s ac,.l A,.s bc,.l B,.l (a_ 0 (c5 A bc)),.i ((c5 A bc).length:Int),.l (a_ 0 (c5 B ac)),.i ((c5 B ac).length:Int),.l [],.i off]=some (some 0,[.l (gA A B ac bc off)]):=by
 have N:=GI.to A bc A.length;have O:=N.len;have na:=h.na;show lv CS CT (a_ 0 (c5 A bc)) (((c5 A bc).length:Int).toNat) _=_
 rw[aK];refine Cq (Uv _) fun b p g=>⟨rfl,?_⟩
 have hpn:p.length<=1000:=by
  have:=g.length_eq;rw[we]at this;have:(c5 A bc).length<=A.length:=O;omega
 have q:((p.map fun r=>fC A B ac bc off (sW r)).flatten).Perm (fK A B ac bc off):=by
  unfold fK;rw[<-Ut (fun k=>fC A B ac bc off k) 0 (c5 A bc)];exact(g.map _).flatten
 have W:(fK A B ac bc off).length<=1000:=by
  have I:((fK A B ac bc off).map fun r=>(gi r 0).int.toNat).Nodup:=by
   unfold Lr;rw[wO];refine(DB h ac bc off).imp_of_mem fun {x y} d U M he=>M ?_;obtain⟨i,k,rfl,_⟩:=wh h x d;obtain⟨u,k',rfl,_⟩:=wh h y U;have he:((i:Int)).toNat=((u:Int)).toNat:=he;show (i:Int)=(u:Int)
   omega
  have v:((fK A B ac bc off).map fun r=>(gi r 0).int.toNat) ⊆ dB A.length:=by
   intro x d;obtain⟨r,hr,rfl⟩:=cH.1 d;obtain⟨k,i,j,rfl,h1,_⟩:=DA h hr;rw[fu];exact(lA.1 h1).1
  have:=zC A.length _ I fun x d=>fu.1 (v d);rw[bN]at this;omega
 refine⟨_,Uw h ac bc off (c5 B ac).length b p [] (fun r hr=>g.mem_iff.1 hr) (by simp; omega),?_⟩;rw[iY];refine aa.toEq ?_;unfold CT;dsimp +instances only[Aa,Ab,Ac,Ad,Ae,Af,Ag];have V:=q.length_eq;refine aa.nO (aa.eq (ajm h ac bc off q (by omega))) (by simp) ?_;rintro _ rfl;dsimp +instances only[Aa,Ab,Ac,Ad,Ae,Af,Ag];refine aa.pos ?_ (aa.some rfl);rw[V];unfold gA;rw[Cj,fe];rfl
theorem Ux{A B:List (List G)}(h:fo A B)(ac bc:ByteArray)(off:Int):yV [.l [[.s ac,.l A]],.l [[.s bc,.l B]],.i off]=some [.l (gA A B ac bc off)]:=by
 have na:=h.na;have nb:=h.nb;refine aa.toEq ?_;unfold yV;dsimp +instances only[Aa,Ab,Ac,Ad,Ae,Af,Ag];refine aa.cE (Dx A (by omega) bc) ?_;dsimp +instances only[Aa,Ab,Ac,Ad,Ae,Af,Ag];refine aa.cE (Dx B (by omega) ac) ?_;dsimp +instances only[Aa,Ab,Ac,Ad,Ae,Af,Ag];simp only[aK];refine aa.tail (P:=fun u g=>u=0/\g=[.l (gA A B ac bc off)]) ⟨_,ajn h ac bc off,0,rfl,rfl,rfl⟩ (by first|rfl|simp) ?_;rintro _ _ ⟨rfl,rfl⟩;dsimp +instances only[Aa,Ab,Ac,Ad,Ae,Af,Ag];exact aa.pos (by simp) (aa.some rfl)
theorem Uy{off:Int}{p q:List G}:nV off p q=true↔aV p=aV q/\j8 p=j8 q/\dQ p q<=off:=by
 unfold nV;rw[qA,ax,ax,eT,decide_eq_true_eq,decide_eq_true_eq,beq_iff_eq]
theorem ajo{A B:List (List G)}{ac bc:ByteArray}{off:Int}{r:List G}:r∈fK A B ac bc off↔∃ k,r∈fC A B ac bc off k:=by
 constructor
 ·intro h
  obtain⟨l,g,hr⟩:=D7.1 h;obtain⟨e,_,rfl⟩:=cH.1 g;exact⟨_,hr⟩
 ·rintro ⟨k, h⟩
  have h':=h;unfold fC at h';obtain⟨x,q,_⟩:=cH.1 h';have h1:=(Dz q).1;obtain⟨e,he,rfl⟩:=(GI.to A bc A.length).all k (by
   intro d;have d:bI A bc k=[]:=d;rw[d]at h1;simp at h1)
  exact D7.2 ⟨_,cH.2 ⟨e,he,rfl⟩,h⟩
theorem Kp(A B:List (List G))(ac bc:ByteArray)(off:Int):(gA A B ac bc off).Perm (fK A B ac bc off):=u3 (lt:=cf kO) _
theorem ajp{A B:List (List G)}(h:fo A B)(ac bc:ByteArray)(off:Int):(gA A B ac bc off).Pairwise fun a b=>(gi a 0).int<(gi b 0).int:=by
 have h1:=Cp (lt:=cf kO) zB (l:=fK A B ac bc off) (fun _ _=>trivial);have g:(gA A B ac bc off).Pairwise fun a b=>(gi a 0).int≠(gi b 0).int:=(DB h ac bc off).perm (Kp A B ac bc off).symm (fun d e=>d e.symm);refine h1.imp₂ (fun {a b} g1 g2=>?_) g;unfold cf kO at g1;rw[cd,decide_eq_false_iff_not,sS]at g1;omega
theorem DF{A B:List (List G)}(h:fo A B){ac bc:ByteArray}{off:Int}{r:List G}(hr:r∈gA A B ac bc off) :
  ∃ i j:Nat,r=[.i (i:Int),.i (j:Int)]/\i<A.length/\j<B.length/\cP A bc i=true/\cP B ac j=true/\nV off (A.getD i []) (B.getD j [])=true:=by
 obtain⟨k,i,j,rfl,h1,g,q⟩:=DA h ((Kp A B ac bc off).mem_iff.1 hr);have d:=lA.1 h1;have a2:=lA.1 g;exact⟨i,j,rfl,d.1,a2.1,d.2.1,a2.2.1,q⟩
theorem Uz{A B:List (List G)}(h:fo A B)(ac bc:ByteArray)(off:Int):(gA A B ac bc off).length<=A.length:=by
 have g:((gA A B ac bc off).map fun r=>(gi r 0).int.toNat).Nodup:=by
  unfold Lr;rw[wO];refine((ajp h ac bc off).imp_of_mem ?_);intro a b ha hb k e;obtain⟨i,j,rfl,_⟩:=DF h ha;obtain⟨d,u,rfl,_⟩:=DF h hb;have v:((i:Int)).toNat=((d:Int)).toNat:=e;have e':i=d:=by omega
  subst e';exact absurd k (Int.lt_irrefl _)
 have:=zC A.length _ g fun x q=>by
  obtain⟨r,hr,rfl⟩:=cH.1 q;obtain⟨i,j,rfl,hi,_⟩:=DF h hr;show ((i:Int).toNat)<_
  rwa [aK]
 simpa using this
theorem qE(ks:List Kd)(r:List G)(rs:List (List G))(key:List G):ef ks (r::rs) key=bif a8 ks key (gi r 0).row then jg r else ef ks rs key:=by
 unfold ef;simp only[bF];cases a8 ks key (gi r 0).row with
 |true=>rfl
 | false =>
  simp only[cond_false];rw[oX ks key rs (0+1)];cases bF ks key rs 0<;>rfl
theorem qF(ks:List Kd)(r:List G)(rs:List (List G))(key:List G):dO ks (r::rs) key=bif a8 ks key (gi r 0).row then (gi r 3).bool else dO ks rs key:=by
 unfold dO;simp only[bF];cases a8 ks key (gi r 0).row with
 |true=>rfl
 | false =>
  simp only[cond_false];rw[oX ks key rs (0+1)];cases bF ks key rs 0<;>rfl
theorem UA(ks:List Kd)(r:List G)(rs:List (List G))(key:List G):fH ks (r::rs) key=bif a8 ks key (gi r 0).row then [gi r 0,gi r 1,gi r 2,.t false]::rs else r::fH ks rs key:=by
 unfold fH;simp only[bF];cases a8 ks key (gi r 0).row with
 |true=>rfl
 | false =>
  simp only[cond_false];rw[oX ks key rs (0+1)];cases bF ks key rs 0<;>rfl
theorem UB(ks:List Kd)(r:List G)(rs:List (List G))(key:List G)(v:List (List G))(c:Nat):mP ks (r::rs) key v c=bif a8 ks key (gi r 0).row then [.l [key],.l [[.l v]],.i (gi r 2).int,.t true]::rs else r::mP ks rs key v c:=by
 unfold mP;simp only[bF];cases a8 ks key (gi r 0).row with
 |true=>rfl
 | false =>
  simp only[cond_false];rw[oX ks key rs (0+1)];cases bF ks key rs 0<;>rfl
theorem Kq(ks:List Kd)(k key:List G):∀ rows:List (List G),ef ks (fH ks rows k) key=ef ks rows key
 | []=>rfl
 | r::rs=>by
  rw[UA];cases h:a8 ks k (gi r 0).row with
  | true =>
   rw[cond_true,qE,qE];rfl
  |false=>rw[cond_false,qE,qE,Kq ks k key rs]
theorem Kr(ks:List Kd){k key:List G}(d:a8 ks key k=false):∀ rows:List (List G),dO ks (fH ks rows k) key=dO ks rows key
 | []=>rfl
 | r::rs=>by
  rw[UA];cases h:a8 ks k (gi r 0).row with
  | true =>
   have e:a8 ks key (gi r 0).row=false:=by rw[<-yt h]; exact d
   rw[cond_true,qF,qF,e];show (bif a8 ks key (gi r 0).row then _ else _)=_
   rw[e];rfl
  |false=>rw[cond_false,qF,qF,Kr ks d rs]
theorem UC(ks:List Kd)(k key:List G)(v:List (List G))(c:Nat):∀ rows:List (List G),ef ks (mP ks rows k v c) key=bif a8 ks key k then v else ef ks rows key
 | []=>by
  show ef ks [[.l [k],.l [[.l v]],.i (c:Int),.t true]] key=_
  rw[qE];rfl
 | r::rs=>by
  rw[UB,qE];cases h:a8 ks k (gi r 0).row with
  | true =>
   rw[cond_true,qE];have e:a8 ks key (gi r 0).row=a8 ks key k:=(yt h).symm;rw[e];show (bif a8 ks key k then _ else _)=_
   cases a8 ks key k<;>rfl
  | false =>
   rw[cond_false,qE,UC ks k key v c rs];cases d:a8 ks key (gi r 0).row with
   |false=>rfl
   | true =>
    cases g:a8 ks key k with
    |false=>rfl
    | true =>
     have:a8 ks k (gi r 0).row=true:=uW (by rw[sn]; exact g) d;rw[this]at h;cases h
theorem UD(ks:List Kd)(k key:List G)(v:List (List G))(c:Nat):∀ rows:List (List G),dO ks (mP ks rows k v c) key=bif a8 ks key k then true else dO ks rows key
 | []=>by
  show dO ks [[.l [k],.l [[.l v]],.i (c:Int),.t true]] key=_
  rw[qF];rfl
 | r::rs=>by
  rw[UB,qF];cases h:a8 ks k (gi r 0).row with
  | true =>
   rw[cond_true,qF];have e:a8 ks key (gi r 0).row=a8 ks key k:=(yt h).symm;rw[e];show (bif a8 ks key k then _ else _)=_
   cases a8 ks key k<;>rfl
  | false =>
   rw[cond_false,qF,UD ks k key v c rs];cases d:a8 ks key (gi r 0).row with
   |false=>rfl
   | true =>
    cases g:a8 ks key k with
    |false=>rfl
    | true =>
     have:a8 ks k (gi r 0).row=true:=uW (by rw[sn]; exact g) d;rw[this]at h;cases h
theorem zD(s k:ByteArray):a8 [.str] [.s s] [.s k]=decide (s=k):=by
 show ((s.toList==k.toList)&&true)=_
 rw[gD,qA]
structure iF (Q:List G->Prop) (m:List (List G)) (n:ByteArray->Nat):Prop where
 dO:∀ k,dO [.str] m [.s k]=true
 get:∀ k,(ef [.str] m [.s k]).length<=n k/\∀ z∈ef [.str] m [.s k],Q z
theorem iF.nil(Q:List G->Prop):iF Q [] fun _=>0:=⟨fun _=>rfl,fun _=>⟨aB _,by intro z d; cases d⟩⟩
theorem iF.add{Q:List G->Prop}{m:List (List G)}{n:ByteArray->Nat}(h:iF Q m n)(k:ByteArray){x:List G}(q:Q x)(c:Nat) :
  iF Q (mP [.str] (fH [.str] m [.s k]) [.s k] (ef [.str] m [.s k]++[x]) c) fun s=>if s=k then n s+1 else n s:=by
 refine⟨fun s=>?_,fun s=>?_⟩
 ·rw [UD, zD]
  by_cases e:s=k
  ·rw[decide_eq_true e]; rfl
  ·rw [decide_eq_false e, cond_false, Kr _ (by rw [zD]; exact decide_eq_false e)]
   exact h.dO s
 ·rw [UC, zD]
  obtain⟨h1,g⟩:=h.get s;by_cases e:s=k
  ·subst e
   rw[decide_eq_true rfl,cond_true];simp only[if_true];refine⟨by rw[en]; simp; omega,fun z d=>?_⟩;rcases cw.1 d with d|d
   ·exact g z d
   ·rw[iZ.1 d]; exact q
  ·rw [decide_eq_false e, cond_false, Kq]
   simp only[if_neg e];exact⟨h1,g⟩
theorem iF.mono{Q:List G->Prop}{m:List (List G)}{n d:ByteArray->Nat}(h:iF Q m n)(g:∀ k,n k<=d k):iF Q m d :=
 ⟨h.dO,fun k=>⟨lD (h.get k).1 (g k),(h.get k).2⟩⟩
def mh(r:List G):Prop:=cU r/\0<=(gi r 0).int/\(gi r 0).int<=1000000
theorem ajq{t m s h:Int}{b c x y:ByteArray}(d:0<=t/\t<=1000000)(hm:0<=m/\m<=10)(hb:b∈iV)(g:c∈calls)(u:0<=s/\s<=1000)(v:0<=h/\h<=1000)(k:x∈names)(q:y∈names) :
  mh [.i t,.i m,.s b,.s c,.i s,.i h,.s x,.s y] :=
 ⟨⟨t,m,b,c,s,h,x,y,rfl,by unfold small; omega,by unfold small; omega,by unfold small; omega,by unfold small; omega,hb,g,k,q⟩,d⟩
def kP(m:List (List G))(B:Int):Prop:=∀ k,0<=(gi (cS [.str] m [.s k] [.i 0]) 0).int/\(gi (cS [.str] m [.s k] [.i 0]) 0).int<=B
theorem kP.add{m:List (List G)}{B:Int}(h:kP m B)(k:ByteArray)(c:Nat):kP (fx [.str] m [.s k] [.i ((gi (cS [.str] m [.s k] [.i 0]) 0).int+1)] c) (B+1):=fun s=>by
 have h1:=h k;have d:=h s;rw[G0,zD];by_cases e:s=k
 ·rw [decide_eq_true e, cond_true]
  show 0<=(gi (cS [.str] m [.s k] [.i 0]) 0).int+1/\(gi (cS [.str] m [.s k] [.i 0]) 0).int+1<=B+1
  omega
 ·rw [decide_eq_false e, cond_false]
  omega
theorem UE{Q:List G->Prop}{l aJ ser cs:List (List G)}{clk c2:Nat}{n:ByteArray->Nat}(d:iF Q aJ n){a t nn i:Int}{b:ByteArray}(W:n b<=1000){g q u v:Int}{y I M N:ByteArray}(V:Q [.i g,.i q,.s y,.s I,.i u,.i v,.s M,.s N])(f:Bool) :
  ∃(O:List (List G)) (U:Nat),u_ [.l l,.i a,.l aJ,.i (clk:Int),.l ser,.i (c2:Int),.l cs,.i t,.s b,.l [[.i g,.i q,.s y,.s I,.i u,.i v,.s M,.s N]],.i nn,.i i,.t f] =
   some (some 0,[.l l,.i a,.l O,.i (U:Int),.l ser,.i (c2:Int),.l cs,.i t,.i nn,.i i])/\iF Q O (fun s=>if s=b then n s+1 else n s):=by
 have hl:=(d.get b).1;cases f with
 | false =>
  refine⟨aJ,clk,aa.toEq ?_,d.mono fun k=>by split<;>omega⟩;unfold u_;dsimp +instances only[Aa,Ab,Ac,Ad,Ae,Af,Ag];simp only[aK];exact aa.neg rfl (aa.some rfl)
 | true =>
  refine⟨mP [.str] (fH [.str] aJ [.s b]) [.s b] (ef [.str] aJ [.s b]++[[.i g,.i q,.s y,.s I,.i u,.i v,.s M,.s N]]) clk,dE [.str] (fH [.str] aJ [.s b]) [.s b] clk,aa.toEq ?_,d.add b V clk⟩;unfold u_;dsimp +instances only[Aa,Ab,Ac,Ad,Ae,Af,Ag];simp only[aK];exact aa.pos rfl (aa.pos (d.dO b) (aa.pos (by simp; omega) (aa.pos (by simp) (aa.some rfl))))
theorem UF{Q:List G->Prop}{l aJ ser cs:List (List G)}{clk c2:Nat}{n:ByteArray->Nat}(I:iF Q aJ n){a t nn i:Int}(ha:0<=a)(ha1:a<=100000){b:ByteArray}(M:n b<=1000){N O U V:Int}{W q y6 y7:ByteArray}(hy:Q [.i N,.i O,.s W,.s q,.i U,.i V,.s y6,.s y7]) :
  ∃(d:List (List G)) (k:Nat) (v:Int),a<=v/\v<=a+1/\vc [.l l,.i a,.l aJ,.i (clk:Int),.l ser,.i (c2:Int),.l cs,.i t,.s b,.l [[.i N,.i O,.s W,.s q,.i U,.i V,.s y6,.s y7]],.i nn,.i i] =
   some (some 0,[.l l,.i v,.l d,.i (k:Int),.l ser,.i (c2:Int),.l cs,.i t,.i nn,.i i])/\iF Q d (fun s=>if s=b then n s+1 else n s):=by
 cases hb : !(q.toList==b.toList)with
 | false =>
  obtain⟨d,k,h1,y⟩:=UE (l:=l) (ser:=ser) (cs:=cs) (clk:=clk) (c2:=c2) I (a:=a) (t:=t) (nn:=nn) (i:=i) (b:=b) M hy false;refine⟨d,k,a,wP _,by omega,aa.toEq ?_,y⟩;unfold vc;dsimp +instances only[Aa,Ab,Ac,Ad,Ae,Af,Ag];simp only[aK];refine aa.neg hb ?_;refine aa.tail (P:=fun u g=>u=0/\g=[.l l,.i a,.l d,.i (k:Int),.l ser,.i (c2:Int),.l cs,.i t,.i nn,.i i]) ⟨_,h1,0,rfl,rfl,rfl⟩ (by first|rfl|simp) ?_;rintro _ _ ⟨rfl,rfl⟩;dsimp +instances only[Aa,Ab,Ac,Ad,Ae,Af,Ag];simp only[aK];exact aa.some rfl
 | true =>
  obtain⟨_,hf,f,rfl⟩:=sO l a 8 ha (by omega) (by omega) (by omega);obtain⟨d,k,h1,y⟩:=UE (l:=l) (ser:=ser) (cs:=cs) (clk:=clk) (c2:=c2) I (a:=a+1) (t:=t) (nn:=nn) (i:=i) (b:=b) M hy (!f);refine⟨d,k,a+1,by omega,wP _,aa.toEq ?_,y⟩;unfold vc;dsimp +instances only[Aa,Ab,Ac,Ad,Ae,Af,Ag];simp only[aK];refine aa.pos hb ?_;refine aa.cE hf ?_;dsimp +instances only[Aa,Ab,Ac,Ad,Ae,Af,Ag];refine aa.tail (P:=fun u g=>u=0/\g=[.l l,.i (a+1),.l d,.i (k:Int),.l ser,.i (c2:Int),.l cs,.i t,.i nn,.i i]) ⟨_,h1,0,rfl,rfl,rfl⟩ (by first|rfl|simp) ?_;rintro _ _ ⟨rfl,rfl⟩;dsimp +instances only[Aa,Ab,Ac,Ad,Ae,Af,Ag];simp only[aK];exact aa.some rfl
theorem wk{Q:List G->Prop}{l aJ ser cs:List (List G)}{clk c2:Nat}{n:Nat}(y:iF Q aJ fun _=>n){a t nn i:Int}(ha:0<=a)(O:a<=100000){ca b:ByteArray}(hab:ca≠b)(hn:n<=999){U V W x5:Int}{x2 I x6 x7:ByteArray}(hx:Q [.i U,.i V,.s x2,.s I,.i W,.i x5,.s x6,.s x7]){y0 y1 y4 y5:Int}{y2 y3 y6 y7:ByteArray}(hy:Q [.i y0,.i y1,.s y2,.s y3,.i y4,.i y5,.s y6,.s y7]) :
  ∃(q:List (List G)) (v:Nat) (d:Int),a<=d/\d<=a+1/\nQ [.l l,.i a,.l aJ,.i (clk:Int),.l ser,.i (c2:Int),.i U,.i V,.s x2,.s I,.i W,.i x5,.s x6,.s x7,.l cs,.i t,.s ca,.s b,.l [[.i y0,.i y1,.s y2,.s y3,.i y4,.i y5,.s y6,.s y7]],.i nn,.i i] =
   some (some 0,[.l l,.i d,.l q,.i (v:Int),.l ser,.i (c2:Int),.l cs,.i t,.i nn,.i i])/\iF Q q (fun _=>n+1):=by
 have hl:=(y.get ca).1;cases hc : !(I.toList==ca.toList)with
 | false =>
  obtain⟨q,v,d,g1,g2,h1,M⟩:=UF (l:=l) (ser:=ser) (cs:=cs) (clk:=clk) (c2:=c2) y (a:=a) (t:=t) (nn:=nn) (i:=i) ha O (b:=b) (by omega) hy;refine⟨q,v,d,g1,g2,aa.toEq ?_,M.mono fun k=>by split<;>omega⟩;unfold nQ;dsimp +instances only[Aa,Ab,Ac,Ad,Ae,Af,Ag];simp only[aK];refine aa.neg hc ?_;refine aa.tail (P:=fun u g=>u=0/\g=[.l l,.i d,.l q,.i (v:Int),.l ser,.i (c2:Int),.l cs,.i t,.i nn,.i i]) ⟨_,h1,0,rfl,rfl,rfl⟩ (by first|rfl|simp) ?_;rintro _ _ ⟨rfl,rfl⟩;dsimp +instances only[Aa,Ab,Ac,Ad,Ae,Af,Ag];simp only[aK];exact aa.some rfl
 | true =>
  obtain⟨q,v,d,g1,g2,h1,M⟩:=UF (l:=l) (ser:=ser) (cs:=cs) (clk:=dE [.str] (fH [.str] aJ [.s ca]) [.s ca] clk) (c2:=c2) (y.add ca hx clk) (a:=a) (t:=t) (nn:=nn) (i:=i) ha O (b:=b) (by split<;>omega) hy;refine⟨q,v,d,g1,g2,aa.toEq ?_,M.mono fun k=>?_⟩
  ·unfold nQ
   dsimp +instances only[Aa,Ab,Ac,Ad,Ae,Af,Ag];simp only[aK];refine aa.pos hc (aa.pos (y.dO ca) (aa.pos (by simp; omega) (aa.pos (by simp) ?_)));refine aa.tail (P:=fun u g=>u=0/\g=[.l l,.i d,.l q,.i (v:Int),.l ser,.i (c2:Int),.l cs,.i t,.i nn,.i i]) ⟨_,h1,0,rfl,rfl,rfl⟩ (by first|rfl|simp) ?_;rintro _ _ ⟨rfl,rfl⟩;dsimp +instances only[Aa,Ab,Ac,Ad,Ae,Af,Ag];simp only[aK];exact aa.some rfl
  ·by_cases N : k = b
   ·rw [if_pos N, if_neg (fun e => hab (e.symm.trans N))]
    exact aB _
   ·rw [if_neg N]
    split<;>omega
theorem kP.mono{m:List (List G)}{B d:Int}(h:kP m B)(hb:B<=d):kP m d:=fun k=>⟨(h k).1,Lo (h k).2 hb⟩
theorem kP.nil:kP [] 0:=fun k=>⟨wP 0,wP 0⟩
theorem wm{X:Option (Option Nat × List G)}{l d ser cs:List (List G)}{q t nn i:Int}{k c2:Nat}
  (hX:X=some (some 0,[.l l,.i q,.l d,.i (k:Int),.l ser,.i (c2:Int),.l cs,.i t,.i nn,.i i])) (hi:ao (i+1)=true) :
  aa (aR true (cG X) fun y g17=>(aR true (cG (kM [.l (gi g17 0).rows,.i (gi g17 1).int,.l (gi g17 2).rows,.i (((gi g17 3).int.toNat:Nat):Int),.l (gi g17 4).rows,.i (((gi g17 5).int.toNat:Nat):Int),.l (gi g17 6).rows,.i (gi g17 7).int,.i (gi g17 8).int,.i (gi g17 9).int])) fun I g18=>some ((none:Option Nat),([.l (gi g18 0).rows,.i (gi g18 1).int,.l (gi g18 2).rows,.i (((gi g18 3).int.toNat:Nat):Int),.l (gi g18 4).rows,.i (((gi g18 5).int.toNat:Nat):Int),.l (gi g18 6).rows,.i (gi g18 7).int,.i (gi g18 8).int,.i (gi g18 9).int]:List G))))
   fun o=>o=(none,[.l l,.i q,.l d,.i (k:Int),.l ser,.i (c2:Int),.l cs,.i t,.i nn,.i (i+1)]):=by
 refine aa.tail (P:=fun u g=>u=0/\g=[.l l,.i q,.l d,.i (k:Int),.l ser,.i (c2:Int),.l cs,.i t,.i nn,.i i]) ⟨_,hX,0,rfl,rfl,rfl⟩ (by first|rfl|simp) ?_;rintro _ _ ⟨rfl,rfl⟩;dsimp +instances only[Aa,Ab,Ac,Ad,Ae,Af,Ag];simp only[aK];have v:kM [.l l,.i q,.l d,.i (k:Int),.l ser,.i (c2:Int),.l cs,.i t,.i nn,.i i]=some (some 0,[.l l,.i q,.l d,.i (k:Int),.l ser,.i (c2:Int),.l cs,.i t,.i nn,.i (i+1)]):=by
  refine aa.toEq ?_;unfold kM;dsimp +instances only[Aa,Ab,Ac,Ad,Ae,Af,Ag];simp only[aK];exact aa.pos hi (aa.some rfl)
 refine aa.tail (P:=fun u g=>u=0/\g=[.l l,.i q,.l d,.i (k:Int),.l ser,.i (c2:Int),.l cs,.i t,.i nn,.i (i+1)]) ⟨_,v,0,rfl,rfl,rfl⟩ (by first|rfl|simp) ?_;rintro _ _ ⟨rfl,rfl⟩;dsimp +instances only[Aa,Ab,Ac,Ad,Ae,Af,Ag];simp only[aK];exact aa.some rfl
theorem ajr{l d ser cs:List (List G)}{q t nn i:Int}{k c2:Nat}(hi:ao (i+1)=true) :
  aa (aR true (cG (kM [.l l,.i q,.l d,.i (k:Int),.l ser,.i (c2:Int),.l cs,.i t,.i nn,.i i])) fun y g18=>some ((none:Option Nat),([.l (gi g18 0).rows,.i (gi g18 1).int,.l (gi g18 2).rows,.i (((gi g18 3).int.toNat:Nat):Int),.l (gi g18 4).rows,.i (((gi g18 5).int.toNat:Nat):Int),.l (gi g18 6).rows,.i (gi g18 7).int,.i (gi g18 8).int,.i (gi g18 9).int]:List G)))
   fun o=>o=(none,[.l l,.i q,.l d,.i (k:Int),.l ser,.i (c2:Int),.l cs,.i t,.i nn,.i (i+1)]):=by
 have v:kM [.l l,.i q,.l d,.i (k:Int),.l ser,.i (c2:Int),.l cs,.i t,.i nn,.i i]=some (some 0,[.l l,.i q,.l d,.i (k:Int),.l ser,.i (c2:Int),.l cs,.i t,.i nn,.i (i+1)]):=by
  refine aa.toEq ?_;unfold kM;dsimp +instances only[Aa,Ab,Ac,Ad,Ae,Af,Ag];simp only[aK];exact aa.pos hi (aa.some rfl)
 refine aa.tail (P:=fun u g=>u=0/\g=[.l l,.i q,.l d,.i (k:Int),.l ser,.i (c2:Int),.l cs,.i t,.i nn,.i (i+1)]) ⟨_,v,0,rfl,rfl,rfl⟩ (by first|rfl|simp) ?_;rintro _ _ ⟨rfl,rfl⟩;dsimp +instances only[Aa,Ab,Ac,Ad,Ae,Af,Ag];simp only[aK];exact aa.some rfl
theorem ajs{l aJ ser cs:List (List G)}{clk c2 n:Nat}{B:Int}(N:iF mh aJ fun _=>n)(hS:kP ser B)(hc0:(dD 1 cs.length&&dD cs.length 1000000)=true) (hcs:(cs.all fun x=>ma calls (gi x 0).str)=true)
  (hB:0<=B) (hB1:B<=900) {a t nn i:Int} (ha:0<=a) (ha1:a<=90000) (ht:0<=t) (ht1:t<=900000) (hn:n<=900) (hi0:0<=i) (hi:i<nn) (hnn:nn<=100000) :
  aa (vd [.l l,.i a,.l aJ,.i (clk:Int),.l ser,.i (c2:Int),.l cs,.i t,.i nn,.i i]) fun o=>∃(b:Int) (g:List (List G)) (I:Nat) (ser':List (List G)) (c2':Nat) (t':Int),o=(none,[.l l,.i b,.l g,.i (I:Int),.l ser',.i (c2':Int),.l cs,.i t',.i nn,.i (i+1)]) /\
   a<=b/\b<=a+10/\iF mh g (fun _=>n+1)/\kP ser' (B+2)/\t<=t'/\t'<=t+1000:=by
 have M:ao (i+1)=true:=by simp only[ao,sl]<;>omega
 unfold vd;dsimp +instances only[Aa,Ab,Ac,Ad,Ae,Af,Ag];(repeat first|refine aa.p ?_|refine aa.n ?_);refine aa.call (pb 0 1000 l a _ ha (by omega) (by kernel_rfl) (by kernel_rfl)) ?_;rintro _ ⟨v,rfl,hd0,hd1⟩;dsimp +instances only[Aa,Ab,Ac,Ad,Ae,Af,Ag];(repeat first|refine aa.p ?_|refine aa.n ?_);refine aa.call (j6 calls l (a+1) cs (by omega) (by omega) hc0 hcs) ?_;rintro _ ⟨ca,rfl,hca⟩;dsimp +instances only[Aa,Ab,Ac,Ad,Ae,Af,Ag];refine aa.call (j6 calls l (a+1+1) _ (by omega) (by omega) (by kernel_rfl) (by kernel_rfl)) ?_;rintro _ ⟨b,rfl,hb⟩;dsimp +instances only[Aa,Ab,Ac,Ad,Ae,Af,Ag];simp only[aK];by_cases k:ca=b
 ·refine aa.pos (by rw [k, qA]; exact decide_eq_true rfl) ?_
  refine(ajr M).mono ?_;rintro _ rfl;exact⟨_,_,_,_,_,_,rfl,by omega,by omega,N.mono fun _=>by omega,hS.mono (by omega),by omega,by omega⟩
 refine aa.neg (by rw[qA]; exact decide_eq_false k) ?_;obtain⟨s1,e1⟩:∃ z,z=fx [.str] ser [.s ca] [.i ((gi (cS [.str] ser [.s ca] [.i 0]) 0).int+1)] c2:=⟨_,rfl⟩
 have hS1:kP s1 (B+1):=e1▸hS.add ca c2;obtain⟨k1,f1⟩:∃ z,z=dE [.str] ser [.s ca] c2:=⟨_,rfl⟩
 obtain⟨s2,e2⟩:∃ z,z=fx [.str] s1 [.s b] [.i ((gi (cS [.str] s1 [.s b] [.i 0]) 0).int+1)] k1:=⟨_,rfl⟩
 have u:kP s2 (B+2):=by
  have:=hS1.add b k1;rw[<-e2]at this;exact this.mono (by omega)
 obtain⟨V,f2⟩:∃ z,z=dE [.str] s1 [.s b] k1:=⟨_,rfl⟩
 simp only[<-f1,<-e1];simp only[<-f2,<-e2];have v1:=hS ca;have v2:=hS1 b;obtain⟨p,ep⟩:∃ p,p=(gi (cS [.str] s2 [.s ca] [.i 0]) 0).int:=⟨_,rfl⟩
 obtain⟨q,eq⟩:∃ p,p=(gi (cS [.str] s2 [.s b] [.i 0]) 0).int:=⟨_,rfl⟩
 simp only[<-ep,<-eq];have v3:0<=p/\p<=B+2:=ep▸u ca;have v4:0<=q/\q<=B+2:=eq▸u b;(repeat first|refine aa.p ?_|refine aa.n ?_);refine aa.call (j6 iV l (a+1+1+1) _ (by omega) (by omega) (by kernel_rfl) (by kernel_rfl)) ?_;rintro _ ⟨bd,rfl,O⟩;dsimp +instances only[Aa,Ab,Ac,Ad,Ae,Af,Ag];refine aa.call (pb 1 2 l (a+1+1+1+1) _ (by omega) (by omega) (by kernel_rfl) (by kernel_rfl)) ?_;rintro _ ⟨m,rfl,hm0,hm1⟩;dsimp +instances only[Aa,Ab,Ac,Ad,Ae,Af,Ag];refine aa.call (pb 0 200 l (a+1+1+1+1+1) _ (by omega) (by omega) (by kernel_rfl) (by kernel_rfl)) ?_;rintro _ ⟨d2,rfl,hd2,hd3⟩;dsimp +instances only[Aa,Ab,Ac,Ad,Ae,Af,Ag];(repeat first|refine aa.p ?_|refine aa.n ?_);refine aa.call (o_ l (a+1+1+1+1+1+1) 8 (by omega) (by omega) (by omega) (by omega)) ?_;rintro _ ⟨cs',rfl,hc3,hc4⟩;dsimp +instances only[Aa,Ab,Ac,Ad,Ae,Af,Ag];have hb':b∈calls:=hb;have hx0:(⟨#[]⟩:ByteArray)∈names:=ji (by kernel_rfl);have U:(⟨#[120]⟩:ByteArray)∈names:=ji (by kernel_rfl);have mk:∀{t' m' s h:Int} {b' c x y:ByteArray},0<=t'/\t'<=1000000->0<=m'/\m'<=10->b'∈iV->c∈calls->0<=s/\s<=1000->0<=h/\h<=1000->x∈names->y∈names->mh [.i t',.i m',.s b',.s c,.i s,.i h,.s x,.s y]:=fun h1 d h3 h4 h5 h6 h7 h8=>ajq h1 d h3 h4 h5 h6 h7 h8;have W:∀{c:ByteArray} {h:Int} {y:ByteArray},c∈calls->0<=h/\h<=1000->y∈names->mh [.i (t+v),.i m,.s bd,.s c,.i p,.i h,.s ⟨#[]⟩,.s y]:=fun h1 d h3=>mk (by omega) (by omega) O h1 (by omega) d hx0 h3;have hy:∀{b' c:ByteArray},b'∈iV->c∈calls->mh [.i (t+v+d2),.i m,.s b',.s c,.i q,.i p,.s ⟨#[120]⟩,.s ⟨#[]⟩]:=fun h0 h1=>mk (by omega) (by omega) h0 h1 (by omega) (by omega) U hx0;by_cases c0:cs'=0
 ·refine aa.pos (by simp [c0]) ?_
  refine aa.call (j6 calls l (a+1+1+1+1+1+1+1) _ (by omega) (by omega) (by kernel_rfl) (by kernel_rfl)) ?_;rintro _ ⟨w,rfl,hw⟩;dsimp +instances only[Aa,Ab,Ac,Ad,Ae,Af,Ag];obtain⟨g,I,a',g1,g2,h1,d⟩:=wk (l:=l) (ser:=s2) (cs:=cs) (clk:=clk) (c2:=V) N (a:=a+1+1+1+1+1+1+1+1) (t:=t+v) (nn:=nn) (i:=i) (by omega) (by omega) k (by omega) (W hw (h:=q) (by omega) U) (hy O hca);refine(wm h1 M).mono ?_;rintro _ rfl;exact⟨_,_,_,_,_,_,rfl,by omega,by omega,d,u,by omega,by omega⟩
 refine aa.neg (by simp[c0]) ?_;by_cases c1:cs'=1
 ·refine aa.pos (by simp [c1]) ?_
  refine aa.call (j6 calls l (a+1+1+1+1+1+1+1) _ (by omega) (by omega) (by kernel_rfl) (by kernel_rfl)) ?_;rintro _ ⟨w,rfl,hw⟩;dsimp +instances only[Aa,Ab,Ac,Ad,Ae,Af,Ag];obtain⟨g,I,a',g1,g2,h1,d⟩:=wk (l:=l) (ser:=s2) (cs:=cs) (clk:=clk) (c2:=V) N (a:=a+1+1+1+1+1+1+1+1) (t:=t+v) (nn:=nn) (i:=i) (by omega) (by omega) k (by omega) (W hb (h:=q) (by omega) U) (hy O hw);refine(wm h1 M).mono ?_;rintro _ rfl;exact⟨_,_,_,_,_,_,rfl,by omega,by omega,d,u,by omega,by omega⟩
 refine aa.neg (by simp[c1]) ?_;by_cases c2':cs'=2
 ·refine aa.pos (by simp [c2']) ?_
  (repeat first|refine aa.p ?_|refine aa.n ?_);obtain⟨g,I,a',g1,g2,h1,d⟩:=wk (l:=l) (ser:=s2) (cs:=cs) (clk:=clk) (c2:=V) N (a:=a+1+1+1+1+1+1+1) (t:=t+v) (nn:=nn) (i:=i) (by omega) (by omega) k (by omega) (W hb (h:=q+1) (by omega) U) (hy O hca);refine(wm h1 M).mono ?_;rintro _ rfl;exact⟨_,_,_,_,_,_,rfl,by omega,by omega,d,u,by omega,by omega⟩
 refine aa.neg (by simp[c2']) ?_;by_cases c3:cs'=3
 ·refine aa.pos (by simp [c3]) ?_
  obtain⟨g,I,a',g1,g2,h1,d⟩:=wk (l:=l) (ser:=s2) (cs:=cs) (clk:=clk) (c2:=V) N (a:=a+1+1+1+1+1+1+1) (t:=t+v) (nn:=nn) (i:=i) (by omega) (by omega) k (by omega) (W hb (h:=q) (by omega) hx0) (hy O hca);refine(wm h1 M).mono ?_;rintro _ rfl;exact⟨_,_,_,_,_,_,rfl,by omega,by omega,d,u,by omega,by omega⟩
 refine aa.neg (by simp[c3]) ?_;by_cases c4:cs'=4
 ·refine aa.pos (by simp [c4]) ?_
  refine aa.call (j6 iV l (a+1+1+1+1+1+1+1) _ (by omega) (by omega) (by kernel_rfl) (by kernel_rfl)) ?_;rintro _ ⟨w,rfl,hw⟩;dsimp +instances only[Aa,Ab,Ac,Ad,Ae,Af,Ag];obtain⟨g,I,a',g1,g2,h1,d⟩:=wk (l:=l) (ser:=s2) (cs:=cs) (clk:=clk) (c2:=V) N (a:=a+1+1+1+1+1+1+1+1) (t:=t+v) (nn:=nn) (i:=i) (by omega) (by omega) k (by omega) (W hb (h:=q) (by omega) U) (hy hw hca);refine(wm h1 M).mono ?_;rintro _ rfl;exact⟨_,_,_,_,_,_,rfl,by omega,by omega,d,u,by omega,by omega⟩
 refine aa.neg (by simp[c4]) ?_;obtain⟨g,I,a',g1,g2,h1,d⟩:=wk (l:=l) (ser:=s2) (cs:=cs) (clk:=clk) (c2:=V) N (a:=a+1+1+1+1+1+1+1) (t:=t+v) (nn:=nn) (i:=i) (by omega) (by omega) k (by omega) (W hb (h:=q) (by omega) U) (hy O hca);refine(wm h1 M).mono ?_;rintro _ rfl;exact⟨_,_,_,_,_,_,rfl,by omega,by omega,d,u,by omega,by omega⟩
theorem UG{l cs:List (List G)}(v:(dD 1 cs.length&&dD cs.length 1000000)=true) (y:(cs.all fun x=>ma calls (gi x 0).str)=true) {n:Nat} (hn:n<=14):∀(k i:Nat) (aJ ser:List (List G)) (clk c2:Nat) (a t:Int),i+k=n->0<=a->a<=1000+10*i->0<=t->t<=1000*i->iF mh aJ (fun _=>i)->kP ser (2*i) ->
  aL vd [.l l,.i a,.l aJ,.i (clk:Int),.l ser,.i (c2:Int),.l cs,.i t,.i (n:Int),.i (i:Int)] (k+1) fun c g=>c=0/\∃(b:Int) (d:List (List G)) (q:Nat),g=[.l l,.i b,.l d,.i (q:Int),.l cs]/\a<=b/\b<=a+10*k/\iF mh d (fun _=>n)
 | 0,i,aJ,ser,clk,c2,a,t,hi,ha,U,I,V,u,M=>by
  refine aL.stop (x:=0) (aa.toEq ?_) ⟨rfl,a,aJ,clk,rfl,by omega,by omega,u.mono fun _=>by omega⟩;unfold vd;dsimp +instances only[Aa,Ab,Ac,Ad,Ae,Af,Ag];simp only[aK];(repeat first|refine aa.p ?_|refine aa.n ?_);exact aa.some rfl
 | k+1,i,aJ,ser,clk,c2,a,t,hi,ha,U,I,V,u,M=>by
  obtain⟨_,h,b,d,q,N,W,t',rfl,g1,g2,g3,g4,g5,g6⟩:=ajs (l:=l) (clk:=clk) (c2:=c2) u M v y (by omega) (by omega) (a:=a) (t:=t) (nn:=n) (i:=i) ha (by omega) I (by omega) (by omega) (by omega) (by omega) (by omega);have ih:=UG (l:=l) v y hn k (i+1) d N q W b t' (by omega) (by omega) (by omega) (by omega) (by omega) g3 (g4.mono (by omega));refine aL.next h (ih.mono ?_)
  rintro c g ⟨rfl,b',bp,O,rfl,q1,q2,q3⟩;exact⟨rfl,b',bp,O,rfl,by omega,by omega,q3⟩
def qG(r s:List G):Bool:=gX r s==0
theorem ajt:Cm [.int .i64,.int .i64,.str,.str,.int .i64,.int .i64,.str,.str] yJ cU qG:=⟨fun r s hr d=>by
 refine aa.toEq ?_;unfold yJ;dsimp +instances only[Aa,Ab,Ac,Ad,Ae,Af,Ag];simp only[hr.eta,d.eta];refine aa.cE (J7 hr d) ?_;exact aa.some rfl,fun _ h=>h.eta⟩
def zS:List G:=[.i 0,.i 0,.s (⟨#[]⟩:ByteArray),.s (⟨#[]⟩:ByteArray),.i 0,.i 0,.s (⟨#[]⟩:ByteArray),.s (⟨#[]⟩:ByteArray)]
def UH(c:ByteArray)(r:List G):Prop:=∃ L:List (List G),r=[.s c,.l L]/\(∀ z∈L,mh z)/\L.length<=14
def ml(c:ByteArray):List G:=[.s c]
theorem UI{l:List (List G)}{a:Int}:∀(q p:List ByteArray) (aJ acc:List (List G)) (clk:Nat),(∀ c∈q,dO [.str] aJ [.s c]=true/\(ef [.str] aJ [.s c]).length<=14/\∀ z∈ef [.str] aJ [.s c],mh z)->q.Pairwise (·≠·)->acc.length=p.length->p.length+q.length<=100 ->
  aL ve [.l l,.i a,.l aJ,.i (clk:Int),.l acc,.l ((p++q).map ml),.i ((p.length+q.length:Nat):Int),.i (p.length:Int)] (q.length+1) fun c g=>c=0/\∃ L:List (List G),g=[.l l,.i a,.l (acc++L)]/\L.length=q.length/\∀ i,i<q.length->UH (q.getD i ⟨#[]⟩) (L.getD i [])
 | [],p,aJ,acc,clk,k,u,N,O=>by
  refine aL.stop (x:=0) (aa.toEq ?_) ⟨rfl,[],rfl,rfl,fun i hi=>by cases hi⟩;unfold ve;dsimp +instances only[Aa,Ab,Ac,Ad,Ae,Af,Ag];(repeat first|refine aa.p ?_|refine aa.n ?_);exact aa.some (by simp)
 | c::q,p,aJ,acc,clk,k,u,N,O=>by
  simp only[bG]at O;obtain⟨h1,h2,v⟩:=k c (by simp);have g1:((p++c::q).map ml).getD (p.length:Int).toNat []=ml c:=by
   rw[eO,bX];exact l9 _ _ _ _ _ (by simp)
  have hc:((p++c::q).map ml).length=p.length+(q.length+1):=by simp
  obtain⟨M,U⟩:∃ M,M=ef [.str] aJ [.s c]:=⟨_,rfl⟩
  rw[<-U]at h2 v;have V:=abS (lt:=cf gX) v;have hsl:=Cj (cf gX) M;have hle:(jh qG (dG (cf gX) M)).length<=(dG (cf gX) M).length:=abY _ _;have W:=UI (l:=l) (a:=a) q (p++[c]) (fH [.str] aJ [.s c]) (acc++[[.s c,.l (jh qG (dG (cf gX) M))]]) clk (by
   intro x hx;obtain⟨y,I,q3⟩:=k x (cq _ hx);have hne:x≠c:=fun e=>(ot.1 u).1 x hx e.symm;rw[Kq,Kr _ (by rw[zD]; exact decide_eq_false hne)];exact⟨y,I,q3⟩) (ot.1 u).2 (by simp[N]) (by simp; omega)
  have key:aa (ve [.l l,.i a,.l aJ,.i (clk:Int),.l acc,.l ((p++c::q).map ml),.i ((p.length+(c::q).length:Nat):Int),.i (p.length:Int)]) fun o=>o=(none,[.l l,.i a,.l (fH [.str] aJ [.s c]),.i (clk:Int),.l (acc++[[.s c,.l (jh qG (dG (cf gX) M))]]),.l ((p++c::q).map ml),.i ((p.length+(c::q).length:Nat):Int),.i ((p.length:Int)+1)]):=by
   unfold ve;dsimp +instances only[Aa,Ab,Ac,Ad,Ae,Af,Ag];simp only[g1,hc,ml,bG];dsimp +instances only[Aa,Ab,Ac,Ad,Ae,Af,Ag];simp only[aK,<-U];(repeat first|refine aa.p ?_|refine aa.n ?_);refine aa.nO (aa.eq (abW ai0 M (fun z d=>(v z d).1) (by omega))) (by simp) ?_;rintro _ rfl;dsimp +instances only[Aa,Ab,Ac,Ad,Ae,Af,Ag];refine aa.nO (P:=fun g=>∃ J,g=[.l (jh qG (dG (cf gX) M)++J),.i ((jh qG (dG (cf gX) M)).length:Int)]/\(jh qG (dG (cf gX) M)++J).length=(dG (cf gX) M).length)
    (abZ (Z:=zS) ajt (dG (cf gX) M) (fun z d=>(V z d).1) (by omega)) (by simp[hsl]) ?_
   rintro _ ⟨J,rfl,hJ⟩;dsimp +instances only[Aa,Ab,Ac,Ad,Ae,Af,Ag];simp only[aK,List.take_left'];refine aa.pos (by simp) (aa.pos (by simp; omega) (aa.p (aa.pos (by simp) (aa.some ?_))));rfl
  obtain⟨_,h,rfl⟩:=key;have e:((p++[c])++q).map ml=(p++c::q).map ml:=by simp
  have e2:(((p++[c]).length+q.length:Nat):Int)=((p.length+(c::q).length:Nat):Int):=by simp; omega
  have e3:(((p++[c]).length:Nat):Int)=(p.length:Int)+1:=by simp
  rw[e,e2,e3]at W;refine aL.next h (W.mono ?_)
  rintro x g ⟨rfl,L,rfl,y,I⟩;refine⟨rfl,[.s c,.l (jh qG (dG (cf gX) M))]::L,by simp,by simp[y],fun i hi=>?_⟩;cases i with
  |zero=>exact⟨_,rfl,fun z d=>V z (abX d),by omega⟩
  |succ i=>exact I i (by simpa using hi)
def C4:List ByteArray:=[⟨#[107,49,97,98]⟩,⟨#[111,104,50,97,98,99]⟩,⟨#[111,104,50,97,98,100]⟩,⟨#[119,49,97,119]⟩]
theorem aju(l:List (List G)):aa (Cz [.l l,.i 0]) fun g=>∃(b:Int) (L:List (List G)) (m:Nat),g=[.l l,.i b,.l L]/\0<=b/\b<=1000/\1<=m/\m<=4/\L.length=m/\∀ i,i<m->UH (C4.getD i ⟨#[]⟩) (L.getD i []):=by
 unfold Cz;dsimp +instances only[Aa,Ab,Ac,Ad,Ae,Af,Ag];refine aa.call (Dn l 0 1 4 (by omega) (by omega) (by omega) (by omega) (by omega)) ?_;rintro _ ⟨m,rfl,V,W⟩;obtain⟨m,rfl⟩:=Ei (by omega:0<=m);dsimp +instances only[Aa,Ab,Ac,Ad,Ae,Af,Ag];(repeat first|refine aa.p ?_|refine aa.n ?_);refine aa.call (Dn l (0+1) 0 14 (by omega) (by omega) (by omega) (by omega) (by omega)) ?_;rintro _ ⟨n,rfl,v,hn1⟩;obtain⟨n,rfl⟩:=Ei v;dsimp +instances only[Aa,Ab,Ac,Ad,Ae,Af,Ag];obtain⟨cs,k⟩:∃ cs,cs=C4.take m:=⟨_,rfl⟩
 have y:cs.length=m:=by
  rw[k,List.length_take];show min m 4=m
  omega
 have I:([[.s (⟨#[107,49,97,98]⟩:ByteArray)],[.s (⟨#[111,104,50,97,98,99]⟩:ByteArray)],[.s (⟨#[111,104,50,97,98,100]⟩:ByteArray)],[.s (⟨#[119,49,97,119]⟩:ByteArray)]]:List (List G)).take ((m:Int).toNat)=cs.map ml:=by
  rw[k,List.map_take];rfl
 simp only[I];have M:=UG (l:=l) (cs:=cs.map ml) (by rw[bN,y]; simp; omega) (by
  rw[List.all_map,da];intro c q;rw[k]at q;have:c∈C4:=List.mem_of_mem_take q;have d:C4.all (fun c=>ma calls c)=true:=by kernel_rfl
  exact da.1 d c this) (by omega:n<=14) n 0 [] [] 0 0 (0+1+1) 0 (by omega) (by omega) (by omega) (by omega) (by omega) (iF.nil _) (by exact kP.nil)
 refine aa.loop (M.to (by omega)) (by(first|rfl|assumption|(simp only[ao,sl]<;>omega))) ?_;rintro c g ⟨rfl,b,aJ,clk,rfl,h2,h3,d⟩;dsimp +instances only[Aa,Ab,Ac,Ad,Ae,Af,Ag];simp only[aK];have N:cs.Pairwise (·≠·):=by
  rw[k];refine amz ?_;have d:(decide (C4.Pairwise fun a b=>a.data.toList≠b.data.toList))=true:=by kernel_rfl
  exact(of_decide_eq_true d).imp fun h e=>h (by rw[e])
 have u:=UI (l:=l) (a:=b) cs [] aJ [] clk (fun c _=>⟨d.dO c,lD (d.get c).1 (by omega),(d.get c).2⟩) N rfl (by simp; omega);simp only[iY,k6,cn]at u;have O:((cs.map ml).length:Int)=(cs.length:Int):=by rw[bN]
 simp only[O];refine aa.loop (u.to (by omega)) (by(first|rfl|assumption|(simp only[ao,sl]<;>omega))) ?_;rintro c g ⟨rfl,L,rfl,q1,U⟩;dsimp +instances only[Aa,Ab,Ac,Ad,Ae,Af,Ag];refine aa.pos (by simp) (aa.some ⟨b,L,m,rfl,by omega,by omega,by omega,by omega,by omega,fun i hi=>?_⟩);have:=U i (by omega)
 rwa [k,bP,List.getElem?_take,if_pos hi,<-bP]at this
def zF(K:List Kd)(C:List G->Option (List G))(d:List G):Option (Option Nat × List G) :=
 (bif (aj (gi d 3).int (gi d 2).int) then (bif ((az (gi d 3).int)&&(aj (gi d 3).int (((gi d 0).rows.length:Nat):Int))) then (ar (C [.l [(aT K ((gi d 0).rows.getD (((gi d 3).int).toNat) []))],.l [(aT [.str,.list K] (gi d 1).row)]]) fun g1=>(bif (gi g1 0).bool then some (some 0,[.i (gi d 3).int]) else (bif (ao ((gi d 3).int+1)) then some (none,[.l (gi d 0).rows,.l [(aT [.str,.list K] (gi d 1).row)],.i (gi d 2).int,.i ((gi d 3).int+1)]) else none))) else none) else some (some 1,[]))
def UJ(K:List Kd)(C:List G->Option (List G))(d:List G):Option (List G) :=
 (ar (aR true (bV (zF K C) [.l (gi d 0).rows,.l [(aT [.str,.list K] (aT [.str,.list K] (gi d 1).row))],.i (((gi d 0).rows.length:Nat):Int),.i 0]) fun g g2=>(bif ai g 0 then some [.i (gi g2 0).int] else some [.i (-1)])) fun g1=>some [.t (aZ 0 (gi g1 0).int)])
def kQ(c:ByteArray)(L:List (List G)):Bool:=L.any fun z=>(gi z 3).str.toList==c.toList
section
variable {C:List G->Option (List G)} {c:ByteArray} {A:List (List G)} (hC:∀ z,cU z->C [.l [z],.l [[.s c,.l A]]]=some [.t ((gi z 3).str.toList==c.toList)])
include hC
theorem UK:∀(q p:List (List G)),(∀ z∈p++q,cU z)->p.length+q.length<100000 ->
  aL (zF [.int .i64,.int .i64,.str,.str,.int .i64,.int .i64,.str,.str] C) [.l (p++q),.l [[.s c,.l A]],.i ((p.length+q.length:Nat):Int),.i (p.length:Int)] (q.length+1) fun x g=>(x=0/\kQ c q=true/\∃ v:Int,0<=v/\g=[.i v])\/x=1/\kQ c q=false
 | [],p,u,y=>by
  refine aL.stop (x:=1) (d':=[]) (aa.toEq ?_) (.inr ⟨rfl,rfl⟩);unfold zF;dsimp +instances only[Aa,Ab,Ac,Ad,Ae,Af,Ag];(repeat first|refine aa.p ?_|refine aa.n ?_);exact aa.some rfl
 | x::q,p,u,y=>by
  simp only[bG]at y;have d:cU x:=u x (by simp);have g1:(p++x::q).getD (p.length:Int).toNat []=x:=l9 _ _ _ _ _ (by simp);have hlen:(p++x::q).length=p.length+q.length+1:=by simp; omega
  cases k:(gi x 3).str.toList==c.toList with
  | true =>
   refine aL.stop (x:=0) (d':=[.i (p.length:Int)]) (aa.toEq ?_) (.inl ⟨rfl,by simp only[kQ,As,k,Bool.true_or],_,by omega,rfl⟩);unfold zF;dsimp +instances only[Aa,Ab,Ac,Ad,Ae,Af,Ag];simp only[g1,hlen,bG,d.eta];(repeat first|refine aa.p ?_|refine aa.n ?_);refine aa.cE (hC x d) ?_;dsimp +instances only[Aa,Ab,Ac,Ad,Ae,Af,Ag];exact aa.pos k (aa.some rfl)
  | false =>
   have I:=UK q (p++[x]) (by simpa using u) (by simp; omega);have M:(p++[x])++q=p++x::q:=by simp
   have N:(((p++[x]).length+q.length:Nat):Int)=((p.length+(x::q).length:Nat):Int):=by simp; omega
   have O:(((p++[x]).length:Nat):Int)=(p.length:Int)+1:=by simp
   rw[M,N,O]at I;have U:kQ c (x::q)=kQ c q:=by simp only[kQ,As,k,Bool.false_or]
   rw[U];refine aL.next (aa.toEq ?_) I
   unfold zF;dsimp +instances only[Aa,Ab,Ac,Ad,Ae,Af,Ag];simp only[g1,hlen,bG,d.eta];(repeat first|refine aa.p ?_|refine aa.n ?_);refine aa.cE (hC x d) ?_;dsimp +instances only[Aa,Ab,Ac,Ad,Ae,Af,Ag];refine aa.neg k (aa.p (aa.some rfl))
theorem Ks(L:List (List G))(k:∀ z∈L,cU z)(q:L.length<100000):UJ [.int .i64,.int .i64,.str,.str,.int .i64,.int .i64,.str,.str] C [.l L,.l [[.s c,.l A]]]=some [.t (kQ c L)]:=by
 refine aa.toEq ?_;unfold UJ;dsimp +instances only[Aa,Ab,Ac,Ad,Ae,Af,Ag];have h1:=UK hC L [] (by simpa using k) (by simpa using q);have h0:((0:Nat):Int)=0:=rfl;simp only[iY,k6,cn,h0]at h1;refine aa.call (P:=fun g=>∃ v:Int,g=[.i v]/\aZ 0 v=kQ c L) ?_ ?_
 ·refine aa.loop (h1.to (by omega)) (by (first|rfl|assumption|(simp only [ao,sl]<;>omega))) ?_
  rintro x g (⟨rfl,d,v,u,rfl⟩|⟨rfl,d⟩)
  ·exact aa.some ⟨v,rfl,by rw[d,eT]; exact decide_eq_true u⟩
  ·exact aa.some ⟨-1,rfl,by rw[d]; rfl⟩
 ·rintro _ ⟨v, rfl, d⟩
  exact aa.some (congrArg (fun b=>[G.t b]) d)
end
def eM(c:ByteArray)(L:List (List G)):Int:=bif !iz c then 3 else bif j7 L != 0 then j7 L else bif kQ c L then 6 else 0
theorem Kt{c:ByteArray}{L:List (List G)}(h:eM c L=0):j7 L=0:=by
 unfold eM at h;cases h1:iz c with
 |false=>rw[h1]at h; cases h
 | true =>
  rw[h1]at h;cases d:j7 L != 0 with
  |false=>simpa using d
  | true =>
   rw[d]at h;simp only[Bool.not_true,cond_false,cond_true]at h;exact h
theorem Ku{c:ByteArray}(k:c∈calls){L:List (List G)}(d:∀ z∈L,cU z)(g:L.length<100000):za [.l [[.s c,.l L]]]=some [.i (eM c L)]:=by
 refine aa.toEq ?_;unfold za eM;dsimp +instances only[Aa,Ab,Ac,Ad,Ae,Af,Ag];refine aa.cE (J_ k) ?_;dsimp +instances only[Aa,Ab,Ac,Ad,Ae,Af,Ag];cases iz c with
 |false=>exact aa.some rfl
 | true =>
  refine aa.neg rfl ?_;refine aa.cE (ai4 L d g) ?_;dsimp +instances only[Aa,Ab,Ac,Ad,Ae,Af,Ag];cases j7 L != 0 with
  |true=>exact aa.some rfl
  | false =>
   refine aa.neg rfl ?_;refine aa.call (aa.eq (Ks (C:=C1) (c:=c) (A:=L) (fun z q=>by
    refine aa.toEq ?_;unfold C1;dsimp +instances only[Aa,Ab,Ac,Ad,Ae,Af,Ag];exact aa.some rfl) L d g)) ?_
   rintro _ rfl;dsimp +instances only[Aa,Ab,Ac,Ad,Ae,Af,Ag];cases kQ c L<;>exact aa.some rfl
theorem ajv{c:ByteArray}(q:c∈calls){L:List (List G)}(d:∀ z∈L,cU z)(k:L.length<100000):CM [.l [[.s c,.l L]]]=some [.i (eM c L)]:=by
 refine aa.toEq ?_;unfold CM eM;dsimp +instances only[Aa,Ab,Ac,Ad,Ae,Af,Ag];refine aa.cE (J9 q) ?_;dsimp +instances only[Aa,Ab,Ac,Ad,Ae,Af,Ag];cases iz c with
 |false=>exact aa.some rfl
 | true =>
  refine aa.neg rfl ?_;refine aa.call (P:=fun g=>g=[.i 0]) (aa.some rfl) ?_;rintro _ rfl;refine aa.neg rfl ?_;refine aa.cE (T_ L d k) ?_;dsimp +instances only[Aa,Ab,Ac,Ad,Ae,Af,Ag];cases j7 L != 0 with
  |true=>exact aa.some rfl
  | false =>
   refine aa.neg rfl ?_;refine aa.call (aa.eq (Ks (C:=vl) (c:=c) (A:=L) (fun z u=>by
    refine aa.toEq ?_;unfold vl;dsimp +instances only[Aa,Ab,Ac,Ad,Ae,Af,Ag];exact aa.some rfl) L d k)) ?_
   rintro _ rfl;dsimp +instances only[Aa,Ab,Ac,Ad,Ae,Af,Ag];cases kQ c L<;>exact aa.some rfl
theorem mh.m{z:List G}(h:mh z):fJ z:=by
 obtain⟨h,h0,h1⟩:=h;exact⟨h.eta,by unfold gY; omega,by unfold gY; omega⟩
def gP(k:Nat):List Nat->Option Nat
 | []=>none
 |a::l=>bif a==k then some 0 else (gP k l).map (·+1)
theorem Kv{k:Nat}:∀{l:List Nat},gP k l=none↔k∉l
 | []=>by simp[gP]
 | a::l=>by
  unfold gP;cases h:a==k with
  |true=>simp at h; simp[h]
  | false =>
   simp at h;simp only[cond_false,Option.map_eq_none_iff,Kv,bC,not_or];exact⟨fun g=>⟨fun e=>h e.symm,g⟩,fun g=>g.2⟩
theorem DG{k:Nat}:∀{l:List Nat} {n:Nat},gP k l=some n->n<l.length/\l.getD n 0=k
 | [],n,h=>by cases h
 | a::l,n,h=>by
  unfold gP at h;cases e:a==k with
  | true =>
   rw[e]at h;cases h;simp at e;exact⟨by simp,by simpa using e⟩
  | false =>
   rw[e]at h;simp only[cond_false,Option.map_eq_some_iff]at h;obtain⟨m,h1,rfl⟩:=h;obtain⟨g,d⟩:=DG h1;exact⟨by simp; omega,by simpa using d⟩
theorem Kw{k:Nat}:∀{l:List Nat},k∉l->gP k (l++[k])=some l.length
 | [],_=>by simp[gP]
 | a::l,h=>by
  simp only[bC,not_or]at h;have e:(a==k)=false:=by simp; exact fun e=>h.1 e.symm
  show (bif a==k then some 0 else (gP k (l++[k])).map (·+1))=_
  rw[e,Kw h.2];rfl
theorem Kx(a b:Int):a8 [.int .i64] [.i a] [.i b]=decide (a=b):=by
 show ((a==b)&&true)=decide (a=b)
 rw[gD];exact Bool.beq_eq_decide_eq a b
def bD:Nat->List Nat->List (List G)
 |_,[]=>[]
 |i,k::ks=>[.l [[.i (k:Int)]],.i (i:Int),.i (i:Int)]::bD (i+1) ks
theorem UL:∀(i:Nat) (A B:List Nat),bD i (A++B)=bD i A++bD (i+A.length) B
 |i,[],B=>by simp[bD]
 | i,a::A,B=>by
  show _::bD (i+1) (A++B)=_::(bD (i+1) A++bD (i+(A.length+1)) B)
  rw[UL (i+1) A B,show i+1+A.length=i+(A.length+1) by omega]
theorem Ky(k:Nat):∀(ks:List Nat) (i j:Nat),bF [.int .i64] [.i (k:Int)] (bD i ks) j=(gP k ks).map fun n=>(j+n,([.l [[.i (k:Int)]],.i ((i+n:Nat):Int),.i ((i+n:Nat):Int)]:List G))
 | [],_,_=>rfl
 | a::ks,i,j=>by
  have d:=Ky k ks (i+1) (j+1);have e:a8 [.int .i64] [.i (k:Int)] ((gi [.l [[.i (a:Int)]],.i (i:Int),.i (i:Int)] 0).row)=(a==k):=by
   show a8 [.int .i64] [.i (k:Int)] [.i (a:Int)]=_
   rw[Kx];by_cases h:a=k
   ·subst h; simp
   ·have g : ¬ (k : Int) = (a : Int) := fun e => h (by omega)
    simp[h,g]
  show (bif _ then some (j,_) else bF _ _ (bD (i+1) ks) (j+1))=_
  rw[e,d];show _=Option.map _ (bif a==k then some 0 else (gP k ks).map (·+1))
  cases h:a==k with
  | true =>
   simp at h;subst h;rfl
  | false =>
   simp only[cond_false,Option.map_map];congr 1
   funext n
   simp only[Ak];rw[show j+1+n=j+(n+1) by omega,show i+1+n=i+(n+1) by omega]
theorem ajw(k:Nat)(ks:List Nat):dK [.int .i64] (bD 0 ks) [.i (k:Int)]=(gP k ks).isSome:=by
 unfold dK;rw[Ky,Option.isSome_map]
theorem DH(k:Nat)(ks:List Nat):lX [.int .i64] (bD 0 ks) [.i (k:Int)]=gP k ks:=by
 unfold lX;rw[Ky];cases h:gP k ks with
 |none=>rfl
 | some n =>
  show (bif aZ 0 ((0+n:Nat):Int) then some ((0+n:Nat):Int).toNat else none)=some n
  rw[eT,decide_eq_true (by omega:(0:Int)<=((0+n:Nat):Int))];simp
theorem Kz(r:List G):∀(ks:List Nat) (i j c:Nat),i+ks.length<=c->gd (c:Int) (bD i ks++[r]) j=gd (c:Int) [r] (j+ks.length)
 | [],i,j,c,_=>rfl
 | a::ks,i,j,c,h=>by
  simp only[bG]at h;have d:=Kz r ks (i+1) (j+1) c (by omega);show (bif ((i:Int).toNat:Int)==(c:Int) then _ else gd (c:Int) (bD (i+1) ks++[r]) (j+1))=_
  have e:(((i:Int).toNat:Int)==(c:Int))=false:=by
   rw[aK];simp;omega
  rw[e,d,show j+1+ks.length=j+(ks.length+1) by omega];rfl
theorem UM:∀(i:Nat) (ks:List Nat),(bD i ks).length=ks.length
 |_,[]=>rfl
 |i,_::ks=>by simp[bD,UM (i+1) ks]
def wq(k c:Nat):List G:=[.l [[.i (k:Int)]],.i (-1),.i (c:Int)]
theorem UN(k c j:Nat):gd (c:Int) [wq k c] j=some (j,wq k c):=by
 show (bif ((c:Int).toNat:Int)==(c:Int) then _ else _)=_
 rw[aK];simp
theorem ajx(k:Nat)(ks:List Nat):uv (bD 0 ks++[wq k ks.length]) (ks.length:Int)=true:=by
 unfold uv;rw[Kz _ _ _ _ _ (by omega),UN];rfl
theorem ajy(k:Nat)(ks:List Nat):uw (bD 0 ks++[wq k ks.length]) (ks.length:Int) ks.length=bD 0 (ks++[k]):=by
 unfold uw;rw[Kz _ _ _ _ _ (by omega),UN,UL];show (bD 0 ks++[wq k ks.length]).set (0+ks.length) _=_
 rw[sU (bD 0 ks) _ _ [] _ (by rw[UM,cn])];rw[cn];rfl
def iG(d:List G->List G × List G)(q:List (List G))(a:List (List G) × Nat):List (List G) × Nat :=
 q.foldl (fun a r=>(fx [.int .i64] a.1 (d r).1 (d r).2 a.2,dE [.int .i64] a.1 (d r).1 a.2)) a
def n_(a:List (List G) × Nat):List G:=[.l a.1,.i (a.2:Int)]
def wu(r:List G):List G × List G:=([.i (gi r 0).int],[.i (gi r 1).int])
def UO(r:List G):List G × List G:=([.i (gi r 1).int],[.t true])
def eZ(p:List (List G)):List G:=n_ (iG wu p ([],0))
def e9(p:List (List G)):List G:=n_ (iG UO p ([],0))
theorem UP(d:List G->List G × List G)(p:List (List G))(r:List G)(a:List (List G) × Nat) :
  iG d (p++[r]) a=(fx [.int .i64] (iG d p a).1 (d r).1 (d r).2 (iG d p a).2,dE [.int .i64] (iG d p a).1 (d r).1 (iG d p a).2):=by
 unfold iG;rw[al7];rfl
theorem UQ(M:List (List G))(a:List (List G) × Nat)(key val:List G) :
  uu (M++[n_ a]) (some M.length) [.int .i64] key val=M++[n_ (fx [.int .i64] a.1 key val a.2,dE [.int .i64] a.1 key a.2)]:=by
 unfold uu;have e:kC (M++[n_ a]) (some M.length)=n_ a:=by
  show (M++[n_ a]).getD M.length []=_
  rw[bP];simp
 rw[e];show (M++[n_ a]).set M.length _=_
 rw[sU M _ _ [] _ rfl];show M++[[.l (fx [.int .i64] a.1 key val (a.2:Int).toNat),.i ((dE [.int .i64] a.1 key (a.2:Int).toNat:Nat):Int)]]=_
 rw[aK];rfl
theorem UR(M:List (List G))(x:List G):mQ (M++[x]) (some M.length)=true:=by
 show Nat.blt M.length (M++[x]).length=true
 simp
theorem US(d:List G->List G × List G)(key:List G):∀(q:List (List G)) (a:List (List G) × Nat),dK [.int .i64] (iG d q a).1 key=(q.any (fun r=>a8 [.int .i64] key (d r).1)||dK [.int .i64] a.1 key)
 | [],a=>rfl
 | r::q,a=>by
  show dK [.int .i64] (iG d q (_,_)).1 key=_
  rw[US d key q];simp only[As];rw[Pt];cases a8 [.int .i64] key (d r).1<;>cases dK [.int .i64] a.1 key<;>simp
theorem UT(d:List G->List G × List G)(key z:List G):∀(q:List (List G)) (a:List (List G) × Nat),(∃ r∈q,a8 [.int .i64] key (d r).1=true/\cS [.int .i64] (iG d q a).1 key z=(d r).2) \/
  (∀ r∈q,a8 [.int .i64] key (d r).1=false)/\cS [.int .i64] (iG d q a).1 key z=cS [.int .i64] a.1 key z
 | [],a=>.inr ⟨fun _ h=>(by cases h),rfl⟩
 | r::q,a=>by
  show (∃ _,_/\_/\cS [.int .i64] (iG d q (fx [.int .i64] a.1 (d r).1 (d r).2 a.2,_)).1 key z=_)\/_/\cS [.int .i64] (iG d q (fx [.int .i64] a.1 (d r).1 (d r).2 a.2,_)).1 key z=_
  rcases UT d key z q (fx [.int .i64] a.1 (d r).1 (d r).2 a.2,dE [.int .i64] a.1 (d r).1 a.2)with⟨s,h1,g,u⟩|⟨h1,g⟩
  ·exact .inl ⟨s,cq _ h1,g,u⟩
  ·rw [g, G0]
   cases e:a8 [.int .i64] key (d r).1 with
   |true=>exact .inl ⟨r,by simp,e,rfl⟩
   | false =>
    refine .inr ⟨fun s k=>?_,rfl⟩;rcases bC.1 k with rfl|k
    ·exact e
    ·exact h1 s k
structure gQ (m i:Nat) (r:List (List G)):Prop where
 len:r.length=m
 val:∀ j,j<m->∃ v:Int,r.getD j []=[.i v]/\0<=v/\v<=(i:Int)+(j:Int)
theorem gQ.set{m i k:Nat}{r:List (List G)}(h:gQ m i r){v:Int}(h0:0<=v)(h1:v<=(i:Int)+(k:Int)):gQ m i (r.set k [.i v]):=by
 refine⟨by rw[ib,h.len],fun j d=>?_⟩;by_cases e:k=j
 ·subst e
  refine⟨v,?_,h0,h1⟩;rw[bP,bf (by rw[h.len]; exact d)];rfl
 ·obtain ⟨w, g1, g2⟩ := h.val j d
  refine⟨w,?_,g2⟩;rw[bP,List.getElem?_set_ne e,<-bP,g1]
theorem gQ.zero(m i:Nat):gQ m i (bQ m [.i 0]):=by
 refine⟨tc ..,fun j d=>⟨0,?_,wP 0,by omega⟩⟩;rw[bP,WM,if_pos d];rfl
def KA(r0 r1 r2:List (List G))(a b:ByteArray)(i m:Nat)(k q u v:Int)(x:Nat)(g:List G):Prop :=
 x=0/\∃ d:List (List G),g=[.l r0,.l r1,.l r2,.l d,.s a,.s b,.i (i:Int),.i k,.i q,.i u,.i v]/\gQ m i d
def ajz(r:List G)(x:Nat)(g:List G):Prop:=x=0/\g=r
theorem ajA{r0 r1 r2 row:List (List G)}{a b:ByteArray}{i k m:Nat}{d g q u:Int}{f:Bool}(hk:k<m)(hr:gQ m i row)(I:f=true->2<=i/\2<=k/\gQ m (i-2) r1)(hi:i<=1000)(hm:m<=1000) :
  aa (vO [.l r0,.l r1,.l r2,.l row,.s a,.s b,.i (i:Int),.i (k:Int),.i d,.i g,.i q,.i u,.t f]) fun o=>∃ x,o.1=some x/\KA r0 r1 r2 a b i m d g q u x o.2:=by
 unfold vO;dsimp +instances only[Aa,Ab,Ac,Ad,Ae,Af,Ag];refine aa.test (fun h=>?_) fun h=>?_
 ·obtain ⟨h1, U, y⟩ := I h
  obtain⟨v,M,v0,v1⟩:=hr.val k hk;obtain⟨w,hw,V,W⟩:=y.val (k-2) (by omega);have N:((k:Int)).toNat=k:=aK k;have O:((k:Int)-2).toNat=k-2:=by omega
  have l1:=hr.len;have l2:=y.len;simp only[N,O,cn,M,hw,wb];dsimp +instances only[Aa,Ab,Ac,Ad,Ae,Af,Ag];refine aa.p (aa.p (aa.p (aa.p (aa.p (aa.p (aa.p (aa.p ?_)))))));refine aa.some ⟨0,rfl,rfl,_,rfl,hr.set ?_ ?_⟩<;>split<;>omega
 ·exact aa.p (aa.some ⟨0,rfl,rfl,_,rfl,hr⟩)
theorem ajB{r0 r1 r2 row:List (List G)}{a b:ByteArray}{i k m:Nat}{c d q u v:Int}(hk1:1<=k)(hk:k<m)(hb:m=b.size+1)(hi1:1<=i)(ha:i<=a.size)(hr:gQ m i row)(y:gQ m (i-1) r2)(h1:2<=i->gQ m (i-2) r1)(c0:0<=c)(c1:c<=1)(hi:i<=1000)(hm:m<=1000) :
  aa (vP [.l r0,.l r1,.l r2,.l row,.s a,.s b,.i (i:Int),.i (k:Int),.i c,.i d,.i q,.i u,.i v]) fun o=>∃ x,o.1=some x/\KA r0 r1 r2 a b i m d q u v x o.2:=by
 unfold vP;dsimp +instances only[Aa,Ab,Ac,Ad,Ae,Af,Ag];obtain⟨v1,O,v10,v11⟩:=y.val k hk;obtain⟨v2,U,v20,v21⟩:=hr.val (k-1) (by omega);obtain⟨v3,W,v30,v31⟩:=y.val (k-1) (by omega);have n1:((k:Int)).toNat=k:=aK k;have n2:((k:Int)-1).toNat=k-1:=by omega
 have l1:=hr.len;have l2:=y.len;simp only[n1,n2,cn,O,U,W,wb];dsimp +instances only[Aa,Ab,Ac,Ad,Ae,Af,Ag];obtain⟨V,hV,V0,V1⟩:∃ V:Int,(if v3+c<(if v2+1<v1+1 then v2+1 else v1+1) then v3+c else (if v2+1<v1+1 then v2+1 else v1+1))=V/\0<=V/\V<=(i:Int)+(k:Int):=by
  refine⟨_,rfl,?_,?_⟩<;>split<;>(try split)<;>omega
 simp only[hV];have M:=hr.set V0 V1;refine aa.p (aa.p (aa.p (aa.p (aa.p (aa.p (aa.p (aa.p (aa.p (aa.p (aa.p ?_))))))))));have fin:∀(f:Bool),(f=true->2<=i/\2<=k)->aa (aR (ai row.length (row.set k [.i V]).length&&true) (cG (vO [.l r0,.l r1,.l r2,.l (row.set k [.i V]),.s a,.s b,.i (i:Int),.i (k:Int),.i d,.i q,.i u,.i v,.t f])) fun cg g=>(bif (ai (gi g 3).rows.length (gi g 3).rows.length)&&true then some ((some 0:Option Nat),[G.l (gi g 0).rows,.l (gi g 1).rows,.l (gi g 2).rows,.l (gi g 3).rows,.s (gi g 4).str,.s (gi g 5).str,.i (gi g 6).int,.i (gi g 7).int,.i (gi g 8).int,.i (gi g 9).int,.i (gi g 10).int]) else none))
   fun o=>∃ x,o.1=some x/\KA r0 r1 r2 a b i m d q u v x o.2:=fun f I=>by
  refine aa.tail (ajA hk M (fun h=>⟨(I h).1,(I h).2,h1 (I h).1⟩) hi hm) (by(first|rfl|assumption|(simp only[ao,sl]<;>omega))) ?_;rintro _ _ ⟨rfl,N,rfl,hr'⟩;dsimp +instances only[Aa,Ab,Ac,Ad,Ae,Af,Ag];exact aa.p (aa.some ⟨0,rfl,rfl,N,rfl,hr'⟩)
 refine aa.test (fun g1=>?_) fun g1=>fin false (fun h=>by cases h);rw[cd,decide_eq_true_eq]at g1;refine aa.test (fun g2=>?_) fun g2=>fin false (fun h=>by cases h);rw[cd,decide_eq_true_eq]at g2;refine aa.p (aa.p (aa.p (aa.p ?_)));refine aa.test (fun g3=>?_) fun g3=>fin false (fun h=>by cases h);refine aa.p (aa.p (aa.p (aa.p ?_)));exact fin _ fun _=>⟨by omega,by omega⟩
theorem KB{r0 r1 r2 row:List (List G)}{a b:ByteArray}{d g q u:Int}{k:Nat}(hk:k<=1000) :
  aa (qy [.l r0,.l r1,.l r2,.l row,.s a,.s b,.i d,.i g,.i q,.i u,.i (k:Int)]) fun o=>∃ x,o.1=some x/\ajz [.l r0,.l r1,.l r2,.l row,.s a,.s b,.i d,.i g,.i q,.i u,.i ((k:Int)+1)] x o.2:=by
 unfold qy;dsimp +instances only[Aa,Ab,Ac,Ad,Ae,Af,Ag];exact aa.p (aa.p (aa.some ⟨0,rfl,rfl,rfl⟩))
theorem UU{r0 r1 r2:List (List G)}{a b:ByteArray}{i m:Nat}{n:Int}(hb:m=b.size+1)(ha:i<=a.size)(u:1<=i->gQ m (i-1) r2)(h1:2<=i->gQ m (i-2) r1)(hi:i<=1000)(hm:m<=1000):∀(t k:Nat) (row:List (List G)),k+t=m->gQ m i row ->
  aL vQ [.l r0,.l r1,.l r2,.l row,.s a,.s b,.i (i:Int),.i n,.i (i:Int),.i (m:Int),.i (k:Int)] (t+1) fun x g=>x=0/\∃ d,g=[.l r0,.l r1,.l r2,.l d,.s a,.s b,.i n,.i (i:Int)]/\gQ m i d
 | 0,k,row,hk,hr=>by
  refine aL.stop (x:=0) (aa.toEq ?_) ⟨rfl,row,rfl,hr⟩;unfold vQ;dsimp +instances only[Aa,Ab,Ac,Ad,Ae,Af,Ag];exact aa.n (aa.p (aa.some rfl))
 | t+1,k,row,hk,hr=>by
  have step:aa (vQ [.l r0,.l r1,.l r2,.l row,.s a,.s b,.i (i:Int),.i n,.i (i:Int),.i (m:Int),.i (k:Int)]) fun o=>∃ d,o=(none,[.l r0,.l r1,.l r2,.l d,.s a,.s b,.i (i:Int),.i n,.i (i:Int),.i (m:Int),.i ((k:Int)+1)])/\gQ m i d:=by
   unfold vQ;dsimp +instances only[Aa,Ab,Ac,Ad,Ae,Af,Ag];have N:=hr.len;have v:((k:Int)).toNat=k:=aK k;simp only[v,cn,wb];refine aa.p (aa.test (fun g0=>?_) fun g0=>aa.test (fun g1=>?_) fun g1=>?_)
   ·refine aa.p (aa.p ?_)
    refine aa.tail (KB (k:=k) (by omega)) (by(first|rfl|assumption|(simp only[ao,sl]<;>omega))) ?_;rintro _ _ ⟨rfl,rfl⟩;dsimp +instances only[Aa,Ab,Ac,Ad,Ae,Af,Ag];exact aa.p (aa.some ⟨_,rfl,hr.set (by omega) (by omega)⟩)
   ·refine aa.p (aa.p ?_)
    refine aa.tail (KB (k:=k) (by omega)) (by(first|rfl|assumption|(simp only[ao,sl]<;>omega))) ?_;rintro _ _ ⟨rfl,rfl⟩;dsimp +instances only[Aa,Ab,Ac,Ad,Ae,Af,Ag];exact aa.p (aa.some ⟨_,rfl,hr.set (by omega) (by omega)⟩)
   ·have i1:1<=i:=by
     have:¬ ((i:Int)=0):=by simpa using g0
     omega
    have y:1<=k:=by
     have:¬ ((k:Int)=0):=by simpa using g1
     omega
    have fin:∀ c:Int,0<=c->c<=1->aa (aR (ai row.length row.length&&true) (cG (vP [.l r0,.l r1,.l r2,.l row,.s a,.s b,.i (i:Int),.i (k:Int),.i c,.i n,.i (i:Int),.i (m:Int),.i (k:Int)])) fun I g=>aR (ai (gi g 3).rows.length (gi g 3).rows.length&&true) (cG (qy [.l (gi g 0).rows,.l (gi g 1).rows,.l (gi g 2).rows,.l (gi g 3).rows,.s (gi g 4).str,.s (gi g 5).str,.i (gi g 6).int,.i (gi g 7).int,.i (gi g 8).int,.i (gi g 9).int,.i (gi g 10).int])) fun I g=>(bif (ai (gi g 3).rows.length (gi g 3).rows.length)&&true then some ((none:Option Nat),[G.l (gi g 0).rows,.l (gi g 1).rows,.l (gi g 2).rows,.l (gi g 3).rows,.s (gi g 4).str,.s (gi g 5).str,.i (gi g 6).int,.i (gi g 7).int,.i (gi g 8).int,.i (gi g 9).int,.i (gi g 10).int]) else none))
      fun o=>∃ d,o=(none,[.l r0,.l r1,.l r2,.l d,.s a,.s b,.i (i:Int),.i n,.i (i:Int),.i (m:Int),.i ((k:Int)+1)])/\gQ m i d:=fun c M c1=>by
     refine aa.tail (ajB y (by omega) hb i1 ha hr (u i1) h1 M c1 hi hm) (by(first|rfl|assumption|(simp only[ao,sl]<;>omega))) ?_;rintro _ _ ⟨rfl,d,rfl,q⟩;dsimp +instances only[Aa,Ab,Ac,Ad,Ae,Af,Ag];refine aa.tail (KB (k:=k) (by omega)) (by(first|rfl|assumption|(simp only[ao,sl]<;>omega))) ?_;rintro _ _ ⟨rfl,rfl⟩;dsimp +instances only[Aa,Ab,Ac,Ad,Ae,Af,Ag];exact aa.p (aa.some ⟨d,rfl,q⟩)
    refine aa.p (aa.p (aa.p (aa.p ?_)));exact aa.test (fun _=>fin 0 (by omega) (by omega)) fun _=>fin 1 (by omega) (by omega)
  obtain⟨o,h,d,rfl,q⟩:=step;exact aL.next h (UU hb ha u h1 hi hm t (k+1) d (by omega) q)
theorem UW{a b:ByteArray}{m:Nat}(hb:m=b.size+1)(ha:a.size<=100)(hm:m<=1000):∀(t i:Nat) (r0 r1 r2:List (List G)),i+t=a.size+1->(1<=i->gQ m (i-1) r2)->(2<=i->gQ m (i-2) r1) ->
  aL vR [.l r0,.l r1,.l r2,.s a,.s b,.i ((a.size:Nat)+1:Int),.i (i:Int)] (t+1) fun x g=>x=0/\∃ r0 r1 r2,g=[.l r0,.l r1,.l r2,.s b]/\r2.length=m
 | 0,i,r0,r1,r2,hi,d,h1=>by
  refine aL.stop (x:=0) (aa.toEq ?_) ⟨rfl,r0,r1,r2,rfl,(d (by omega)).len⟩;unfold vR;dsimp +instances only[Aa,Ab,Ac,Ad,Ae,Af,Ag];exact aa.n (aa.some rfl)
 | t+1,i,r0,r1,r2,hi,d,h1=>by
  have step:aa (vR [.l r0,.l r1,.l r2,.s a,.s b,.i ((a.size:Nat)+1:Int),.i (i:Int)]) fun o=>∃ row,o=(none,[.l r1,.l r2,.l row,.s a,.s b,.i ((a.size:Nat)+1:Int),.i ((i:Int)+1)])/\gQ m i row:=by
   unfold vR;dsimp +instances only[Aa,Ab,Ac,Ad,Ae,Af,Ag];have k:(((b.size:Nat):Int)+1).toNat=m:=by omega
   simp only[k];refine aa.p (aa.p (aa.p ?_));refine aa.loop ((UU hb (by omega) d h1 (by omega) hm m 0 _ (by omega) (gQ.zero m i)).to (by omega)) (by(first|rfl|assumption|(simp only[ao,sl]<;>omega))) ?_;rintro _ _ ⟨rfl,row,rfl,hr⟩;dsimp +instances only[Aa,Ab,Ac,Ad,Ae,Af,Ag];exact aa.p (aa.p (aa.some ⟨row,rfl,hr⟩))
  obtain⟨o,h,row,rfl,hr⟩:=step;exact aL.next h (UW hb ha hm t (i+1) r1 r2 row (by omega) (fun _=>hr) (fun h=>d (by omega)))
theorem ajC{a b:ByteArray}(ha:a.size<=100)(hb:b.size<=100):aa (Dj [.s a,.s b]) fun g=>∃ v:Int,g=[.i v]:=by
 unfold Dj;dsimp +instances only[Aa,Ab,Ac,Ad,Ae,Af,Ag];refine aa.p ?_;refine aa.loop ((UW (m:=b.size+1) rfl ha (by omega) (a.size+1) 0 [] [] [] (by omega) (fun h=>by omega) (fun h=>by omega)).to (by omega)) (by(first|rfl|assumption|(simp only[ao,sl]<;>omega))) ?_;rintro _ _ ⟨rfl,r0,r1,r2,rfl,d⟩;dsimp +instances only[Aa,Ab,Ac,Ad,Ae,Af,Ag];exact aa.p (aa.some ⟨_,rfl⟩)
structure pe (L:List (List G)) (C:Nat->ByteArray) (A:Nat->List (List G)):Prop where
 get:∀ i,i<L.length->L.getD i []=[.s (C i),.l (A i)]
 n:L.length<=40
 oa:∀ i,i<L.length->∀ z∈A i,fJ z/\(gi z 3).str.size<=100
 na:∀ i,i<L.length->(A i).length<=40
 cs:∀ i,i<L.length->(C i).size<=100
 wv:∀ i j,i<j->j<L.length->eX (C i) (C j)<0
theorem ajD:((dB 80).all fun n=>tD .u64 (IntKind.u64.wrap ((n:Nat):Int)) 1==((n / 2:Nat):Int))=true:=by kernel_rfl
theorem ajE(i j:Nat)(h:i+j<80):tD .u64 (IntKind.u64.wrap ((i:Int)+(j:Int))) 1=(((i+j) / 2:Nat):Int):=by
 have:=da.1 ajD (i+j) (fu.2 h);rw[beq_iff_eq]at this;rw[<-this];congr 2
section
variable {L:List (List G)} {C:Nat->ByteArray} {A:Nat->List (List G)} (S:pe L C A)
include S
theorem pe.two{i k:Nat}(hi:i<L.length)(hk:k<L.length):fo (A i) (A k) :=
 ⟨fun z d=>(S.oa i hi z d).1,fun z d=>(S.oa k hk z d).1,by have:=S.na i hi; omega,by have:=S.na k hk; omega⟩
theorem pe.mem{i j:Nat}(hi:i<L.length)(d:j<(A i).length):fJ ((A i).getD j [])/\(gi ((A i).getD j []) 3).str.size<=100 :=
 S.oa i hi _ (by rw[bP,bx d]; exact th d)
theorem pe.key{i:Nat}(hi:i<L.length):(gi (L.getD i []) 0).str=C i:=by rw[S.get i hi]; rfl
theorem KC(s:ByteArray):∀(m i j:Nat),j<=i+m->i<=j->j<=L.length->(∀ t,t<i->eX (C t) s<0)->(∀ t,j<=t->t<L.length->¬ eX (C t) s<0) ->
  aL vN [.l L,.s s,.i (L.length:Int),.i (i:Int),.i (j:Int)] (m+1) fun x g=>x=0/\∃ p:Nat,g=[.l L,.s s,.i (L.length:Int),.i (p:Int)]/\p<=L.length/\(∀ t,t<p->eX (C t) s<0)/\(∀ t,p<=t->t<L.length->¬ eX (C t) s<0)
 | m,i,j,hm,O,u,h1,v=>by
  have U:=S.n;by_cases he:i=j
  ·subst he
   refine aL.stop (x:=0) (aa.toEq ?_) ⟨rfl,i,rfl,u,h1,v⟩;unfold vN;dsimp +instances only[Aa,Ab,Ac,Ad,Ae,Af,Ag];exact aa.n (aa.some rfl)
  ·obtain ⟨m', rfl⟩ : ∃ m', m = m' + 1 := ⟨m - 1, by omega⟩
   have M:=ajE i j (by omega);have q:(i+j) / 2<L.length:=by omega
   have y:=S.get _ q;have step:∀ o,(bif aj (eX (C ((i+j) / 2)) s) 0 then some ((none:Option Nat),[G.l L,.s s,.i (L.length:Int),.i (((i+j) / 2+1:Nat):Int),.i (j:Int)]) else some (none,[.l L,.s s,.i (L.length:Int),.i (i:Int),.i (((i+j) / 2:Nat):Int)]))=some o ->
     vN [.l L,.s s,.i (L.length:Int),.i (i:Int),.i (j:Int)]=some o:=fun o ho=>by
    refine aa.toEq ?_;unfold vN;dsimp +instances only[Aa,Ab,Ac,Ad,Ae,Af,Ag];simp only[M,aK,y];refine aa.p (aa.p (aa.p (aa.p ?_)));refine aa.call (P:=fun g=>g=[.i (eX (C ((i+j) / 2)) s)]) (aa.eq rfl) ?_;rintro _ rfl;dsimp +instances only[Aa,Ab,Ac,Ad,Ae,Af,Ag];refine aa.test (fun h=>?_) fun h=>?_
    ·rw [h, cond_true] at ho
     refine aa.p (aa.some ?_);cases ho;rfl
    ·rw [h, cond_false] at ho
     refine aa.some ?_;cases ho;rfl
   by_cases d:eX (C ((i+j) / 2)) s<0
   ·refine aL.next (step _ (by rw [cd, decide_eq_true d]; rfl)) (KC s m' _ j (by omega) (by omega) u (fun t N => ?_) v)
    rcases kU t ((i+j) / 2)with h|h
    ·exact Ud.tr _ _ _ (S.wv t _ h q) d
    ·rw [show t = (i + j) / 2 by omega]
     exact d
   ·refine aL.next (step _ (by rw [cd, decide_eq_false d]; rfl)) (KC s m' i _ (by omega) (by omega) (by omega) h1 (fun t N I k => ?_))
    rcases kU ((i+j) / 2) t with h|h
    ·exact d (Ud.tr _ _ _ (S.wv _ t h I) k)
    ·rw [show t = (i + j) / 2 by omega] at k
     exact d k
theorem UX(s:ByteArray):aa (zn [.l L,.s s]) fun g=>∃(p:Nat) (b:Bool),g=[.i (p:Int),.t b]/\(b=true->p<L.length/\C p=s)/\(b=false->∀ k,k<L.length->C k≠s):=by
 have M:=S.n;unfold zn;dsimp +instances only[Aa,Ab,Ac,Ad,Ae,Af,Ag];refine aa.call (P:=fun g=>∃(p:Nat) (b:Bool),g=[.i (p:Int),.t b]/\(b=true->p<L.length/\C p=s)/\(b=false->∀ k,k<L.length->C k≠s)) ?_ ?_
 ·unfold JB
  dsimp +instances only[Aa,Ab,Ac,Ad,Ae,Af,Ag];refine aa.loop ((KC S s L.length 0 L.length (by omega) (by omega) (aB _) (fun t v=>by omega) (fun t h1 d=>by omega)).to (by omega)) rfl ?_;rintro _ _ ⟨rfl,p,rfl,N,y,I⟩;dsimp +instances only[Aa,Ab,Ac,Ad,Ae,Af,Ag];have q:∀ t,t<L.length->C t=s->t=p:=fun t v e=>by
   have h0:eX (C t) s=0:=sR.2 e;have h1:p<=t:=al8 fun h=>by have:=y t h; omega
   refine Nat.le_antisymm (al8 fun h=>?_) h1;have d:=S.wv p t h v;rw[e]at d;exact I p (aB _) (by omega) d
  refine aa.test (fun h=>?_) fun h=>?_
  ·simp only [cd, decide_eq_true_eq] at h
   have u:p<L.length:=by omega
   simp only[aK,S.get p u];refine aa.p ?_;refine aa.call (P:=fun g=>g=[.i (eX (C p) s)]) (aa.eq rfl) ?_;rintro _ rfl;refine aa.some ⟨p,_,rfl,fun hb=>⟨u,?_⟩,fun hb k hk e=>?_⟩
   ·have hb : (eX (C p) s == 0) = true := hb
    rw[beq_iff_eq]at hb;exact sR.1 hb
   ·have := q k hk e
    subst this;have hb:(eX (C k) s==0)=false:=hb;rw[sR.2 e]at hb;cases hb
  ·simp only [cd, decide_eq_false_iff_not] at h
   exact aa.some ⟨p,false,rfl,fun hb=>(by cases hb),fun _ k hk e=>by have:=q k hk e; omega⟩
 ·rintro _ ⟨p, b, rfl, h⟩
  exact aa.some ⟨p,b,rfl,h⟩
end
def bJ(A:Nat->List (List G))(C:Nat->ByteArray)(own:Nat)(off:Int)(k:Nat):List (List G):=gA (A own) (A k) (C own) (C k) off
def kR(k:Nat)(ks:List Nat):List Nat:=match gP k ks with
 |some _=>ks
 |none=>ks++[k]
theorem UY(k:Nat)(ks:List Nat):∃ n,gP k (kR k ks)=some n:=by
 unfold kR;cases h:gP k ks with
 |some n=>exact⟨n,h⟩
 |none=>exact⟨_,Kw (Kv.1 h)⟩
theorem UZ{L R1 R2 M T:List (List G)}{own off k:Int}{c1 c2:Nat}(h1:lX [.int .i64] R1 [.i k]=some M.length)(d:lX [.int .i64] R2 [.i k]=some T.length):∀(q p:List (List G)),p.length+q.length<=100000 ->
  aL zo [.l L,.i own,.i off,.l R1,.l (M++[n_ (iG wu p ([],0))]),.i (c1:Int),.l R2,.l (T++[n_ (iG UO p ([],0))]),.i (c2:Int),.i k,.l (p++q),.i ((p.length+q.length:Nat):Int),.i (p.length:Int)] (q.length+1) fun x g =>
   x=0/\g=[.l L,.i own,.i off,.l R1,.l (M++[eZ (p++q)]),.i (c1:Int),.l R2,.l (T++[e9 (p++q)]),.i (c2:Int)]
 | [],p,u=>by
  refine aL.stop (x:=0) (aa.toEq ?_) ⟨rfl,rfl⟩;unfold zo;dsimp +instances only[Aa,Ab,Ac,Ad,Ae,Af,Ag];refine aa.n (aa.some ?_);rw[cB];rfl
 | r::q,p,u=>by
  simp only[bG]at u;have v:=UZ (L:=L) (own:=own) (off:=off) (c1:=c1) (c2:=c2) h1 d q (p++[r]) (by simp; omega);have g1:(p++r::q).getD (p.length:Int).toNat []=r:=l9 _ _ _ _ _ (by simp);rw[aK]at g1;have hlen:(p++r::q).length=p.length+q.length+1:=by simp; omega
  have y:(p++[r])++q=p++r::q:=by simp
  have I:(((p++[r]).length+q.length:Nat):Int)=((p.length+(r::q).length:Nat):Int):=by simp; omega
  have N:(((p++[r]).length:Nat):Int)=(p.length:Int)+1:=by simp
  rw[y,I,N]at v;refine aL.next (aa.toEq ?_) v
  unfold zo;dsimp +instances only[Aa,Ab,Ac,Ad,Ae,Af,Ag];simp only[g1,hlen,bG,aK,h1,d];refine aa.p (aa.p (aa.pos rfl (aa.pos (UR _ _) (aa.pos rfl (aa.pos (UR _ _) (aa.p (aa.some ?_)))))));rw[UQ,UQ,UP,UP];rfl
section
variable {L:List (List G)} {C:Nat->ByteArray} {A:Nat->List (List G)} (S:pe L C A) {own:Nat} (ho:own<L.length) (off:Int)
include S ho
theorem U0{k:Nat}(hk:k<L.length)(ks:List Nat):zp [G.l L,.i (own:Int),.i off,.l (bD 0 ks),.l (ks.map fun k=>eZ (bJ A C own off k)),.i ((ks.length:Nat):Int),.l (bD 0 ks),.l (ks.map fun k=>e9 (bJ A C own off k)),.i ((ks.length:Nat):Int),.i (k:Int)]=some [G.l L,.i (own:Int),.i off,.l (bD 0 (kR k ks)),.l ((kR k ks).map fun k=>eZ (bJ A C own off k)),.i (((kR k ks).length:Nat):Int),.l (bD 0 (kR k ks)),.l ((kR k ks).map fun k=>e9 (bJ A C own off k)),.i (((kR k ks).length:Nat):Int)]:=by
 refine aa.toEq ?_;unfold zp;dsimp +instances only[Aa,Ab,Ac,Ad,Ae,Af,Ag];simp only[DH,ajw,aK];unfold kR;cases h:gP k ks with
 |some n=>exact aa.pos rfl (aa.some rfl)
 | none =>
  have d:=ajx k ks;have g:=ajy k ks;unfold wq at d g;refine aa.pos rfl (aa.neg rfl (aa.pos rfl (aa.pos d (aa.pos rfl (aa.pos d (aa.p (aa.p ?_)))))));simp only[S.get own ho,S.get k hk];refine aa.cE (Ux (S.two ho hk) (C own) (C k) off) ?_;dsimp +instances only[Aa,Ab,Ac,Ad,Ae,Af,Ag];simp only[bN];rw[g];have hb:=Uz (S.two ho hk) (C own) (C k) off;have u:=S.na own ho;have q:lX [.int .i64] (bD 0 (ks++[k])) [.i (k:Int)]=some ks.length:=by rw[DH]; exact Kw (Kv.1 h)
  have hr:=UZ (L:=L) (own:=(own:Int)) (off:=off) (k:=(k:Int)) (R1:=bD 0 (ks++[k])) (R2:=bD 0 (ks++[k])) (M:=ks.map fun k=>eZ (bJ A C own off k)) (T:=ks.map fun k=>e9 (bJ A C own off k)) (c1:=ks.length+1) (c2:=ks.length+1)
   (by rw[bN]; exact q) (by rw[bN]; exact q) (bJ A C own off k) [] (by unfold bJ; simp; omega)
  simp only[iY,k6,cn]at hr;refine aa.loop (hr.to (by unfold bJ; omega)) rfl ?_;rintro _ _ ⟨rfl,rfl⟩;dsimp +instances only[Aa,Ab,Ac,Ad,Ae,Af,Ag];refine aa.some ?_;simp only[aK,eO,bX,k8,en,List.length_singleton]
def DI(x y:List G):Bool:=(gi x 4).int==(gi y 5).int&&(gi x 6).str.toList==(gi y 7).str.toList
omit S ho in
theorem U1(x y:List G):zq [.l [x],.l [y]]=some [.t (DI x y)]:=by
 refine aa.toEq ?_;unfold zq DI;dsimp +instances only[Aa,Ab,Ac,Ad,Ae,Af,Ag];refine aa.test (fun h=>aa.some ?_) fun h=>aa.some ?_<;>rw[h]<;>rfl
theorem U2{k:Nat}(hk:k<L.length){t m s h:Int}{b c x y:ByteArray}(u:fJ [.i t,.i m,.s b,.s c,.i s,.i h,.s x,.s y]){ks:List Nat}{n:Nat}(q:gP k ks=some n):∀(d i:Nat),i+d=(A k).length ->
  aL vS [G.l L,.i (own:Int),.i off,.l (bD 0 ks),.l (ks.map fun k=>eZ (bJ A C own off k)),.i ((ks.length:Nat):Int),.l (bD 0 ks),.l (ks.map fun k=>e9 (bJ A C own off k)),.i ((ks.length:Nat):Int),.i t,.i m,.s b,.s c,.i s,.i h,.s x,.s y,.i (k:Int),.l (A k),.i ((A k).length:Int),.i (i:Int)] (d+1) fun e g =>
   (e=0/\∃ v:Nat,v<(A k).length/\g=[G.l L,.i (own:Int),.i off,.l (bD 0 ks),.l (ks.map fun k=>eZ (bJ A C own off k)),.i ((ks.length:Nat):Int),.l (bD 0 ks),.l (ks.map fun k=>e9 (bJ A C own off k)),.i ((ks.length:Nat):Int),.i (v:Int)])\/e=1/\g=[G.l L,.i (own:Int),.i off,.l (bD 0 ks),.l (ks.map fun k=>eZ (bJ A C own off k)),.i ((ks.length:Nat):Int),.l (bD 0 ks),.l (ks.map fun k=>e9 (bJ A C own off k)),.i ((ks.length:Nat):Int)]
 | 0,i,hi=>by
  refine aL.stop (x:=1) (aa.toEq ?_) (.inr ⟨rfl,rfl⟩);unfold vS;dsimp +instances only[Aa,Ab,Ac,Ad,Ae,Af,Ag];refine aa.n (aa.some ?_);simp only[aK]
 | d+1,i,hi=>by
  have U:=S.na k hk;have O:=U2 hk u q d (i+1) (by omega);obtain⟨I,V⟩:=S.mem (i:=k) (j:=i) hk (by omega);have step:aa (vS [G.l L,.i (own:Int),.i off,.l (bD 0 ks),.l (ks.map fun k=>eZ (bJ A C own off k)),.i ((ks.length:Nat):Int),.l (bD 0 ks),.l (ks.map fun k=>e9 (bJ A C own off k)),.i ((ks.length:Nat):Int),.i t,.i m,.s b,.s c,.i s,.i h,.s x,.s y,.i (k:Int),.l (A k),.i ((A k).length:Int),.i (i:Int)]) fun o =>
    o=(some 0,[G.l L,.i (own:Int),.i off,.l (bD 0 ks),.l (ks.map fun k=>eZ (bJ A C own off k)),.i ((ks.length:Nat):Int),.l (bD 0 ks),.l (ks.map fun k=>e9 (bJ A C own off k)),.i ((ks.length:Nat):Int),.i (i:Int)])\/o=(none,[G.l L,.i (own:Int),.i off,.l (bD 0 ks),.l (ks.map fun k=>eZ (bJ A C own off k)),.i ((ks.length:Nat):Int),.l (bD 0 ks),.l (ks.map fun k=>e9 (bJ A C own off k)),.i ((ks.length:Nat):Int),.i t,.i m,.s b,.s c,.i s,.i h,.s x,.s y,.i (k:Int),.l (A k),.i ((A k).length:Int),.i ((i:Int)+1)]):=by
   unfold vS;dsimp +instances only[Aa,Ab,Ac,Ad,Ae,Af,Ag];have M:=(DG q).1;have N:mQ (ks.map fun k=>e9 (bJ A C own off k)) (some n)=true:=by
    show Nat.blt n (ks.map fun k=>e9 (bJ A C own off k)).length=true
    rw[bN];simpa using M
   simp only[aK,DH,q,I.1];refine aa.p (aa.p (aa.p ?_));have out:aa (bif ao ((i:Int)+1) then some ((none:Option Nat),[G.l L,.i (own:Int),.i off,.l (bD 0 ks),.l (ks.map fun k=>eZ (bJ A C own off k)),.i ((ks.length:Nat):Int),.l (bD 0 ks),.l (ks.map fun k=>e9 (bJ A C own off k)),.i ((ks.length:Nat):Int),.i t,.i m,.s b,.s c,.i s,.i h,.s x,.s y,.i (k:Int),.l (A k),.i ((A k).length:Int),.i ((i:Int)+1)]) else none) fun o =>
    o=(some 0,[G.l L,.i (own:Int),.i off,.l (bD 0 ks),.l (ks.map fun k=>eZ (bJ A C own off k)),.i ((ks.length:Nat):Int),.l (bD 0 ks),.l (ks.map fun k=>e9 (bJ A C own off k)),.i ((ks.length:Nat):Int),.i (i:Int)])\/o=(none,[G.l L,.i (own:Int),.i off,.l (bD 0 ks),.l (ks.map fun k=>eZ (bJ A C own off k)),.i ((ks.length:Nat):Int),.l (bD 0 ks),.l (ks.map fun k=>e9 (bJ A C own off k)),.i ((ks.length:Nat):Int),.i t,.i m,.s b,.s c,.i s,.i h,.s x,.s y,.i (k:Int),.l (A k),.i ((A k).length:Int),.i ((i:Int)+1)]):=aa.p (aa.some (.inr rfl))
   refine aa.test (fun _=>?_) fun _=>out;refine aa.cE (Kg off u I) ?_;refine aa.test (fun _=>?_) fun _=>out;refine aa.pos rfl (aa.pos N (aa.test (fun _=>?_) fun _=>out));refine aa.cE (U1 _ _) ?_;exact aa.test (fun _=>aa.some (.inl rfl)) fun _=>out
  obtain⟨o,h,rfl|rfl⟩:=step
  ·exact aL.stop h (.inl ⟨rfl,i,by omega,rfl⟩)
  ·exact aL.next h O
theorem ajF{k:Nat}(hk:k<L.length){t m s h:Int}{b c x y:ByteArray}(u:fJ [.i t,.i m,.s b,.s c,.i s,.i h,.s x,.s y])(q:c.size<=100)(ks:List Nat) :
  aa (Dk [G.l L,.i (own:Int),.i off,.l (bD 0 ks),.l (ks.map fun k=>eZ (bJ A C own off k)),.i ((ks.length:Nat):Int),.l (bD 0 ks),.l (ks.map fun k=>e9 (bJ A C own off k)),.i ((ks.length:Nat):Int),.l [[.i t,.i m,.s b,.s c,.i s,.i h,.s x,.s y]],.i (k:Int)]) fun g=>∃(d:List Nat) (v:Int),g=[G.l L,.i (own:Int),.i off,.l (bD 0 d),.l (d.map fun k=>eZ (bJ A C own off k)),.i ((d.length:Nat):Int),.l (bD 0 d),.l (d.map fun k=>e9 (bJ A C own off k)),.i ((d.length:Nat):Int),.i v]/\(0<=v->v<((A k).length:Int)):=by
 have M:=S.na k hk;unfold Dk;dsimp +instances only[Aa,Ab,Ac,Ad,Ae,Af,Ag];simp only[aK,S.get k hk];refine aa.p ?_;refine aa.call (ajC (S.cs k hk) q) ?_;rintro _ ⟨v,rfl⟩;dsimp +instances only[Aa,Ab,Ac,Ad,Ae,Af,Ag];refine aa.test (fun _=>aa.some ⟨ks,-1,rfl,fun h=>by omega⟩) fun _=>?_;refine aa.cE (U0 S ho off hk ks) ?_;dsimp +instances only[Aa,Ab,Ac,Ad,Ae,Af,Ag];simp only[aK,S.get k hk];refine aa.p ?_;obtain⟨n,I⟩:=UY k ks;refine aa.loop ((U2 S ho off hk u I (A k).length 0 (by omega)).to (by omega)) rfl ?_;rintro _ _ (⟨rfl,v,N,rfl⟩|⟨rfl,rfl⟩)
 ·(dsimp +instances only [Aa,Ab,Ac,Ad,Ae,Af,Ag])
  simp only[aK];exact aa.pos rfl (aa.some ⟨kR k ks,(v:Int),rfl,fun _=>by omega⟩)
 ·(dsimp +instances only [Aa,Ab,Ac,Ad,Ae,Af,Ag])
  simp only[aK];exact aa.neg rfl (aa.some ⟨kR k ks,-1,rfl,fun h=>by omega⟩)
def DJ(L:List (List G))(A:Nat->List (List G))(s v:Int):Prop:=0<=s->∃ k:Nat,s=(k:Int)/\k<L.length/\0<=v/\v<((A k).length:Int)
theorem U3{t m s h:Int}{b c x y:ByteArray}(O:fJ [.i t,.i m,.s b,.s c,.i s,.i h,.s x,.s y])(N:c.size<=100):∀(d i:Nat) (ks:List Nat) (u v:Int),i+d=L.length->DJ L A u v ->
  aL vT [G.l L,.i (own:Int),.i off,.l (bD 0 ks),.l (ks.map fun k=>eZ (bJ A C own off k)),.i ((ks.length:Nat):Int),.l (bD 0 ks),.l (ks.map fun k=>e9 (bJ A C own off k)),.i ((ks.length:Nat):Int),.i t,.i m,.s b,.s c,.i s,.i h,.s x,.s y,.i u,.i v,.l L,.i (L.length:Int),.i (i:Int)] (d+1) fun e g =>
   (e=0\/e=1)/\∃(q:List Nat) (u v:Int),g=[G.l L,.i (own:Int),.i off,.l (bD 0 q),.l (q.map fun k=>eZ (bJ A C own off k)),.i ((q.length:Nat):Int),.l (bD 0 q),.l (q.map fun k=>e9 (bJ A C own off k)),.i ((q.length:Nat):Int),.i u,.i v]/\DJ L A u v
 | 0,i,ks,u,v,hi,I=>by
  refine aL.stop (x:=1) (aa.toEq ?_) ⟨.inr rfl,ks,u,v,rfl,I⟩;unfold vT;dsimp +instances only[Aa,Ab,Ac,Ad,Ae,Af,Ag];refine aa.n (aa.some ?_);simp only[aK]
 | d+1,i,ks,u,v,hi,I=>by
  have hn:=S.n;have M:i<L.length:=by omega
  have step:aa (vT [G.l L,.i (own:Int),.i off,.l (bD 0 ks),.l (ks.map fun k=>eZ (bJ A C own off k)),.i ((ks.length:Nat):Int),.l (bD 0 ks),.l (ks.map fun k=>e9 (bJ A C own off k)),.i ((ks.length:Nat):Int),.i t,.i m,.s b,.s c,.i s,.i h,.s x,.s y,.i u,.i v,.l L,.i (L.length:Int),.i (i:Int)]) fun o =>
    (∃ q:List Nat,o=(some 0,[G.l L,.i (own:Int),.i off,.l (bD 0 q),.l (q.map fun k=>eZ (bJ A C own off k)),.i ((q.length:Nat):Int),.l (bD 0 q),.l (q.map fun k=>e9 (bJ A C own off k)),.i ((q.length:Nat):Int),.i (-1),.i (-1)]))\/∃(q:List Nat) (u v:Int),o=(none,[G.l L,.i (own:Int),.i off,.l (bD 0 q),.l (q.map fun k=>eZ (bJ A C own off k)),.i ((q.length:Nat):Int),.l (bD 0 q),.l (q.map fun k=>e9 (bJ A C own off k)),.i ((q.length:Nat):Int),.i t,.i m,.s b,.s c,.i s,.i h,.s x,.s y,.i u,.i v,.l L,.i (L.length:Int),.i ((i:Int)+1)])/\DJ L A u v:=by
   unfold vT;dsimp +instances only[Aa,Ab,Ac,Ad,Ae,Af,Ag];simp only[aK,S.get i M];refine aa.p (aa.p ?_);refine aa.test (fun _=>aa.p (aa.some (.inr ⟨ks,u,v,rfl,I⟩))) fun _=>?_;refine aa.test (fun _=>aa.p (aa.some (.inr ⟨ks,u,v,rfl,I⟩))) fun _=>?_;refine aa.call (ajF S ho off M O N ks) ?_;rintro _ ⟨q,w,rfl,hw⟩;dsimp +instances only[Aa,Ab,Ac,Ad,Ae,Af,Ag];simp only[aK];refine aa.test (fun h0=>?_) fun _=>aa.p (aa.some (.inr ⟨q,u,v,rfl,I⟩));rw[eT,decide_eq_true_eq]at h0;refine aa.test (fun _=>aa.some (.inl ⟨q,rfl⟩)) fun _=>?_;exact aa.p (aa.some (.inr ⟨q,(i:Int),w,rfl,fun _=>⟨i,rfl,M,h0,hw h0⟩⟩))
  obtain⟨o,h,⟨q,rfl⟩|⟨q,V,W,rfl,U⟩⟩:=step
  ·exact aL.stop h ⟨.inl rfl,q,-1,-1,rfl,fun h=>by omega⟩
  ·exact aL.next h (U3 O N d (i+1) q V W (by omega) U)
theorem ajG{t m s h:Int}{b c x y:ByteArray}(M:fJ [.i t,.i m,.s b,.s c,.i s,.i h,.s x,.s y])(I:c.size<=100)(ks:List Nat) :
  aa (vU [G.l L,.i (own:Int),.i off,.l (bD 0 ks),.l (ks.map fun k=>eZ (bJ A C own off k)),.i ((ks.length:Nat):Int),.l (bD 0 ks),.l (ks.map fun k=>e9 (bJ A C own off k)),.i ((ks.length:Nat):Int),.l [[.i t,.i m,.s b,.s c,.i s,.i h,.s x,.s y]]]) fun g=>∃(d:List Nat) (u v:Int),g=[G.l L,.i (own:Int),.i off,.l (bD 0 d),.l (d.map fun k=>eZ (bJ A C own off k)),.i ((d.length:Nat):Int),.l (bD 0 d),.l (d.map fun k=>e9 (bJ A C own off k)),.i ((d.length:Nat):Int),.i u,.i v]/\DJ L A u v:=by
 have N:=S.n;unfold vU;dsimp +instances only[Aa,Ab,Ac,Ad,Ae,Af,Ag];simp only[aK];refine aa.loop ((U3 S ho off M I L.length 0 ks (-1) 0 (by omega) (fun h=>by omega)).to (by omega)) rfl ?_;rintro _ _ ⟨rfl|rfl,d,u,v,rfl,q⟩
 ·(dsimp +instances only [Aa,Ab,Ac,Ad,Ae,Af,Ag])
  simp only[aK];exact aa.pos rfl (aa.some ⟨d,u,v,rfl,q⟩)
 ·(dsimp +instances only [Aa,Ab,Ac,Ad,Ae,Af,Ag])
  simp only[aK];exact aa.neg rfl (aa.some ⟨d,u,v,rfl,q⟩)
end
end
end Go.Proofs.iy
