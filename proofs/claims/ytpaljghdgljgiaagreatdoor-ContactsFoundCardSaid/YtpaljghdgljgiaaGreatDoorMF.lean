/-
 What is proved here: what the methods of the stream give on data. No condition.
-/
import Derived.Test.YtpaljghdgljgiaaGreatDoorML5
import Derived.Test.YtpaljghdgljgiaaGreatDoorME
set_option linter.all false
open Array renaming toList_inj->akA
open Bool renaming and_true->gW,and_eq_true->aL,false_eq_true->lk,true_and->j9,eq_iff_iff->mM,or_false->oL
open ByteArray renaming size_append->akJ
open Function renaming comp->Fk
open Go.ByteArray renaming toList_eq->qH
open Go.Lib renaming compareBytes->gI
open Int renaming toNat_natCast->a6,tmod->Bu,tdiv->Fo,tmod_lt_of_pos->akx,tmod_eq_emod_of_nonneg->aky,mul_nonneg->Ue,le_refl->x8,le_trans->J9,eq_ofNat_of_zero_le->Ke
open List renaming length_cons->cd,append_nil->dJ,append_assoc->gG,length_map->c9,mem_map->dw,getElem?_map->bW,getElem_of_mem->pG,getElem?_eq_getElem->bY,getElem?_eq_none->oG,getElem?_append_right->ja,getElem?_set_self->bB,getElem?_set->ef,all_eq_true->dK,getD_eq_getElem?_getD->cu,mem_cons->cq,map_cons->dx,cons_append->l7,ext_getElem?->jz,length_set->iv,length_append->fX,mem_append->c_,flatten_cons->pI,map_map->nI,nil_append->ll,replicate->cC,length_range->oI,mem_flatten->JR,mem_cons_self->cW,mem_cons_of_mem->dj,all_cons->nK,length_replicate->sK,map_append->jM,nodup_cons->pL,mem_singleton->l_,range->fj,mem_append_left->nO,map_congr_left->mL,any_eq_true->lq,mem_range->gH,length_nil->j_,map_nil->uK,mem_filter->sQ,not_mem_nil->oK,getElem?_range->pM,getElem_mem->uL,mem_append_right->pN,filter_cons->Fm,range_succ->Ua,pairwise_map->xZ,pairwise_iff_getElem->J4,pairwise_cons->sR,any_cons->uN,eq_replicate_iff->J',getElem?_replicate->akC,sum_cons->Ug,foldl_append->akD,filter_nil->Uh,nodup_append->Kb,length_filter_le->akE,Nodup->Kc,range_succ_eq_map->akF,nodup_range->akG,append_inj'->akI
open List.Pairwise renaming take->alb
open Nat renaming le_refl->aQ,le_trans->kJ,zero_le->eR,lt_or_ge->l5,zero_add->cP,beq->ar,sub_self->l9,ble->eh,ble_eq->sO,beq_refl->iM,exists_eq_add_of_le->akB,lt_trichotomy->J_,le_succ_of_le->Ka,succ_le_succ->Bv,le_of_not_lt->akH
open Option renaming map_some->e_,getD_some->oJ
open UInt8 renaming le_antisymm->J7,not_lt->uM,lt_irrefl->Uf,lt_trans->akz,ofNat->Kf
namespace Go.Proofs.jq
open Go Go.AL Go.Proofs
noncomputable section
theorem IQ(x n:Int)(h0:1<=n)(h1:n<=1099511627776):aa (wC [.i x,.i n]) fun g=>∃ v,g=[.i v]/\0<=v/\v<n:=by
 unfold wC;dsimp +instances only[gd,Aa,Ab,Ac,Ad,Ae,Af,Ag];have ha:=akx x (by omega:0<n);have hb:=Int.lt_tmod_of_pos x (by omega:0<n);(repeat first|refine aa.p ?_|refine aa.n ?_);refine aa.test (fun h=>?_) fun h=>?_
 ·simp only [cB, dT] at h
  (repeat first|refine aa.p ?_|refine aa.n ?_);exact aa.some ⟨_,rfl,by omega,by omega⟩
 ·simp only [cB, dF] at h
  exact aa.some ⟨_,rfl,by omega,by omega⟩
theorem ui(l:LL)(a n:Int)(ha:0<=a)(O:a<=1000000)(h0:1<=n)(h1:n<=1099511627776) :
  aa (ph [.l l,.i a,.i n]) fun g=>∃ v,g=[.l l,.i (a+1),.i v]/\0<=v/\v<n:=by
 unfold ph;dsimp +instances only[gd,Aa,Ab,Ac,Ad,Ae,Af,Ag];have y:a+1-1=a:=by omega
 simp only[y];by_cases U:l.length=0
 ·(repeat first|refine aa.p ?_|refine aa.n ?_)
  refine aa.call (IQ _ n h0 h1) ?_;rintro _ ⟨v,rfl,d,h⟩;dsimp +instances only[gd,Aa,Ab,Ac,Ad,Ae,Af,Ag];exact aa.some ⟨v,rfl,d,h⟩
 ·have I : (0 : Int) < (l.length : Int) := by omega
  have M:0<=Fo a l.length:=Int.tdiv_nonneg ha (by omega);have V:Fo a l.length<=a:=by
   rw[Int.tdiv_eq_ediv_of_nonneg ha];exact Int.ediv_le_self _ ha
  have W:0<=Bu a l.length:=by
   rw[aky ha];exact Int.emod_nonneg _ (by omega)
  have m1:Bu a l.length<l.length:=akx a I;have m2:Bu a l.length<=a:=by
   rw[aky ha];have:=Int.mul_ediv_add_emod a l.length;have k:0<=(l.length:Int)*(a / l.length):=Ue (by omega) (Int.ediv_nonneg ha (by omega));omega
  generalize hq:Fo a l.length=q at *;generalize hr:Bu a l.length=r at *;have p0:0<=q*(7919+r):=Ue M (by omega);have p1:q*(7919+r)<=1000000*2000000:=Int.mul_le_mul (by omega) (by omega) (by omega) (by omega);generalize hz:q*(7919+r)=z at *;(repeat first|refine aa.p ?_|refine aa.n ?_);refine aa.call (IQ _ 1073741824 (by omega) (by omega)) ?_;rintro _ ⟨u,rfl,d,h⟩;dsimp +instances only[gd,Aa,Ab,Ac,Ad,Ae,Af,Ag];(repeat first|refine aa.p ?_|refine aa.n ?_);refine aa.call (IQ _ n h0 h1) ?_;rintro _ ⟨v,rfl,k,N⟩;dsimp +instances only[gd,Aa,Ab,Ac,Ad,Ae,Af,Ag];exact aa.some ⟨v,rfl,k,N⟩
theorem IS(l:LL)(a lo hi:Int)(ha:0<=a)(d:a<=1000000)(h0:lo<=hi)(h1 : -1000000000<=lo)(h:hi<=1000000000) :
  aa (wD [.l l,.i a,.i lo,.i hi]) fun g=>∃ v,g=[.l l,.i (a+1),.i v]/\lo<=v/\v<=hi:=by
 unfold wD;dsimp +instances only[gd,Aa,Ab,Ac,Ad,Ae,Af,Ag];(repeat first|refine aa.p ?_|refine aa.n ?_);refine aa.call (ui l a _ ha d (by omega) (by omega)) ?_;rintro _ ⟨v,rfl,k,q⟩;dsimp +instances only[gd,Aa,Ab,Ac,Ad,Ae,Af,Ag];(repeat first|refine aa.p ?_|refine aa.n ?_);exact aa.some ⟨_,rfl,by omega,by omega⟩
theorem Rq{l:LL}{v:Int}(h0:0<=v)(h1:v<l.length):l.getD v.toNat []∈l:=by
 have:v.toNat<l.length:=by omega
 rw[cu,bY this];exact uL this
theorem Rr(P:Int->Prop)(l:LL)(a:Int)(d:LL)(ha:0<=a)(h:a<=1000000)(h0:1<=d.length)(h1:d.length<=1000000)(k:∀ x∈d,P (gi x 0).iV) :
  aa (lN [.l l,.i a,.l d]) fun g=>∃ v,g=[.l l,.i (a+1),.i v]/\P v:=by
 unfold lN;dsimp +instances only[gd,Aa,Ab,Ac,Ad,Ae,Af,Ag];refine aa.call (ui l a _ ha h (by omega) (by omega)) ?_;rintro _ ⟨v,rfl,q,y⟩;dsimp +instances only[gd,Aa,Ab,Ac,Ad,Ae,Af,Ag];(repeat first|refine aa.p ?_|refine aa.n ?_);exact aa.some ⟨_,rfl,k _ (Rq q y)⟩
theorem IT(P:BY->Prop)(l:LL)(a:Int)(d:LL)(ha:0<=a)(h:a<=1000000)(h0:1<=d.length)(h1:d.length<=1000000)(k:∀ x∈d,P (gi x 0).sV) :
  aa (iU [.l l,.i a,.l d]) fun g=>∃ v,g=[.l l,.i (a+1),.s v]/\P v:=by
 unfold iU;dsimp +instances only[gd,Aa,Ab,Ac,Ad,Ae,Af,Ag];refine aa.call (ui l a _ ha h (by omega) (by omega)) ?_;rintro _ ⟨v,rfl,q,y⟩;dsimp +instances only[gd,Aa,Ab,Ac,Ad,Ae,Af,Ag];(repeat first|refine aa.p ?_|refine aa.n ?_);exact aa.some ⟨_,rfl,k _ (Rq q y)⟩
theorem AJ(l:LL)(a n:Int)(ha:0<=a)(d:a<=1000000)(h0:1<=n)(h1:n<=1000000) :
  aa (rL [.l l,.i a,.i n]) fun g=>∃ b,g=[.l l,.i (a+1),.t b]:=by
 unfold rL;dsimp +instances only[gd,Aa,Ab,Ac,Ad,Ae,Af,Ag];refine aa.call (ui l a _ ha d (by omega) (by omega)) ?_;rintro _ ⟨v,rfl,h,k⟩;exact aa.some ⟨_,rfl⟩
theorem Eu(l:LL)(a lo hi:Int)(ha:0<=a)(I:a<=900000)(h0:lo<=hi)(h1 : -1000000000<=lo)(y:hi<=1000000000) :
  aa (ue [.l l,.i a,.i lo,.i hi]) fun g=>∃ v,g=[.l l,.i (a+2),.i v] /\ -1099511627776<=v/\(v<=1000000001\/v=1099511627776):=by
 unfold ue;dsimp +instances only[gd,Aa,Ab,Ac,Ad,Ae,Af,Ag];have d:a+1+1=a+2:=by omega
 refine aa.call (AJ l a 12 ha (by omega) (by omega) (by omega)) ?_;rintro _ ⟨b,rfl⟩;dsimp +instances only[gd,Aa,Ab,Ac,Ad,Ae,Af,Ag];cases b with
 | true =>
  (repeat first|refine aa.p ?_|refine aa.n ?_);refine aa.call (Rr (fun v => -1099511627776<=v/\(v<=1000000001\/v=1099511627776)) l (a+1) _ (by omega) (by omega) (by simp) (by simp) ?_) ?_
  ·intro x h
   simp only[cq,oK,or_false]at h;rcases h with rfl|rfl|rfl|rfl|rfl|rfl<;>(dsimp +instances only[gd,Aa,Ab,Ac,Ad,Ae,Af,Ag])<;>omega
  ·rintro _ ⟨v, rfl, k, q⟩
   dsimp +instances only[gd,Aa,Ab,Ac,Ad,Ae,Af,Ag];exact aa.some ⟨v,by rw[d],k,q⟩
 | false =>
  (repeat first|refine aa.p ?_|refine aa.n ?_);refine aa.call (IS l (a+1) lo hi (by omega) (by omega) h0 h1 y) ?_;rintro _ ⟨v,rfl,k,q⟩;dsimp +instances only[gd,Aa,Ab,Ac,Ad,Ae,Af,Ag];exact aa.some ⟨v,by rw[d],by omega,by omega⟩
def nv(L:List BY)(s:BY):Bool:=L.any fun x=>wB x s
theorem oB{L:List BY}{s:BY}(h:nv L s=true):s∈L:=by
 obtain⟨x,d,he⟩:=lq.1 h;exact OI he▸d
theorem qt(lo hi:Int)(l:LL)(a:Int)(d:LL)(ha:0<=a)(h:a<=1000000)(h0:(eh 1 d.length&&eh d.length 1000000)=true) (k:(d.all fun x=>bC lo (gi x 0).iV&&bC (gi x 0).iV hi)=true) :
  aa (lN [.l l,.i a,.l d]) fun g=>∃ v,g=[.l l,.i (a+1),.i v]/\lo<=v/\v<=hi:=by
 simp only[aL,sO]at h0;refine Rr (fun v=>lo<=v/\v<=hi) l a d ha h h0.1 h0.2 fun x q=>?_;have:=dK.1 k x q;simpa only[eY,aL,dT]using this
theorem lP(L:List BY)(l:LL)(a:Int)(d:LL)(ha:0<=a)(h:a<=1000000)(h0:(eh 1 d.length&&eh d.length 1000000)=true) (k:(d.all fun x=>nv L (gi x 0).sV)=true) :
  aa (iU [.l l,.i a,.l d]) fun g=>∃ v,g=[.l l,.i (a+1),.s v]/\v∈L:=by
 simp only[aL,sO]at h0;exact IT (fun v=>v∈L) l a d ha h h0.1 h0.2 fun x q=>oB (dK.1 k x q)
def calls:List BY:=[⟨#[]⟩,⟨#[107,49]⟩,⟨#[75,49,65,66]⟩,⟨#[107,49,97,98,47]⟩,⟨#[49,97]⟩,⟨#[107,49,97,98,47,109,109,47,112]⟩,⟨#[107,49,97,98]⟩,⟨#[107,49,97,97]⟩,⟨#[107,49,97,98,47,52]⟩,
 ⟨#[111,104,50,97,98,99]⟩,⟨#[111,104,50,97,98,100]⟩,⟨#[119,49,97,119]⟩,⟨#[110,49,109,109]⟩,⟨#[103,51,120,121,122,47,112]⟩,⟨#[119,49,97,120]⟩]
def kF:List BY:=[⟨#[]⟩,⟨#[66]⟩,⟨#[98,50,48]⟩,⟨#[98,52,48]⟩,⟨#[98]⟩,⟨#[99]⟩]
def names:List BY:=[⟨#[]⟩,⟨#[65]⟩,⟨#[49]⟩,⟨#[102,105,110]⟩,⟨#[117,115,97]⟩,⟨#[120]⟩]
def small(n:Int):Prop := -2000000000000<=n/\n<=2000000000000
def dZ(r:LG):Prop:=∃(t m:Int) (b c:BY) (s h:Int) (x y:BY),r=[.i t,.i m,.s b,.s c,.i s,.i h,.s x,.s y]/\small t/\small m/\small s/\small h/\b∈kF/\c∈calls/\x∈names/\y∈names
def tight(n:Int):Prop := -1900000000000<=n/\n<=1900000000000
def uj(n:Int):Prop := -1900000000000<=n/\(n<=345000000000\/(345686399999<n/\n<=1900000000000))
def IU(r:LG):Prop:=∃(t m:Int) (b c:BY) (s h:Int) (x y:BY),r=[.i t,.i m,.s b,.s c,.i s,.i h,.s x,.s y]/\uj t/\tight m/\tight s/\tight h/\b∈kF/\c∈calls/\x∈names/\y∈names
theorem tight.to{n:Int}(h:tight n):small n:=⟨by have:=h.1; omega,by have:=h.2; omega⟩
theorem uj.to{n:Int}(h:uj n):small n:=by
 unfold uj at h;exact⟨by omega,by omega⟩
theorem IU.to{r:LG}(h:IU r):dZ r:=by
 obtain⟨t,m,b,c,s,h,x,y,e,h1,d,g,k,q⟩:=h;exact⟨t,m,b,c,s,h,x,y,e,h1.to,d.to,g.to,k.to,q⟩
theorem dZ.eta{r:LG}(h:dZ r):a8 [.I,.I,.str,.str,.I,.I,.str,.str] r=r:=by
 obtain⟨t,m,b,c,s,h,x,y,rfl,_⟩:=h;rfl
theorem ag1(l:LL)(a:Int)(ha:0<=a)(k:a<=900000):aa (Dz [.l l,.i a]) fun g=>∃ v,g=[.l l,.i (a+2),.s v]/\v∈calls:=by
 unfold Dz;dsimp +instances only[gd,Aa,Ab,Ac,Ad,Ae,Af,Ag];have d:a+1+1=a+2:=by omega
 refine aa.call (AJ l a 60 ha (by omega) (by omega) (by omega)) ?_;rintro _ ⟨b,rfl⟩;dsimp +instances only[gd,Aa,Ab,Ac,Ad,Ae,Af,Ag];cases b with
 | true =>
  (repeat first|refine aa.p ?_|refine aa.n ?_);refine aa.call (lP calls l (a+1) _ (by omega) (by omega) (by kernel_rfl) (by kernel_rfl)) ?_;rintro _ ⟨v,rfl,h⟩;exact aa.some ⟨v,by(dsimp +instances only[gd,Aa,Ab,Ac,Ad,Ae,Af,Ag]); rw[d],h⟩
 | false =>
  (repeat first|refine aa.p ?_|refine aa.n ?_);refine aa.call (lP calls l (a+1) _ (by omega) (by omega) (by kernel_rfl) (by kernel_rfl)) ?_;rintro _ ⟨v,rfl,h⟩;exact aa.some ⟨v,by(dsimp +instances only[gd,Aa,Ab,Ac,Ad,Ae,Af,Ag]); rw[d],h⟩
theorem ag2(l:LL)(a t:Int)(ha:0<=a)(ha1:a<=800000)(d:uj t) :
  aa (DA [.l l,.i a,.i t]) fun g=>∃ b r,g=[.l l,.i b,.l [r]]/\a<=b/\b<=a+20/\IU r:=by
 unfold uj at d;unfold DA;dsimp +instances only[gd,Aa,Ab,Ac,Ad,Ae,Af,Ag];refine aa.call (qt 1 3 l a _ ha (by omega) (by kernel_rfl) (by kernel_rfl)) ?_;rintro _ ⟨m,rfl,hm⟩;dsimp +instances only[gd,Aa,Ab,Ac,Ad,Ae,Af,Ag];refine aa.call (lP kF l _ _ (by omega) (by omega) (by kernel_rfl) (by kernel_rfl)) ?_;rintro _ ⟨v,rfl,hb⟩;dsimp +instances only[gd,Aa,Ab,Ac,Ad,Ae,Af,Ag];refine aa.call (ag1 l _ (by omega) (by omega)) ?_;rintro _ ⟨c,rfl,q⟩;dsimp +instances only[gd,Aa,Ab,Ac,Ad,Ae,Af,Ag];refine aa.call (qt 0 7 l _ _ (by omega) (by omega) (by kernel_rfl) (by kernel_rfl)) ?_;rintro _ ⟨s,rfl,hs⟩;dsimp +instances only[gd,Aa,Ab,Ac,Ad,Ae,Af,Ag];refine aa.call (qt 0 9 l _ _ (by omega) (by omega) (by kernel_rfl) (by kernel_rfl)) ?_;rintro _ ⟨h,rfl,hh⟩;dsimp +instances only[gd,Aa,Ab,Ac,Ad,Ae,Af,Ag];refine aa.call (lP names l _ _ (by omega) (by omega) (by kernel_rfl) (by kernel_rfl)) ?_;rintro _ ⟨x,rfl,I⟩;dsimp +instances only[gd,Aa,Ab,Ac,Ad,Ae,Af,Ag];refine aa.call (lP names l _ _ (by omega) (by omega) (by kernel_rfl) (by kernel_rfl)) ?_;rintro _ ⟨y,rfl,M⟩;dsimp +instances only[gd,Aa,Ab,Ac,Ad,Ae,Af,Ag];refine aa.call (AJ l _ 100 (by omega) (by omega) (by omega) (by omega)) ?_;rintro _ ⟨f,rfl⟩;dsimp +instances only[gd,Aa,Ab,Ac,Ad,Ae,Af,Ag];cases f with
 | false =>
  (repeat first|refine aa.p ?_|refine aa.n ?_);exact aa.some ⟨_,_,rfl,by omega,by omega,t,m,v,c,s,h,x,y,rfl,d,⟨by omega,by omega⟩,⟨by omega,by omega⟩,⟨by omega,by omega⟩,hb,q,I,M⟩
 | true =>
  (repeat first|refine aa.p ?_|refine aa.n ?_);refine aa.call (ui l _ 4 (by omega) (by omega) (by omega) (by omega)) ?_;rintro _ ⟨k,rfl,hk⟩;dsimp +instances only[gd,Aa,Ab,Ac,Ad,Ae,Af,Ag];by_cases N:k=0
  ·subst N
   (repeat first|refine aa.p ?_|refine aa.n ?_);refine aa.call (Eu l _ 0 500 (by omega) (by omega) (by omega) (by omega) (by omega)) ?_;rintro _ ⟨t',rfl,ht'⟩;dsimp +instances only[gd,Aa,Ab,Ac,Ad,Ae,Af,Ag];refine aa.call (Eu l _ 1 3 (by omega) (by omega) (by omega) (by omega) (by omega)) ?_;rintro _ ⟨m',rfl,hm'⟩;dsimp +instances only[gd,Aa,Ab,Ac,Ad,Ae,Af,Ag];exact aa.some ⟨_,_,rfl,by omega,by omega,t',m',v,c,s,h,x,y,rfl,⟨by omega,by omega⟩,⟨by omega,by omega⟩,⟨by omega,by omega⟩,⟨by omega,by omega⟩,hb,q,I,M⟩
  ·refine aa.neg (by simpa using N) ?_
   by_cases O:k=1
   ·subst O
    (repeat first|refine aa.p ?_|refine aa.n ?_);refine aa.call (lP kF l _ _ (by omega) (by omega) (by kernel_rfl) (by kernel_rfl)) ?_;rintro _ ⟨b',rfl,V⟩;dsimp +instances only[gd,Aa,Ab,Ac,Ad,Ae,Af,Ag];exact aa.some ⟨_,_,rfl,by omega,by omega,t,m,b',c,s,h,x,y,rfl,d,⟨by omega,by omega⟩,⟨by omega,by omega⟩,⟨by omega,by omega⟩,V,q,I,M⟩
   ·refine aa.neg (by simpa using O) ?_
    by_cases U:k=2
    ·subst U
     (repeat first|refine aa.p ?_|refine aa.n ?_);refine aa.call (Eu l _ 0 99999 (by omega) (by omega) (by omega) (by omega) (by omega)) ?_;rintro _ ⟨s',rfl,hs'⟩;dsimp +instances only[gd,Aa,Ab,Ac,Ad,Ae,Af,Ag];refine aa.call (Eu l _ 0 99999 (by omega) (by omega) (by omega) (by omega) (by omega)) ?_;rintro _ ⟨h',rfl,hh'⟩;dsimp +instances only[gd,Aa,Ab,Ac,Ad,Ae,Af,Ag];exact aa.some ⟨_,_,rfl,by omega,by omega,t,m,v,c,s',h',x,y,rfl,d,⟨by omega,by omega⟩,⟨by omega,by omega⟩,⟨by omega,by omega⟩,hb,q,I,M⟩
    ·refine aa.neg (by simpa using U) ?_
     refine aa.call (lP names l _ _ (by omega) (by omega) (by kernel_rfl) (by kernel_rfl)) ?_;rintro _ ⟨x',rfl,W⟩;dsimp +instances only[gd,Aa,Ab,Ac,Ad,Ae,Af,Ag];refine aa.call (lP names l _ _ (by omega) (by omega) (by kernel_rfl) (by kernel_rfl)) ?_;rintro _ ⟨y',rfl,hy'⟩;dsimp +instances only[gd,Aa,Ab,Ac,Ad,Ae,Af,Ag];exact aa.some ⟨_,_,rfl,by omega,by omega,t,m,v,c,s,h,x',y',rfl,d,⟨by omega,by omega⟩,⟨by omega,by omega⟩,⟨by omega,by omega⟩,hb,q,W,hy'⟩
def fH(a b:Int):Int:=if a<b then -1 else if b<a then 1 else 0
theorem Rs:∀{a b:List UInt8},gI a b=0->a=b
 | [],[],_=>rfl
 | [],_::_,h=>by simp[gI]at h
 |_::_,[],h=>by simp[gI]at h
 | x::a,y::b,h=>by
  unfold gI at h;split at h
  ·cases h
  ·split at h
   ·cases h
   ·rename_i h1 d
    rw[Rs h,J7 (uM.1 d) (uM.1 h1)]
theorem Rt:∀ a:List UInt8,gI a a=0
 | []=>rfl
 |x::a=>by simp[gI,Rt a]
theorem IV(a b:BY):(a.toList==b.toList)=decide (eP a b=0):=by
 rw[qH,qH,mM,dT,beq_iff_eq];constructor
 ·intro h
  unfold eP;rw[h];exact Rt _
 ·exact fun h=>Rs h
def AK(a b c d:Int):Int:=if a≠0 then a else if b≠0 then b else if c≠0 then c else d
def iW(r s:LG):Int:=AK (fH (gi r 0).iV (gi s 0).iV) (eP (gi r 3).sV (gi s 3).sV) (eP (gi r 2).sV (gi s 2).sV) (fH (gi r 1).iV (gi s 1).iV)
theorem sign_eq(a b:Int):rM [.i (a-b)]=some [.i (fH a b)]:=by
 refine aa.toEq ?_;unfold rM fH;dsimp +instances only[gd,Aa,Ab,Ac,Ad,Ae,Af,Ag];by_cases h1:a<b
 ·(repeat first|refine aa.p ?_|refine aa.n ?_)
  exact aa.some (by simp[h1])
 ·by_cases d : b < a
  ·(repeat first|refine aa.p ?_|refine aa.n ?_)
   exact aa.some (by simp[h1,d])
  ·(repeat first|refine aa.p ?_|refine aa.n ?_)
   exact aa.some (by simp[h1,d])
theorem IW{r s:LG}(q:dZ r)(v:dZ s):ub [.l [r],.l [s]]=some [.i (iW r s)]:=by
 obtain⟨t,m,b,c,_,_,_,_,rfl,N,hm,_⟩:=q;obtain⟨t',m',d,g,_,_,_,_,rfl,I,M,_⟩:=v;unfold small at *;refine aa.toEq ?_;unfold ub iW AK;dsimp +instances only[gd,Aa,Ab,Ac,Ad,Ae,Af,Ag];simp only[IV];by_cases y:t=t'
 ·subst y
  have z:fH t t=0:=by simp[fH]
  simp only[z];(repeat first|refine aa.p ?_|refine aa.n ?_);by_cases h:eP c g=0
  ·simp only [h]
   (repeat first|refine aa.p ?_|refine aa.n ?_);by_cases k:eP b d=0
   ·simp only [k]
    (repeat first|refine aa.p ?_|refine aa.n ?_);refine aa.cE (sign_eq m m') ?_;dsimp +instances only[gd,Aa,Ab,Ac,Ad,Ae,Af,Ag];exact aa.some (by simp)
   ·refine aa.pos (by simpa using k) (aa.call (aa.eq (rfl : ox [.s b, .s d] = some [.i (eP b d)])) ?_)
    rintro _ rfl;dsimp +instances only[gd,Aa,Ab,Ac,Ad,Ae,Af,Ag];exact aa.some (by simp[k])
  ·refine aa.pos (by simpa using h) (aa.call (aa.eq (rfl : ox [.s c, .s g] = some [.i (eP c g)])) ?_)
   rintro _ rfl;dsimp +instances only[gd,Aa,Ab,Ac,Ad,Ae,Af,Ag];exact aa.some (by simp[h])
 ·(repeat first|refine aa.p ?_|refine aa.n ?_)
  refine aa.cE (sign_eq t t') ?_;dsimp +instances only[gd,Aa,Ab,Ac,Ad,Ae,Af,Ag];have z:fH t t'≠0:=by
   unfold fH;split
   ·omega
   ·split<;>omega
  exact aa.some (by simp[z])
theorem Ev(a b:Int):wN [.i a,.i b]=some [.i (fH a b)]:=by
 refine aa.toEq ?_;unfold wN DJ fH;dsimp +instances only[gd,Aa,Ab,Ac,Ad,Ae,Af,Ag];simp only[bne_self_eq_false];refine aa.call ⟨_,rfl,rfl⟩ ?_;rintro _ rfl;refine aa.call ⟨_,rfl,rfl⟩ ?_;rintro _ rfl;dsimp +instances only[gd,Aa,Ab,Ac,Ad,Ae,Af,Ag];(repeat first|refine aa.p ?_|refine aa.n ?_);by_cases h1:a<b
 ·(repeat first|refine aa.p ?_|refine aa.n ?_)
  exact aa.some (by simp[h1])
 ·by_cases d : b < a
  ·(repeat first|refine aa.p ?_|refine aa.n ?_)
   exact aa.some (by simp[h1,d])
  ·(repeat first|refine aa.p ?_|refine aa.n ?_)
   exact aa.some (by simp[h1,d])
def rX:LL->Int
 | []=>0
 |x::q=>if (gi x 0).iV≠0 then (gi x 0).iV else rX q
theorem Ru:∀(q p:LL),p.length+q.length<100000 ->
  aX wO [.i 0,.l (p++q),.i ((p.length+q.length:Nat):Int),.i (p.length:Int)] (q.length+1) fun c g=>c<=1/\g=[.i (rX q)]
 | [],p,h=>by
  refine aX.stop (x:=1) (aa.toEq ?_) ⟨by omega,rfl⟩;unfold wO;dsimp +instances only[gd,Aa,Ab,Ac,Ad,Ae,Af,Ag];(repeat first|refine aa.p ?_|refine aa.n ?_);exact aa.some rfl
 | y::q,p,h=>by
  simp only[cd]at h;have k:(p++y::q).getD (p.length:Int).toNat []=y:=np _ _ _ _ _ (by simp);have d:(p++y::q).length=p.length+q.length+1:=by simp; omega
  by_cases he:(gi y 0).iV=0
  ·have v := Ru q (p ++ [y]) (by simp; omega)
   have e:rX (y::q)=rX q:=by simp[rX,he]
   rw[e];refine aX.next (aa.toEq ?_) v
   unfold wO;dsimp +instances only[gd,Aa,Ab,Ac,Ad,Ae,Af,Ag];simp only[k,d,cd];(repeat first|refine aa.p ?_|refine aa.n ?_);refine aa.some ?_;simp;omega
  ·refine aX.stop (x := 0) (aa.toEq ?_) ⟨by omega, rfl⟩
   unfold wO;dsimp +instances only[gd,Aa,Ab,Ac,Ad,Ae,Af,Ag];simp only[k,d,cd];(repeat first|refine aa.p ?_|refine aa.n ?_);refine aa.some ?_;simp[rX,he]
theorem or_eq(a b c d:Int):DK [.l [[.i a],[.i b],[.i c],[.i d]]]=some [.i (AK a b c d)]:=by
 refine aa.toEq ?_;unfold DK;dsimp +instances only[gd,Aa,Ab,Ac,Ad,Ae,Af,Ag];have h:=Ru [[.i a],[.i b],[.i c],[.i d]] [] (by simp);refine aa.loop (h.to (by simp)) (by(first|rfl|assumption|(simp only[aB,sl]<;>omega))) ?_;rintro x g ⟨y,rfl⟩;have e:rX [[.i a],[.i b],[.i c],[.i d]]=AK a b c d:=by
  simp only[rX,AK];dsimp +instances only[gd,Aa,Ab,Ac,Ad,Ae,Af,Ag];by_cases h1:a=0<;>by_cases k:b=0<;>by_cases q:c=0<;>by_cases v:d=0<;>simp[h1,k,q,v]
 rw[e];dsimp +instances only[gd,Aa,Ab,Ac,Ad,Ae,Af,Ag];exact aa.test (fun _=>aa.some rfl) fun _=>aa.some rfl
theorem ag3{r s:LG}(h:dZ r)(k:dZ s):DL [.l [r],.l [s]]=some [.i (iW r s)]:=by
 obtain⟨t,m,b,c,_,_,_,_,rfl,y,hm,_⟩:=h;obtain⟨t',m',d,g,_,_,_,_,rfl,q,v,_⟩:=k;refine aa.toEq ?_;unfold DL;dsimp +instances only[gd,Aa,Ab,Ac,Ad,Ae,Af,Ag];refine aa.cE (Ev t t') ?_;refine aa.cE (rfl:ox [.s c,.s g]=some [.i (eP c g)]) ?_;refine aa.cE (rfl:ox [.s b,.s d]=some [.i (eP b d)]) ?_;refine aa.cE (Ev m m') ?_;dsimp +instances only[gd,Aa,Ab,Ac,Ad,Ae,Af,Ag];refine aa.cE (or_eq _ _ _ _) ?_;exact aa.some rfl
theorem ag4:wy [.I,.I,.str,.str,.I,.I,.str,.str] ub dZ iW:=⟨fun _ _ d g=>IW d g,fun _ h=>h.eta⟩
def d_(v lo hi:Int):Bool:=bC lo v&&bC v hi
theorem Rv(v lo hi:Int):qp [.i v,.i lo,.i hi]=some [.t (d_ v lo hi)]:=by
 unfold qp d_;dsimp +instances only[gd,Aa,Ab,Ac,Ad,Ae,Af,Ag];cases bC lo v<;>rfl
theorem AM(v lo hi:Int):pk [.i v,.i lo,.i hi]=some [.t (!d_ v lo hi)]:=by
 unfold pk d_;dsimp +instances only[gd,Aa,Ab,Ac,Ad,Ae,Af,Ag];have h1:ax v lo = !bC lo v:=by rw[cB,eY,mM]; simp
 have d:ax hi v = !bC v hi:=by rw[cB,eY,mM]; simp
 rw[h1,d];cases bC lo v<;>cases bC v hi<;>rfl
def pr(s:BY):Bool:=nv [⟨#[98,50,48]⟩,⟨#[98,52,48]⟩,⟨#[102,105,110]⟩,⟨#[117,115,97]⟩,⟨#[120]⟩,⟨#[98]⟩,⟨#[99]⟩] s
def pt(s:BY):Bool:=nv [⟨#[]⟩] s||pr s
def jr(s:BY):Bool:=(gi ((zV [.s s]).getD []) 0).bV
theorem ag5{s:BY}(h:s∈kF\/s∈names):DG [.s s]=some [.t (pr s)]:=by
 simp only[kF,names,cq,oK,or_false]at h;rcases h with(rfl|rfl|rfl|rfl|rfl|rfl)|(rfl|rfl|rfl|rfl|rfl|rfl)<;>kernel_rfl
theorem IX{s:BY}(h:s∈kF\/s∈names):Ao [.s s]=some [.t (pr s)]:=by
 simp only[kF,names,cq,oK,or_false]at h;rcases h with(rfl|rfl|rfl|rfl|rfl|rfl)|(rfl|rfl|rfl|rfl|rfl|rfl)<;>kernel_rfl
theorem Rw{s:BY}(h:s∈names):DH [.s s]=some [.t (pt s)]:=by
 simp only[names,cq,oK,or_false]at h;rcases h with(rfl|rfl|rfl|rfl|rfl|rfl)<;>kernel_rfl
theorem Rx{s:BY}(h:s∈calls):zV [.s s]=some [.t (jr s)]:=by
 simp only[calls,cq,oK,or_false]at h;rcases h with(rfl|rfl|rfl|rfl|rfl|rfl|rfl|rfl|rfl|rfl|rfl|rfl|rfl|rfl|rfl)<;>kernel_rfl
theorem IY{s:BY}(h:s∈calls):An [.s s]=some [.t (jr s)]:=by
 simp only[calls,cq,oK,or_false]at h;rcases h with(rfl|rfl|rfl|rfl|rfl|rfl|rfl|rfl|rfl|rfl|rfl|rfl|rfl|rfl|rfl)<;>kernel_rfl
def iH(r:LG):Int :=
 bif !d_ (gi r 0).iV 0 345686399999 then 1 else bif !d_ (gi r 1).iV 1 3 then 4 else bif !pr (gi r 2).sV then 5 else bif !jr (gi r 3).sV then 3 else
 bif !d_ (gi r 4).iV 0 99999 then 1 else bif !d_ (gi r 5).iV 0 99999 then 1 else bif !pt (gi r 6).sV then 5 else bif !pt (gi r 7).sV then 5 else 0
theorem ag6{r:LG}(d:dZ r):DI [.l [r]]=some [.i (iH r)]:=by
 obtain⟨t,m,b,c,s,h,x,y,rfl,_,_,_,_,hb,g,k,q⟩:=d;unfold DI Iv Iw iH;dsimp +instances only[gd,Aa,Ab,Ac,Ad,Ae,Af,Ag];have v:=ag5 (.inl hb);have I:=Rw k;have M:=Rw q;have N:=Rx g;rw[AM t,AM m];rw[v,N,AM s,AM h,I,M];generalize d_ t 0 345686399999=O;generalize d_ m 1 3=U;generalize pr b=V;generalize jr c=W;generalize d_ s 0 99999=b5;generalize d_ h 0 99999=b6;generalize pt x=b7;generalize pt y=b8;cases O<;>cases U<;>cases V<;>cases W<;>cases b5<;>cases b6<;>cases b7<;>cases b8<;>rfl
theorem empty_eq(s:BY):(s.toList==(⟨#[]⟩:BY).toList)=nv [⟨#[]⟩] s:=by
 rw[qH,qH];simp only[nv,wB,uN,List.any_nil,oL];rw[mM];simp only[beq_iff_eq];exact eq_comm
theorem ag7{r:LG}(q:dZ r):D5 [.l [r]]=some [.i (iH r)]:=by
 obtain⟨t,m,b,c,s,h,x,y,rfl,_,_,_,_,hb,v,I,M⟩:=q;unfold D5 ID iH pt;dsimp +instances only[gd,Aa,Ab,Ac,Ad,Ae,Af,Ag];have N:=IX (.inl hb);have O:=IX (.inr I);have U:=IX (.inr M);have V:=IY v;have d:=empty_eq x;have g:=empty_eq y;generalize (⟨#[]⟩:BY)=z at d g|-;simp only[Rv,Yq rfl,N,V,O,U];dsimp +instances only[gd,Aa,Ab,Ac,Ad,Ae,Af,Ag];rw[d,g];generalize d_ t 0 345686399999=W;generalize d_ m 1 3=b2;generalize pr b=b3;generalize jr c=b4;generalize d_ s 0 99999=b5;generalize d_ h 0 99999=b6;generalize pr x=b7;generalize pr y=b8;generalize nv [z] x=b9;generalize nv [z] y=k;cases W<;>cases b2<;>cases b3<;>cases b4<;>cases b5<;>cases b6<;>cases b7<;>cases b8<;>cases b9<;>cases k<;>rfl
def uk(K:List Kd)(C D:LG->Option LG)(d:LG):Option (Option Nat × LG) :=
 (bif (ax (gi d 3).iV (gi d 2).iV) then (bif ((aM (gi d 3).iV)&&(ax (gi d 3).iV (((gi d 1).rZ.length:Nat):Int))) then (aG (C [.l [(a8 K ((gi d 1).rZ.getD (((gi d 3).iV).toNat) []))]]) fun g=>(bif ((gi g 0).iV != 0) then some (some 0,[.i (gi g 0).iV]) else (bif (ax 0 (gi d 3).iV) then (bif (aB ((gi d 3).iV-1)) then (bif ((aM ((gi d 3).iV-1))&&(ax ((gi d 3).iV-1) (((gi d 0).rZ.length:Nat):Int))) then (aG (D [.l [(a8 K ((gi d 0).rZ.getD (((gi d 3).iV-1).toNat) []))],.l [(a8 K ((gi d 1).rZ.getD (((gi d 3).iV).toNat) []))]]) fun h=>(bif (bC 0 (gi h 0).iV) then some (some 0,[.i 7]) else (bif (aB ((gi d 3).iV+1)) then some (none,[.l (gi d 0).rZ,.l (gi d 1).rZ,.i (gi d 2).iV,.i ((gi d 3).iV+1)]) else none))) else none) else none) else (bif (aB ((gi d 3).iV+1)) then some (none,[.l (gi d 0).rZ,.l (gi d 1).rZ,.i (gi d 2).iV,.i ((gi d 3).iV+1)]) else none)))) else none) else some (some 1,[]))
def Ry(K:List Kd)(C D:LG->Option LG)(d:LG):Option LG :=
 (bif (ax 2000 (((gi d 0).rZ.length:Nat):Int)) then some [.i 2] else (bh true (cn (uk K C D) [.l (gi d 0).rZ,.l (gi d 0).rZ,.i (((gi d 0).rZ.length:Nat):Int),.i 0]) fun g h=>(bif ar g 0 then some [.i (gi h 0).iV] else some [.i 0])))
def jt:Option LG->LL->Int
 |_,[]=>0
 |none,x::q=>if iH x≠0 then iH x else jt (some x) q
 |some y,x::q=>if iH x≠0 then iH x else if 0<=iW y x then 7 else jt (some x) q
def lQ(l:LL):Int:=if 2000<l.length then 2 else jt none l
section
variable {C D:LG->Option LG} (hC:∀ r,dZ r->C [.l [r]]=some [.i (iH r)]) (hD:∀ r s,dZ r->dZ s->D [.l [r],.l [s]]=some [.i (iW r s)])
include hC hD
theorem Rz:∀(q p:LL),(∀ z∈p++q,dZ z)->p.length+q.length<100000 ->
  aX (uk [.I,.I,.str,.str,.I,.I,.str,.str] C D) [.l (p++q),.l (p++q),.i ((p.length+q.length:Nat):Int),.i (p.length:Int)] (q.length+1) fun c g=>(c=0/\g=[.i (jt p.getLast? q)])\/c=1/\jt p.getLast? q=0
 | [],p,M,V=>by
  refine aX.stop (x:=1) (d':=[]) (aa.toEq ?_) (.inr ⟨rfl,by unfold jt; rfl⟩);unfold uk;dsimp +instances only[gd,Aa,Ab,Ac,Ad,Ae,Af,Ag];(repeat first|refine aa.p ?_|refine aa.n ?_);exact aa.some rfl
 | x::q,p,M,V=>by
  simp only[cd]at V;have d:dZ x:=M x (by simp);have N:(p++x::q).getD (p.length:Int).toNat []=x:=np _ _ _ _ _ (by simp);have v:(p++x::q).length=p.length+q.length+1:=by simp; omega
  by_cases h:iH x=0
  ·have U := Rz q (p ++ [x]) (by simpa using M) (by simp; omega)
   rw[List.getLast?_concat]at U;rcases List.eq_nil_or_concat p with rfl|⟨k,y,rfl⟩
   ·have e : jt ([] : LL).getLast? (x :: q) = jt (some x) q := by simp [jt, h]
    rw[e];refine aX.next (aa.toEq ?_) U
    unfold uk;dsimp +instances only[gd,Aa,Ab,Ac,Ad,Ae,Af,Ag];simp only[N,v,cd,d.eta];(repeat first|refine aa.p ?_|refine aa.n ?_);refine aa.cE (hC x d) ?_;dsimp +instances only[gd,Aa,Ab,Ac,Ad,Ae,Af,Ag];simp only[h];(repeat first|refine aa.p ?_|refine aa.n ?_);refine aa.some ?_;simp;omega
   ·rw [List.concat_eq_append] at *
    have O:dZ y:=M y (by simp);have W:((k++[y])++x::q).getD (((k++[y]).length:Int)-1).toNat []=y:=by
     have e:(k++[y])++x::q=k++y::x::q:=by simp
     rw[e]; exact np _ _ _ _ _ (by simp)
    have hp:(k++[y]).length=k.length+1:=by simp
    have hl0:(k++[y]).getLast? = some y:=by simp
    rw[hl0];by_cases ho:0<=iW y x
    ·refine aX.stop (x := 0) (d' := [.i 7]) (aa.toEq ?_) (.inl ⟨rfl, by simp [jt, h, ho]⟩)
     unfold uk;dsimp +instances only[gd,Aa,Ab,Ac,Ad,Ae,Af,Ag];simp only[N,W,v,cd,d.eta,O.eta];(repeat first|refine aa.p ?_|refine aa.n ?_);refine aa.cE (hC x d) ?_;dsimp +instances only[gd,Aa,Ab,Ac,Ad,Ae,Af,Ag];simp only[h];(repeat first|refine aa.p ?_|refine aa.n ?_);refine aa.cE (hD y x O d) ?_;dsimp +instances only[gd,Aa,Ab,Ac,Ad,Ae,Af,Ag];(repeat first|refine aa.p ?_|refine aa.n ?_);exact aa.some rfl
    ·have e : jt (some y) (x :: q) = jt (some x) q := by simp [jt, h, ho]
     rw[e];refine aX.next (aa.toEq ?_) U
     unfold uk;dsimp +instances only[gd,Aa,Ab,Ac,Ad,Ae,Af,Ag];simp only[N,W,v,cd,d.eta,O.eta];(repeat first|refine aa.p ?_|refine aa.n ?_);refine aa.cE (hC x d) ?_;dsimp +instances only[gd,Aa,Ab,Ac,Ad,Ae,Af,Ag];simp only[h];(repeat first|refine aa.p ?_|refine aa.n ?_);refine aa.cE (hD y x O d) ?_;dsimp +instances only[gd,Aa,Ab,Ac,Ad,Ae,Af,Ag];(repeat first|refine aa.p ?_|refine aa.n ?_);refine aa.some ?_;simp;omega
  ·refine aX.stop (x := 0) (d' := [.i (iH x)]) (aa.toEq ?_) (.inl ⟨rfl, by cases hg : p.getLast? <;> simp [jt, h]⟩)
   unfold uk;dsimp +instances only[gd,Aa,Ab,Ac,Ad,Ae,Af,Ag];simp only[N,v,cd,d.eta];(repeat first|refine aa.p ?_|refine aa.n ?_);refine aa.cE (hC x d) ?_;dsimp +instances only[gd,Aa,Ab,Ac,Ad,Ae,Af,Ag];refine aa.pos (by simpa using h) (aa.some rfl)
theorem RA(l:LL)(d:∀ z∈l,dZ z)(k:l.length<100000):Ry [.I,.I,.str,.str,.I,.I,.str,.str] C D [.l l]=some [.i (lQ l)]:=by
 refine aa.toEq ?_;unfold Ry lQ;dsimp +instances only[gd,Aa,Ab,Ac,Ad,Ae,Af,Ag];by_cases h:2000<l.length
 ·(repeat first|refine aa.p ?_|refine aa.n ?_)
  exact aa.some (by simp[h])
 ·(repeat first|refine aa.p ?_|refine aa.n ?_)
  have h1:=Rz hC hD l [] (by simpa using d) (by simpa using k);have h0:((0:Nat):Int)=0:=rfl;simp only[ll,j_,cP,h0]at h1;refine aa.loop (h1.to (by omega)) (by(first|rfl|assumption|(simp only[aB,sl]<;>omega))) ?_;rintro c g (⟨rfl,rfl⟩|⟨rfl,q⟩)
  ·(dsimp +instances only [gd,Aa,Ab,Ac,Ad,Ae,Af,Ag])
   (repeat first|refine aa.p ?_|refine aa.n ?_);refine aa.some ?_;rw[iN h];rfl
  ·(repeat first|refine aa.p ?_|refine aa.n ?_)
   refine aa.some ?_;rw[iN h];exact congrArg (fun z=>[G.i z]) q.symm
end
theorem ag8(l:LL)(d:∀ z∈l,dZ z)(g:l.length<100000):Ix [.l l]=some [.i (lQ l)] :=
 RA (fun _ h=>ag6 h) (fun _ _ h h'=>ag3 h h') l d g
theorem ag9(l:LL)(d:∀ z∈l,dZ z)(g:l.length<100000):IF [.l l]=some [.i (lQ l)] :=
 RA (fun _ h=>ag7 h) (fun _ _ h h'=>IW h h') l d g
end
end Go.Proofs.jq

namespace Go.Proofs.jq
open Go Go.AL Go.Proofs
noncomputable section
theorem RB:∀ a b:List UInt8,gI b a = - gI a b
 | [],[]=>rfl
 | [],_::_=>rfl
 |_::_,[]=>rfl
 | a::g,b::k=>by
  simp only[gI];have q:=RB g k;by_cases h1:a<b
  ·have d : ¬ b < a := fun h => Uf a (akz h1 h)
   simp[h1,d]
  ·by_cases d : b < a
   ·simp[h1,d]
   ·simp[h1,d,q]
theorem RC:∀{a b c:List UInt8},gI a b<0->gI b c<0->gI a c<0
 | [],[],_,h,_=>by simp[gI]at h
 | [],_::_,[],_,h=>by simp[gI]at h
 | [],_::_,_::_,_,_=>by simp[gI]
 |_::_,[],_,h,_=>by simp[gI]at h
 |_::_,_::_,[],_,h=>by simp[gI]at h
 | a::M,b::N,c::O,h1,d=>by
  simp only[gI]at h1 d|-;by_cases g:a<b
  ·by_cases k : b < c
   ·rw [iP (akz g k)]
    omega
   ·by_cases v : c < b
    ·rw [iN k, iP v] at d
     omega
    ·have e : b = c := J7 (uM.1 v) (uM.1 k)
     subst e;rw[iP g];omega
  ·by_cases y : b < a
   ·rw [iN g, iP y] at h1
    omega
   ·have e : a = b := J7 (uM.1 y) (uM.1 g)
    subst e;rw[iN (Uf a),iN (Uf a)]at h1;by_cases q:a<c
    ·rw [iP q]
     omega
    ·by_cases I : c < a
     ·rw [iN q, iP I] at d
      omega
     ·rw [iN q, iN I] at d |-
      exact RC h1 d
theorem ag_{a b:BY}(h:(a.toList==b.toList)=true):a=b:=by
 rw[qH,qH,beq_iff_eq]at h;exact ByteArray.ext (akA.1 h)
theorem rY{a b:BY}:eP a b=0↔a=b:=by
 have h:=IV a b;constructor
 ·intro e
  rw[dE (p:=eP a b=0) e]at h;exact ag_ h
 ·rintro rfl
  have d:(a.toList==a.toList)=true:=by simp
  rw[d]at h;exact of_decide_eq_true h.symm
theorem ag'{a b:Int}:fH a b=0↔a=b:=by
 unfold fH;constructor
 ·intro h
  split at h
  ·omega
  ·split at h<;>omega
 ·rintro rfl
  simp
theorem um{a b:Int}:fH a b<0↔a<b:=by
 unfold fH;constructor
 ·intro h
  split at h
  ·assumption
  ·split at h<;>omega
 ·intro h
  rw[iP h];omega
theorem k9(a b:BY):(a.toList==b.toList)=decide (a=b):=by
 rw[IV,mM,dT,dT];exact rY
structure xo {α:Type} (c:α->α->Int):Prop where
 flip:∀ a b,c b a = - c a b
 eq:∀ a b,c a b=0->a=b
 tr:∀ a b d,c a b<0->c b d<0->c a d<0
theorem RD:xo fH:=⟨fun a b=>by unfold fH; split<;>split<;>first|omega|(split<;>omega)|skip,fun a b h=>ag'.1 h,fun a b d h1 g=>um.2 (Int.lt_trans (um.1 h1) (um.1 g))⟩
theorem Ew:xo eP:=⟨fun a b=>RB _ _,fun a b h=>rY.1 h,fun a b d h1 g=>RC h1 g⟩
theorem xo.le{α:Type}{c:α->α->Int}(h:xo c)(a b d:α)(h1:c a b<=0)(g:c b d<=0):c a d<=0:=by
 by_cases k:c a b=0
 ·rw [h.eq a b k]
  exact g
 ·by_cases q : c b d = 0
  ·rw [<- h.eq b d q]
   exact h1
  ·have := h.tr a b d (by omega) (by omega)
   omega
theorem xo.refl{α:Type}{c:α->α->Int}(h:xo c)(a:α):c a a=0:=by
 have:=h.flip a a;omega
theorem aha{c:LG->LG->Int}(g:∀ a b,c b a = - c a b)(k:∀ a b d,c a b<=0->c b d<=0->c a d<=0):gP (cN c) (fun _=>True):=by
 have lt:∀ r s,cN c r s=decide (c r s<0):=fun r s=>by unfold cN; rw[cB]
 refine⟨fun a b d _ _ _ h1 q=>?_,fun a b _ _ h=>?_⟩
 ·rw [lt, dF] at *
  have:=k d b a (by have:=g d b; omega) (by have:=g b a; omega);have:=g a d;omega
 ·rw [lt, dT] at h
  rw[lt,dF];have:=g a b;omega
structure eZ (F:Nat->Nat->Int) (n m:Nat) (ok:Nat->Nat->Bool) (w:Nat->Nat->Int):Prop where
 mD:∀ i k,n<=i\/m<=k->F i k=0
 step:∀ i k,i<n->k<m->F i k=if ok i k=true then max (max (F (i+1) k) (F i (k+1))) (w i k+F (i+1) (k+1)) else max (F (i+1) k) (F i (k+1))
structure Fair (n m:Nat) (ok:Nat->Nat->Bool) (w:Nat->Nat->Int):Prop where
 pos:∀ i k,i<n->k<m->ok i k=true->0<w i k
 ahb:∀ i p k q,i<p->p<n->k<q->q<m->ok i q=true->ok p k=true->ok i k=true/\ok p q=true/\w i q+w p k<=w i k+w p q
section
variable {F:Nat->Nat->Int} {n m:Nat} {ok:Nat->Nat->Bool} {w:Nat->Nat->Int}
theorem eZ.flip(h:eZ F n m ok w):eZ (fun k i=>F i k) m n (fun k i=>ok i k) (fun k i=>w i k):=by
 refine⟨fun k i d=>h.mD i k d.symm,fun k i d hi=>?_⟩;have:=h.step i k hi d;rw[this];split<;>omega
theorem Fair.flip(h:Fair n m ok w):Fair m n (fun k i=>ok i k) (fun k i=>w i k):=by
 refine⟨fun k i v hi ho=>h.pos i k hi v ho,fun k q i p d y g I h1 M=>?_⟩;obtain⟨a,b,c⟩:=h.ahb i p k q g I d y M h1;exact⟨a,b,by omega⟩
theorem eZ.down(h:eZ F n m ok w)(i k:Nat):F (i+1) k<=F i k:=by
 by_cases he:n<=i\/m<=k
 ·rw [h.mD i k he, h.mD (i + 1) k (by omega)]
  exact x8 _
 ·rw [h.step i k (by omega) (by omega)]
  split<;>omega
theorem eZ.right(h:eZ F n m ok w)(i k:Nat):F i (k+1)<=F i k:=h.flip.down k i
theorem eZ.IZ(h:eZ F n m ok w)(i k:Nat):∀ d,F (i+d) k<=F i k
 |0=>x8 _
 |d+1=>J9 (h.down (i+d) k) (h.IZ i k d)
theorem eZ.mono(h:eZ F n m ok w){i p k q:Nat}(h1:i<=p)(g:k<=q):F p q<=F i k:=by
 obtain⟨d,rfl⟩:=akB h1;obtain⟨e,rfl⟩:=akB g;exact J9 (h.IZ i (k+e) d) (h.flip.IZ k i e)
theorem eZ.take(h:eZ F n m ok w){i p k q:Nat}(h1:i<=p)(d:k<=q)(g:p<n)(v:q<m)(ho:ok p q=true):w p q+F (p+1) (q+1)<=F i k:=by
 refine J9 ?_ (h.mono h1 d);rw[h.step p q g v,iP ho];omega
theorem eZ.I0(h:eZ F n m ok w)(i k:Nat):0<=F i k:=by
 have h1:=h.mono (i:=i) (p:=i+n) (k:=k) (q:=k) (by omega) (aQ _);rw[h.mD (i+n) k (.inl (by omega))]at h1;exact h1
theorem eZ.row(h:eZ F n m ok w){i:Nat}(hi:i<n):∀(s k:Nat),m-k<=s->F i k=F (i+1) k\/∃ q,k<=q/\q<m/\ok i q=true/\F i k=w i q+F (i+1) (q+1)
 | s,k,U=>by
  by_cases I:k<m
  ·cases s with
   |zero=>omega
   | succ s =>
    have h0:=h.step i k hi I;have h1:=h.down i k;have V:=h.right (i+1) k;by_cases ho:ok i k=true
    ·rw [iP ho] at h0
     by_cases e:F i k=w i k+F (i+1) (k+1)
     ·exact .inr ⟨k,aQ _,I,ho,e⟩
     ·by_cases d : F i k = F (i + 1) k
      ·exact .inl d
      ·have M : F i k = F i (k + 1) := by omega
       rcases h.row hi s (k+1) (by omega)with g|⟨q,N,v,y,O⟩
       ·exact .inl (by omega)
       ·exact .inr ⟨q,by omega,v,y,by omega⟩
    ·rw [iN ho] at h0
     by_cases d:F i k=F (i+1) k
     ·exact .inl d
     ·have M : F i k = F i (k + 1) := by omega
      rcases h.row hi s (k+1) (by omega)with g|⟨q,N,v,y,O⟩
      ·exact .inl (by omega)
      ·exact .inr ⟨q,by omega,v,y,by omega⟩
  ·exact .inl (by rw[h.mD i k (.inr (by omega)),h.mD (i+1) k (.inr (by omega))])
def fV(P:Nat->Bool):Nat->Nat->Option Nat
 |_,0=>none
 |q,t+1=>bif P q then some q else fV P (q+1) t
theorem r7{P:Nat->Bool}:∀{t q x:Nat},fV P q t=some x->q<=x/\x<q+t/\P x=true/\∀ y,q<=y->y<x->P y=false
 |0,_,_,h=>by cases h
 | t+1,q,x,h=>by
  unfold fV at h;cases g:P q with
  | true =>
   rw[g]at h;cases h;exact⟨aQ _,by omega,g,fun y h1 k=>by omega⟩
  | false =>
   rw[g]at h;obtain⟨a,b,c,d⟩:=r7 (t:=t) h;exact⟨by omega,by omega,c,fun y h1 k=>by
    by_cases e:y=q
    ·subst e; exact g
    ·exact d y (by omega) k⟩
theorem xp{P:Nat->Bool}:∀{t q:Nat},fV P q t=none->∀ y,q<=y->y<q+t->P y=false
 |0,q,_,y,h1,g=>by omega
 | t+1,q,h,y,h1,g=>by
  unfold fV at h;cases d:P q with
  |true=>rw[d]at h; cases h
  | false =>
   rw[d]at h;by_cases e:y=q
   ·subst e; exact d
   ·exact xp (t:=t) h y (by omega) (by omega)
theorem I1{P:Nat->Bool}{t q x:Nat}(h1:q<=x)(v:x<q+t)(k:P x=true)(I:∀ y,q<=y->y<x->P y=false):fV P q t=some x:=by
 cases h:fV P q t with
 |none=>rw[xp h x h1 v]at k; cases k
 | some z =>
  obtain⟨a,b,c,d⟩:=r7 h;rcases J_ z x with g|g|g
  ·rw[I z a g]at c; cases c
  ·rw[g]
  ·rw[d x h1 g]at k; cases k
theorem ahc{P:Nat->Bool}{t q:Nat}(h:∀ y,q<=y->y<q+t->P y=false):fV P q t=none:=by
 cases d:fV P q t with
 |none=>rfl
 | some z =>
  obtain⟨a,b,c,_⟩:=r7 d;rw[h z a b]at c;cases c
def gf(F:Nat->Nat->Int)(ok:Nat->Nat->Bool)(w:Nat->Nat->Int)(v:Int)(i q:Nat):Bool:=ok i q&&(w i q+F (i+1) (q+1)==v)
theorem uo{v:Int}{i q:Nat}:gf F ok w v i q=true↔ok i q=true/\w i q+F (i+1) (q+1)=v:=by
 unfold gf;rw[aL,beq_iff_eq]
def bz(F:Nat->Nat->Int)(m:Nat)(ok:Nat->Nat->Bool)(w:Nat->Nat->Int):Nat->Nat->Nat->List (Nat × Nat)
 |0,_,_=>[]
 | t+1,i,f=>match fV (gf F ok w (F i f) i) f (m-f) with
  |some q=>(i,q)::bz F m ok w t (i+1) (q+1)
  |none=>bz F m ok w t (i+1) f
theorem nw{t i f q:Nat} (h:fV (gf F ok w (F i f) i) f (m-f)=some q):bz F m ok w (t+1) i f=(i,q)::bz F m ok w t (i+1) (q+1):=by
 rw[bz,h]
theorem qu{t i f:Nat} (h:fV (gf F ok w (F i f) i) f (m-f)=none):bz F m ok w (t+1) i f=bz F m ok w t (i+1) f:=by
 rw[bz,h]
theorem qv:∀(t i f:Nat),∀ x∈bz F m ok w t i f,i<=x.1/\x.1<i+t/\f<=x.2/\x.2<m/\ok x.1 x.2=true
 |0,_,_,x,h=>by cases h
 | t+1,i,f,x,h=>by
  cases g:fV (gf F ok w (F i f) i) f (m-f)with
  | none =>
   rw[qu g]at h;obtain⟨a,b,c,d,e⟩:=qv t (i+1) f x h;exact⟨by omega,by omega,c,d,e⟩
  | some q =>
   rw[nw g]at h;obtain⟨k,y,v,_⟩:=r7 g;rcases cq.1 h with rfl|h
   ·exact⟨aQ _,by simp,k,by simp; omega,(uo.1 v).1⟩
   ·obtain ⟨a, b, c, d, e⟩ := qv t (i + 1) (q + 1) x h
    exact⟨by omega,by omega,by omega,d,e⟩
theorem I2:∀(t i f:Nat),(bz F m ok w t i f).Pairwise fun x y=>x.1<y.1/\x.2<y.2
 |0,_,_=>.nil
 | t+1,i,f=>by
  cases d:fV (gf F ok w (F i f) i) f (m-f)with
  |none=>rw[qu d]; exact I2 t (i+1) f
  | some q =>
   rw[nw d];refine .cons (fun y g=>?_) (I2 t (i+1) (q+1));obtain⟨a,_,c,_,_⟩:=qv t (i+1) (q+1) y g;exact⟨by simp; omega,by simp; omega⟩
theorem Ex(h:eZ F n m ok w){i f:Nat}(hi:i<n)(d:∀ q,f<=q->q<m->gf F ok w (F i f) i q=false):F i f=F (i+1) f:=by
 rcases h.row hi (m-f) f (aQ _)with e|⟨q,g,k,v,y⟩
 ·exact e
 ·have := d q g k
  rw[uo.2 ⟨v,y.symm⟩]at this;cases this
end
def lR(n m:Nat)(ok:Nat->Nat->Bool)(w:Nat->Nat->Int)(i k:Nat):Int :=
 if h:i<n/\k<m then
  if ok i k=true then max (max (lR n m ok w (i+1) k) (lR n m ok w i (k+1))) (w i k+lR n m ok w (i+1) (k+1)) else max (lR n m ok w (i+1) k) (lR n m ok w i (k+1))
 else 0
termination_by (n-i)+(m-k)
theorem Ey(n m:Nat)(ok:Nat->Nat->Bool)(w:Nat->Nat->Int):eZ (lR n m ok w) n m ok w :=
 ⟨fun i k h => by rw [lR, dif_neg (by omega)], fun i k hi d => by
  conv=>lhs; rw[lR]
  rw[dif_pos ⟨hi,d⟩]⟩
theorem eZ.le{F:Nat->Nat->Int}{n m:Nat}{ok:Nat->Nat->Bool}{w:Nat->Nat->Int}(h:eZ F n m ok w){W:Int}(v:0<=W)(d:∀ i k,w i k<=W):∀(t i k:Nat),n-i=t->F i k<=W*(t:Int)
 |0,i,k,y=>by rw[h.mD i k (.inl (by omega))]; simp
 | t+1,i,k,y=>by
  have e:W*((t+1:Nat):Int)=W*(t:Int)+W:=by rw[Int.natCast_succ,Int.mul_add,Int.mul_one]
  rw[e];rcases h.row (i:=i) (by omega) (m-k) k (aQ _)with g|⟨q,_,_,_,g⟩
  ·have := h.le v d t (i + 1) k (by omega)
   omega
  ·have := h.le v d t (i + 1) (q + 1) (by omega)
   have:=d i q;omega
def iX(r:LG):Int:=(gi r 0).iV
def mE(r:LG):Int:=(gi r 1).iV
def jU(r:LG):BY:=(gi r 2).sV
def I3(r:LG):BY:=(gi r 3).sV
def eU(r:LG):Prop:=a8 [.I,.I,.str,.str,.I,.I,.str,.str] r=r /\ -1000000000000<=iX r/\iX r<=1000000000000
def ju(p q:LG):Int:=if iX q-iX p>iX p-iX q then iX q-iX p else iX p-iX q
def jV(oF:Int)(p q:LG):Bool:=((jU p).toList==(jU q).toList)&&((mE p==mE q)&&bC (ju p q) oF)
theorem xq{p q:LG}(d:eU p)(g:eU q):0<=ju p q/\ju p q<=2000000000000:=by
 obtain⟨_,h1,h⟩:=d;obtain⟨_,k,v⟩:=g;unfold ju;split<;>omega
theorem I4{p q:LG}(d:eU p)(g:eU q):wS [.l [p],.l [q]]=some [.i (ju p q)]:=by
 obtain⟨_,h1,h⟩:=d;obtain⟨_,k,v⟩:=g;unfold iX at h1 h k v;refine aa.toEq ?_;unfold wS ju iX;dsimp +instances only[gd,Aa,Ab,Ac,Ad,Ae,Af,Ag];exact aa.pos (c6.2 ⟨by omega,by omega⟩) (aa.pos (c6.2 ⟨by omega,by omega⟩) (aa.some rfl))
theorem I5(oF:Int){p q:LG}(d:eU p)(g:eU q):wT [.l [p],.l [q],.i oF]=some [.t (jV oF p q)]:=by
 refine aa.toEq ?_;unfold wT jV;dsimp +instances only[gd,Aa,Ab,Ac,Ad,Ae,Af,Ag];refine aa.test (fun h=>?_) fun h=>?_
 ·have h : ((jU p).toList == (jU q).toList) = true := h
  rw[h];refine aa.test (fun h=>?_) fun h=>?_
  ·have h : (mE p == mE q) = true := h
   rw[h,d.1,g.1];refine aa.cE (I4 d g) ?_;exact aa.some rfl
  ·have h : (mE p == mE q) = false := h
   rw[h];exact aa.some rfl
 ·have h : ((jU p).toList == (jU q).toList) = false := h
  rw[h];exact aa.some rfl
structure JC (a b:LL) (X Y:List Nat):Prop where
 ha:∀ z∈a,eU z
 hb:∀ z∈b,eU z
 hX:∀ i∈X,i<a.length
 hY:∀ i∈Y,i<b.length
 na:a.length<=100000
 nb:b.length<=100000
 nX:X.length<=1000
 nY:Y.length<=1000
def bl(X:List Nat):LL:=X.map fun(i:Nat)=>[G.i (i:Int)]
theorem jW(X:List Nat):(bl X).length=X.length:=c9 _
theorem r8{X:List Nat}{i:Nat}(hi:i<X.length):(bl X).getD i []=[.i ((X.getD i 0:Nat):Int)]:=by
 unfold bl;rw[cu,bW,bY hi,cu,bY hi];rfl
theorem jX{α:Type}{l:List α}{i:Nat}{z:α}(h:i<l.length):l.getD i z∈l:=by
 rw[cu,bY h];exact uL h
def gg(a:LL)(X:List Nat)(i:Nat):LG:=a.getD (X.getD i 0) []
def dc(a b:LL)(X Y:List Nat)(oF:Int)(i k:Nat):Bool:=jV oF (gg a X i) (gg b Y k)
def wJ(a b:LL)(X Y:List Nat)(i k:Nat):Int:=10000000000-ju (gg a X i) (gg b Y k)
theorem JC.xr{a b:LL}{X Y:List Nat}(J:JC a b X Y){i:Nat}(hi:i<X.length):X.getD i 0<a.length/\eU (gg a X i):=by
 have h:=J.hX _ (jX (z:=0) hi);exact⟨h,J.ha _ (jX h)⟩
theorem JC.xu{a b:LL}{X Y:List Nat}(J:JC a b X Y){i:Nat}(hi:i<Y.length):Y.getD i 0<b.length/\eU (gg b Y i):=by
 have h:=J.hY _ (jX (z:=0) hi);exact⟨h,J.hb _ (jX h)⟩
theorem ahd{a b:LL}{X Y:List Nat}(J:JC a b X Y)(oF:Int)(h:LL){i k:Nat}(hi:i<X.length)(q:k<Y.length) :
  DP [.l a,.l b,.l (bl X),.l (bl Y),.i oF,.l h,.i (i:Int),.i (k:Int)]=some [.l a,.l b,.l (bl X),.l (bl Y),.i oF,.l h,.i (wJ a b X Y i k),.t (dc a b X Y oF i k)]:=by
 obtain⟨h1,d⟩:=J.xr hi;obtain⟨M,g⟩:=J.xu q;have I:=xq d g;refine aa.toEq ?_;unfold DP;dsimp +instances only[gd,Aa,Ab,Ac,Ad,Ae,Af,Ag];simp only[a6,r8 hi,r8 q,jW];dsimp +instances only[gd,Aa,Ab,Ac,Ad,Ae,Af,Ag];simp only[a6];refine aa.p (aa.p (aa.p (aa.p ?_)));have v:a.getD (X.getD i 0) []=gg a X i:=rfl;have y:b.getD (Y.getD k 0) []=gg b Y k:=rfl;rw[v,y,d.1,g.1];refine aa.cE (I4 d g) ?_;dsimp +instances only[gd,Aa,Ab,Ac,Ad,Ae,Af,Ag];refine aa.pos (c6.2 ⟨by omega,by omega⟩) ?_;refine aa.cE (I5 oF d g) ?_;dsimp +instances only[gd,Aa,Ab,Ac,Ad,Ae,Af,Ag];refine aa.pos ?_ (aa.some rfl);simp
theorem RE{a b:LL}{X Y:List Nat}(J:JC a b X Y)(oF:Int)(q:LL){i k:Nat}(hi:i<X.length)(h:k<Y.length) :
  DS [.l [[.l a,.l b,.l (bl X),.l (bl Y),.i oF,.l q]],.i (i:Int),.i (k:Int)]=some [.i (wJ a b X Y i k),.t (dc a b X Y oF i k)]:=by
 obtain⟨h1,d⟩:=J.xr hi;obtain⟨M,g⟩:=J.xu h;have I:=xq d g;refine aa.toEq ?_;unfold DS;dsimp +instances only[gd,Aa,Ab,Ac,Ad,Ae,Af,Ag];simp only[a6,r8 hi,r8 h,jW];dsimp +instances only[gd,Aa,Ab,Ac,Ad,Ae,Af,Ag];simp only[a6];refine aa.p (aa.p (aa.p (aa.p ?_)));have v:a.getD (X.getD i 0) []=gg a X i:=rfl;have y:b.getD (Y.getD k 0) []=gg b Y k:=rfl;rw[v,y,d.1,g.1];refine aa.cE (I4 d g) ?_;dsimp +instances only[gd,Aa,Ab,Ac,Ad,Ae,Af,Ag];refine aa.pos (c6.2 ⟨by omega,by omega⟩) ?_;refine aa.cE (I5 oF d g) ?_;exact aa.some rfl
def fi(F:Nat->Nat->Int)(m i t:Nat):LL:=(fj (m+1)).map fun j=>[G.i (if t<=j then F i j else 0)]
def e9(F:Nat->Nat->Int)(n m i:Nat):LL:=(fj (n+1)).map fun p=>[G.l (if i<=p then fi F m p 0 else [])]
theorem r9(F:Nat->Nat->Int)(m i t:Nat):(fi F m i t).length=m+1:=by unfold fi; rw[c9,oI]
theorem xv(F:Nat->Nat->Int)(n m i:Nat):(e9 F n m i).length=n+1:=by unfold e9; rw[c9,oI]
theorem AN{F:Nat->Nat->Int}{m i t j:Nat}(d:j<=m):(fi F m i t).getD j []=[.i (if t<=j then F i j else 0)]:=by
 unfold fi;rw[cu,bW,pM (by omega)];rfl
theorem I6{F:Nat->Nat->Int}{n m i p:Nat}(d:p<=n):(e9 F n m i).getD p []=[.l (if i<=p then fi F m p 0 else [])]:=by
 unfold e9;rw[cu,bW,pM (by omega)];rfl
theorem ahe{F:Nat->Nat->Int}{m i t:Nat}:(fi F m i (t+1)).set t [.i (F i t)]=fi F m i t:=by
 apply jz;intro j;unfold fi;rw[ef,bW,bW,c9,oI];by_cases d:j<m+1
 ·rw [pM d]
  by_cases e:t=j
  ·subst e
   rw[iP rfl,iP d];simp
  ·rw [iN e]
   simp only[e_];by_cases h:t<=j
   ·rw[iP h,iP (by omega)]
   ·rw[iN h,iN (by omega)]
 ·rw [oG (by simp; omega)]
  by_cases e:t=j
  ·subst e
   rw[iP rfl,iN d];rfl
  ·rw [iN e]
   rfl
theorem ahf{F:Nat->Nat->Int}{m i:Nat}(h:F i m=0):fi F m i m=cC (m+1) [.i 0]:=by
 rw[J'];refine⟨r9 F m i m,fun x d=>?_⟩;unfold fi at d;obtain⟨j,g,rfl⟩:=dw.1 d;rw[gH]at g;by_cases e:m<=j
 ·rw[iP e,show j=m from by omega,h]
 ·rw[iN e]
theorem ahg{F:Nat->Nat->Int}{m i:Nat}(h:∀ k,F i k=0):fi F m i 0=cC (m+1) [.i 0]:=by
 rw[J'];refine⟨r9 F m i 0,fun x d=>?_⟩;unfold fi at d;obtain⟨j,g,rfl⟩:=dw.1 d;rw[iP (eR _),h]
theorem ahh{F:Nat->Nat->Int}{n m i:Nat}:(e9 F n m (i+1)).set i [.l (fi F m i 0)]=e9 F n m i:=by
 apply jz;intro j;unfold e9;rw[ef,bW,bW,c9,oI];by_cases d:j<n+1
 ·rw [pM d]
  by_cases e:i=j
  ·subst e
   rw[iP rfl,iP d];simp
  ·rw [iN e]
   simp only[e_];by_cases h:i<=j
   ·rw[iP h,iP (by omega)]
   ·rw[iN h,iN (by omega)]
 ·rw [oG (by simp; omega)]
  by_cases e:i=j
  ·subst e
   rw[iP rfl,iN d];rfl
  ·rw [iN e]
   rfl
theorem ahi{F:Nat->Nat->Int}{n m:Nat}(h:∀ k,F n k=0):(cC (n+1) ([.l []]:LG)).set n [.l (cC (m+1) [.i 0])]=e9 F n m n:=by
 apply jz;intro j;unfold e9;rw[ef,bW,akC,sK];by_cases d:j<n+1
 ·rw [pM d]
  by_cases e:n=j
  ·subst e
   rw[iP rfl,iP d,e_,iP (aQ _),ahg h]
  ·rw[iN e,iP d,e_,iN (by omega)]
 ·rw [oG (by simp; omega)]
  by_cases e:n=j
  ·subst e
   rw[iP rfl,iN d];rfl
  ·rw [iN e, iN d]
   rfl
theorem xw(k:Kd)(r:LG)(v:G):eo [k] r 0 [v]=[v]:=by
 simp[eo,q9]
theorem RF{a b x y d row:LL}{oF:Int}{i k:Nat}(g:k<=100000) :
  zY [.l a,.l b,.l x,.l y,.i oF,.l d,.l row,.i (i:Int),.i (k:Int)]=some (some 0,[.l a,.l b,.l x,.l y,.i oF,.l d,.l row,.i (i:Int),.i ((k:Int)-1)]):=by
 refine aa.toEq ?_;unfold zY;dsimp +instances only[gd,Aa,Ab,Ac,Ad,Ae,Af,Ag];exact aa.pos (c6.2 ⟨by omega,by omega⟩) (aa.pos (by simp) (aa.some rfl))
theorem RG{a b:LL}{X Y:List Nat}(J:JC a b X Y)(oF:Int){F:Nat->Nat->Int}(d:eZ F X.length Y.length (dc a b X Y oF) (wJ a b X Y)){i:Nat}(hi:i<X.length):∀ t:Nat,t<=Y.length ->
  aX zZ [.l a,.l b,.l (bl X),.l (bl Y),.i oF,.l (e9 F X.length Y.length (i+1)),.l (fi F Y.length i t),.i (i:Int),.i ((t:Int)-1)] (t+1) fun c g=>c=0/\g=[.l a,.l b,.l (bl X),.l (bl Y),.i oF,.l (e9 F X.length Y.length (i+1)),.l (fi F Y.length i 0),.i (i:Int)]
 | 0,_=>by
  refine aX.stop (x:=0) (aa.toEq ?_) ⟨rfl,rfl⟩;unfold zZ;dsimp +instances only[gd,Aa,Ab,Ac,Ad,Ae,Af,Ag];exact aa.neg (by rw[eY]; decide) (aa.pos (by simp) (aa.some rfl))
 | t+1,ht=>by
  have nX:=J.nX;have nY:=J.nY;have hW:∀ i k,F i k<=10000000000*((X.length-i:Nat):Int):=fun i k=>d.le (W:=10000000000) (by omega) (fun i k=>by
   unfold wJ ju;split<;>omega) _ i k rfl
  have b1:=d.I0 (i+1) t;have b2:=d.I0 (i+1) (t+1);have b3:=hW (i+1) (t+1);have hwo : -2000000000000<=wJ a b X Y i t/\wJ a b X Y i t<=10000000000:=by
   have:=xq (J.xr hi).2 (J.xu (show t<Y.length by omega)).2;unfold wJ;omega
  have ih:=RG J oF d hi t (by omega);have e0:((t+1:Nat):Int)-1=(t:Int):=by omega
  rw[e0];refine aX.next (aa.toEq ?_) ih
  have e1:((i:Int)+1).toNat=i+1:=by omega
  have e2:((t:Int)+1).toNat=t+1:=by omega
  have hM:(e9 F X.length Y.length (i+1)).getD (i+1) []=[.l (fi F Y.length (i+1) 0)]:=by rw[I6 (by omega),iP (aQ _)]
  have hN0:(fi F Y.length (i+1) 0).getD t []=[.i (F (i+1) t)]:=by rw[AN (by omega),iP (eR _)]
  have M:(fi F Y.length (i+1) 0).getD (t+1) []=[.i (F (i+1) (t+1))]:=by rw[AN (by omega),iP (eR _)]
  have N:(fi F Y.length i (t+1)).getD (t+1) []=[.i (F i (t+1))]:=by rw[AN (by omega),iP (aQ _)]
  have q:=d.step i t hi (by omega);have y:∀ v,v=F i t->(fi F Y.length i (t+1)).set t [.i v]=fi F Y.length i t:=fun v hv=>by rw[hv,ahe]
  have I:∀ v:Int,((fi F Y.length i (t+1)).set t [.i v]).getD t []=[.i v]:=fun v=>by
   rw[cu,bB (by rw[r9]; omega)];rfl
  have O:=xv F X.length Y.length (i+1);have U:=r9 F Y.length i (t+1);have V:=r9 F Y.length (i+1) 0;generalize hRR:fi F Y.length i (t+1)=R at N y I U|-;unfold zZ;dsimp +instances only[gd,Aa,Ab,Ac,Ad,Ae,Af,Ag];simp only[a6,e1,e2,cP,hM];dsimp +instances only[gd,Aa,Ab,Ac,Ad,Ae,Af,Ag];simp only[hN0,M,N,xw,O,U,V,iv,I,List.set_set];dsimp +instances only[gd,Aa,Ab,Ac,Ad,Ae,Af,Ag];refine aa.p (aa.p (aa.p (aa.p (aa.p (aa.p (aa.p (aa.p (aa.p (aa.p ?_)))))))));refine aa.pc (aa.eq (ahd J oF _ hi (show t<Y.length by omega))) (by simp) ?_;rintro _ rfl;dsimp +instances only[gd,Aa,Ab,Ac,Ad,Ae,Af,Ag];simp only[hM];dsimp +instances only[gd,Aa,Ab,Ac,Ad,Ae,Af,Ag];simp only[M,O,V];dsimp +instances only[gd,Aa,Ab,Ac,Ad,Ae,Af,Ag];refine aa.test (fun h=>?_) fun h=>?_
  ·rw [iP h] at q
   refine aa.p (aa.p (aa.p (aa.p (aa.p (aa.p (aa.p (aa.pos (c6.2 ⟨by omega,by omega⟩) (aa.p (aa.p ?_)))))))));refine aa.tail (P:=fun u g=>u=0/\g=[.l a,.l b,.l (bl X),.l (bl Y),.i oF,.l (e9 F X.length Y.length (i+1)),.l (fi F Y.length i t),.i (i:Int),.i ((t:Int)-1)]) ⟨_,RF (by omega),0,rfl,?_,?_⟩ (by simp) ?_
   ·rfl
   ·rw [y _ ?_]
    rw[q];split<;>split<;>omega
   ·rintro _ _ ⟨rfl, rfl⟩
    dsimp +instances only[gd,Aa,Ab,Ac,Ad,Ae,Af,Ag];exact aa.pos (by simp) (aa.some rfl)
  ·rw [iN (by rw [h]; decide)] at q
   refine aa.tail (P:=fun u g=>u=0/\g=[.l a,.l b,.l (bl X),.l (bl Y),.i oF,.l (e9 F X.length Y.length (i+1)),.l (fi F Y.length i t),.i (i:Int),.i ((t:Int)-1)]) ⟨_,RF (by omega),0,rfl,?_,?_⟩ (by simp) ?_
   ·rfl
   ·rw [y _ ?_]
    rw[q];split<;>omega
   ·rintro _ _ ⟨rfl, rfl⟩
    dsimp +instances only[gd,Aa,Ab,Ac,Ad,Ae,Af,Ag];exact aa.pos (by simp) (aa.some rfl)
theorem RH{a b:LL}{X Y:List Nat}(J:JC a b X Y)(oF:Int){F:Nat->Nat->Int}(d:eZ F X.length Y.length (dc a b X Y oF) (wJ a b X Y)):∀ t:Nat,t<=X.length ->
  aX z_ [.l a,.l b,.l (bl X),.l (bl Y),.i oF,.l (e9 F X.length Y.length t),.i ((t:Int)-1)] (t+1) fun c g=>c=0/\g=[.l a,.l b,.l (bl X),.l (bl Y),.i oF,.l (e9 F X.length Y.length 0)]
 | 0,_=>by
  refine aX.stop (x:=0) (aa.toEq ?_) ⟨rfl,rfl⟩;unfold z_;dsimp +instances only[gd,Aa,Ab,Ac,Ad,Ae,Af,Ag];exact aa.neg (by rw[eY]; decide) (aa.pos (by simp) (aa.some rfl))
 | t+1,I=>by
  have nX:=J.nX;have nY:=J.nY;have q:=RH J oF d t (by omega);have v:((t+1:Nat):Int)-1=(t:Int):=by omega
  rw[v];refine aX.next (aa.toEq ?_) q
  have y:((Y.length:Int)+1).toNat=Y.length+1:=by omega
  have h:(cC (Y.length+1) ([.i 0]:LG))=fi F Y.length t Y.length:=(ahf (d.mD t Y.length (.inr (aQ _)))).symm;have k:=RG J oF d (show t<X.length by omega) Y.length (aQ _);unfold z_;dsimp +instances only[gd,Aa,Ab,Ac,Ad,Ae,Af,Ag];simp only[jW,y,h];refine aa.p (aa.p (aa.p (aa.p ?_)));refine aa.loop (k.to (by omega)) (by simp[r9]) ?_;rintro _ _ ⟨rfl,rfl⟩;dsimp +instances only[gd,Aa,Ab,Ac,Ad,Ae,Af,Ag];simp only[a6,cP,xw,xv];refine aa.p (aa.pos (by simp; omega) (aa.p (aa.pos (by simp[xv]) (aa.some ?_))));rw[ahh]
theorem ahj{a b:LL}{X Y:List Nat}(J:JC a b X Y)(oF:Int){F:Nat->Nat->Int}(d:eZ F X.length Y.length (dc a b X Y oF) (wJ a b X Y)) :
  DR [.l a,.l b,.l (bl X),.l (bl Y),.i oF,.l []]=some [.l a,.l b,.l (bl X),.l (bl Y),.i oF,.l (e9 F X.length Y.length 0)]:=by
 have nX:=J.nX;have nY:=J.nY;have h:((X.length:Int)+1).toNat=X.length+1:=by omega
 have q:((Y.length:Int)+1).toNat=Y.length+1:=by omega
 have g:(cC (X.length+1) ([.l []]:LG)).set X.length [.l (cC (Y.length+1) [.i 0])]=e9 F X.length Y.length X.length:=ahi fun k=>d.mD X.length k (.inl (aQ _));refine aa.toEq ?_;unfold DR;dsimp +instances only[gd,Aa,Ab,Ac,Ad,Ae,Af,Ag];simp only[jW,h,q,cP,xw,g,sK,xv];refine aa.p (aa.p (aa.p (aa.p (aa.p (aa.pos (by simp) (aa.p ?_))))));refine aa.loop ((RH J oF d X.length (aQ _)).to (by omega)) (by simp) ?_;rintro _ _ ⟨rfl,rfl⟩;dsimp +instances only[gd,Aa,Ab,Ac,Ad,Ae,Af,Ag];exact aa.pos (by simp) (aa.some rfl)
def eJ(X Y:List Nat)(p:Nat × Nat):LG:=[.i ((X.getD p.1 0:Nat):Int),.i ((Y.getD p.2 0:Nat):Int)]
def RI(X Y:List Nat)(out:LL)(i:Nat):Option Nat->LL
 |some q=>out++[eJ X Y (i,q)]
 |none=>out
def RJ(f:Nat):Option Nat->Nat
 |some q=>q+1
 |none=>f
theorem I7{a b d out:LL}{X Y:List Nat}(oF:Int){f i k n:Nat}(hi:i<X.length)(g:k<Y.length)(nY:Y.length<=1000)(ho:out.length<=100000)(t:Bool) :
  wU [.l a,.l b,.l (bl X),.l (bl Y),.i oF,.l d,.l out,.i (f:Int),.i (i:Int),.i (k:Int),.i (n:Int),.i (i:Int),.t t] =
   bif t then some (some 0,[.l a,.l b,.l (bl X),.l (bl Y),.i oF,.l d,.l (out++[eJ X Y (i,k)]),.i ((k+1:Nat):Int),.i (n:Int),.i (i:Int)])
   else some (some 1,[.l a,.l b,.l (bl X),.l (bl Y),.i oF,.l d,.l out,.i (f:Int),.i (i:Int),.i (k:Int),.i (n:Int),.i (i:Int)]):=by
 cases t with
 | false =>
  refine aa.toEq ?_;unfold wU;dsimp +instances only[gd,Aa,Ab,Ac,Ad,Ae,Af,Ag];exact aa.neg rfl (aa.pos (by simp) (aa.some rfl))
 | true =>
  refine aa.toEq ?_;unfold wU;dsimp +instances only[gd,Aa,Ab,Ac,Ad,Ae,Af,Ag];simp only[a6,r8 hi,r8 g,jW];dsimp +instances only[gd,Aa,Ab,Ac,Ad,Ae,Af,Ag];exact aa.pos rfl (aa.p (aa.p (aa.pos (by simp; omega) (aa.p (aa.pos (by simp) (aa.some rfl))))))
section
variable {a b:LL} {X Y:List Nat} {F:Nat->Nat->Int}
theorem RL(J:JC a b X Y)(oF:Int)(v:eZ F X.length Y.length (dc a b X Y oF) (wJ a b X Y))(out:LL)(ho:out.length<=100000){f i:Nat}(hi:i<X.length)(hf:f<=Y.length):∀ t k:Nat,k+t=Y.length ->
  aX uf [.l a,.l b,.l (bl X),.l (bl Y),.i oF,.l (e9 F X.length Y.length 0),.l out,.i (f:Int),.i (i:Int),.i (k:Int),.i (X.length:Int),.i (i:Int)] (t+1)
   fun c g=>c=0/\g=[.l a,.l b,.l (bl X),.l (bl Y),.i oF,.l (e9 F X.length Y.length 0),.l (RI X Y out i (fV (gf F (dc a b X Y oF) (wJ a b X Y) (F i f) i) k t)),.i (RJ f (fV (gf F (dc a b X Y oF) (wJ a b X Y) (F i f) i) k t):Int),.i (X.length:Int),.i (i:Int)]
 | 0,k,hk=>by
  refine aX.stop (x:=0) (aa.toEq ?_) ⟨rfl,rfl⟩;have nY:=J.nY;unfold uf;dsimp +instances only[gd,Aa,Ab,Ac,Ad,Ae,Af,Ag];simp only[jW];exact aa.n (aa.pos (by simp) (aa.some rfl))
 | t+1,k,hk=>by
  have nX:=J.nX;have nY:=J.nY;have q:k<Y.length:=by omega
  have hW:∀ i k,F i k<=10000000000*((X.length-i:Nat):Int):=fun i k=>v.le (W:=10000000000) (by omega) (fun i k=>by
   unfold wJ ju;split<;>omega) _ i k rfl
  have b2:=v.I0 (i+1) (k+1);have b3:=hW (i+1) (k+1);have hwo : -2000000000000<=wJ a b X Y i k/\wJ a b X Y i k<=10000000000:=by
   have:=xq (J.xr hi).2 (J.xu q).2;unfold wJ;omega
  have V:((i:Int)+1).toNat=i+1:=by omega
  have e2:((k:Int)+1).toNat=k+1:=by omega
  have I:(e9 F X.length Y.length 0).getD (i+1) []=[.l (fi F Y.length (i+1) 0)]:=by rw[I6 (by omega),iP (eR _)]
  have M:(e9 F X.length Y.length 0).getD i []=[.l (fi F Y.length i 0)]:=by rw[I6 (by omega),iP (eR _)]
  have N:(fi F Y.length (i+1) 0).getD (k+1) []=[.i (F (i+1) (k+1))]:=by rw[AN (by omega),iP (eR _)]
  have O:(fi F Y.length i 0).getD f []=[.i (F i f)]:=by rw[AN (by omega),iP (eR _)]
  have U:∀ c:Bool,gf F (dc a b X Y oF) (wJ a b X Y) (F i f) i k=c->fV (gf F (dc a b X Y oF) (wJ a b X Y) (F i f) i) k (t+1)=bif c then some k else fV (gf F (dc a b X Y oF) (wJ a b X Y) (F i f) i) (k+1) t:=fun c hc=>by rw[<-hc]; rfl
  have go:gf F (dc a b X Y oF) (wJ a b X Y) (F i f) i k=false->aa (uf [.l a,.l b,.l (bl X),.l (bl Y),.i oF,.l (e9 F X.length Y.length 0),.l out,.i (f:Int),.i (i:Int),.i (k:Int),.i (X.length:Int),.i (i:Int)])
    (fun o=>o=(none,[.l a,.l b,.l (bl X),.l (bl Y),.i oF,.l (e9 F X.length Y.length 0),.l out,.i (f:Int),.i (i:Int),.i ((k+1:Nat):Int),.i (X.length:Int),.i (i:Int)])):=fun d=>by
   unfold uf;dsimp +instances only[gd,Aa,Ab,Ac,Ad,Ae,Af,Ag];simp only[jW];refine aa.p ?_;refine aa.cE (RE J oF _ hi q) ?_;dsimp +instances only[gd,Aa,Ab,Ac,Ad,Ae,Af,Ag];simp only[a6,V,e2,I,M];dsimp +instances only[gd,Aa,Ab,Ac,Ad,Ae,Af,Ag];simp only[N,O,xv,r9];dsimp +instances only[gd,Aa,Ab,Ac,Ad,Ae,Af,Ag];refine aa.test (fun h=>?_) fun h=>?_
   ·refine aa.p (aa.p (aa.p (aa.p (aa.pos (c6.2 ⟨by omega, by omega⟩) (aa.p (aa.p ?_))))))
    have y:(wJ a b X Y i k+F (i+1) (k+1)==F i f)=false:=by
     unfold gf at d
     rwa [h,j9]at d
    rw[y];refine aa.tail (P:=fun u g=>u=1/\g=[.l a,.l b,.l (bl X),.l (bl Y),.i oF,.l (e9 F X.length Y.length 0),.l out,.i (f:Int),.i (i:Int),.i (k:Int),.i (X.length:Int),.i (i:Int)]) ⟨_,I7 oF hi q nY ho false,1,rfl,rfl,rfl⟩ (by simp) ?_;rintro _ _ ⟨rfl,rfl⟩;dsimp +instances only[gd,Aa,Ab,Ac,Ad,Ae,Af,Ag];exact aa.neg rfl (aa.p (aa.pos (by simp) (aa.some rfl)))
   ·refine aa.tail (P := fun u g => u = 1 /\ g = [.l a, .l b, .l (bl X), .l (bl Y), .i oF, .l (e9 F X.length Y.length 0), .l out, .i (f : Int), .i (i : Int), .i (k : Int), .i (X.length : Int), .i (i : Int)]) ⟨_, I7 oF hi q nY ho false, 1, rfl, rfl, rfl⟩ (by simp) ?_
    rintro _ _ ⟨rfl,rfl⟩;dsimp +instances only[gd,Aa,Ab,Ac,Ad,Ae,Af,Ag];exact aa.neg rfl (aa.p (aa.pos (by simp) (aa.some rfl)))
  cases d:gf F (dc a b X Y oF) (wJ a b X Y) (F i f) i k with
  | false =>
   rw[U false d,cF];exact aX.next (aa.toEq (go d)) (RL J oF v out ho hi hf t (k+1) (by omega))
  | true =>
   rw[U true d,cT];obtain⟨o1,o2⟩:=uo.1 d;refine aX.stop (x:=0) (aa.toEq ?_) ⟨rfl,rfl⟩;unfold uf;dsimp +instances only[gd,Aa,Ab,Ac,Ad,Ae,Af,Ag];simp only[jW];refine aa.p ?_;refine aa.cE (RE J oF _ hi q) ?_;dsimp +instances only[gd,Aa,Ab,Ac,Ad,Ae,Af,Ag];simp only[a6,V,e2,I,M];dsimp +instances only[gd,Aa,Ab,Ac,Ad,Ae,Af,Ag];simp only[N,O,xv,r9];dsimp +instances only[gd,Aa,Ab,Ac,Ad,Ae,Af,Ag];refine aa.pos o1 ?_;refine aa.p (aa.p (aa.p (aa.p (aa.pos (c6.2 ⟨by omega,by omega⟩) (aa.p (aa.p ?_))))));have y:(wJ a b X Y i k+F (i+1) (k+1)==F i f)=true:=by rw[beq_iff_eq]; exact o2
   rw[y];refine aa.tail (P:=fun u g=>u=0/\g=[.l a,.l b,.l (bl X),.l (bl Y),.i oF,.l (e9 F X.length Y.length 0),.l (out++[eJ X Y (i,k)]),.i ((k+1:Nat):Int),.i (X.length:Int),.i (i:Int)]) ⟨_,I7 oF hi q nY ho true,0,rfl,rfl,rfl⟩ (by simp) ?_;rintro _ _ ⟨rfl,rfl⟩;dsimp +instances only[gd,Aa,Ab,Ac,Ad,Ae,Af,Ag];exact aa.pos rfl (aa.pos (by simp) (aa.some rfl))
theorem I8(J:JC a b X Y)(oF:Int)(h:eZ F X.length Y.length (dc a b X Y oF) (wJ a b X Y)):∀(t i f:Nat) (out:LL),i+t=X.length->f<=Y.length->out.length+t<=100000 ->
  aX wV [.l a,.l b,.l (bl X),.l (bl Y),.i oF,.l (e9 F X.length Y.length 0),.l out,.i (f:Int),.i (X.length:Int),.i (i:Int)] (t+1)
   fun c g=>c=0/\g=[.l a,.l b,.l (bl X),.l (bl Y),.i oF,.l (e9 F X.length Y.length 0),.l (out++(bz F Y.length (dc a b X Y oF) (wJ a b X Y) t i f).map (eJ X Y))]
 | 0,i,f,out,hi,k,ho=>by
  have e:out++(bz F Y.length (dc a b X Y oF) (wJ a b X Y) 0 i f).map (eJ X Y)=out:=by rw[bz,uK,dJ]
  rw[e];refine aX.stop (x:=0) (aa.toEq ?_) ⟨rfl,rfl⟩;unfold wV;dsimp +instances only[gd,Aa,Ab,Ac,Ad,Ae,Af,Ag];exact aa.n (aa.pos (by simp) (aa.some rfl))
 | t+1,i,f,out,hi,k,ho=>by
  have nX:=J.nX;have nY:=J.nY;have v:=RL J oF h out (by omega) (f:=f) (i:=i) (by omega) k (Y.length-f) f (by omega);have step:∀ q,fV (gf F (dc a b X Y oF) (wJ a b X Y) (F i f) i) f (Y.length-f)=q->aa (wV [.l a,.l b,.l (bl X),.l (bl Y),.i oF,.l (e9 F X.length Y.length 0),.l out,.i (f:Int),.i (X.length:Int),.i (i:Int)])
    (fun o=>o=(none,[.l a,.l b,.l (bl X),.l (bl Y),.i oF,.l (e9 F X.length Y.length 0),.l (RI X Y out i q),.i (RJ f q:Int),.i (X.length:Int),.i ((i+1:Nat):Int)])):=fun q d=>by
   rw[d]at v;unfold wV;dsimp +instances only[gd,Aa,Ab,Ac,Ad,Ae,Af,Ag];refine aa.p ?_;refine aa.loop (v.to (by omega)) (by simp) ?_;rintro _ _ ⟨rfl,rfl⟩;dsimp +instances only[gd,Aa,Ab,Ac,Ad,Ae,Af,Ag];exact aa.p (aa.pos (by simp) (aa.some rfl))
  cases d:fV (gf F (dc a b X Y oF) (wJ a b X Y) (F i f) i) f (Y.length-f)with
  | none =>
   have:=I8 J oF h t (i+1) f out (by omega) k (by omega);rw[qu d];exact aX.next (aa.toEq (step none d)) this
  | some q =>
   obtain⟨y,I,_,_⟩:=r7 d;have:=I8 J oF h t (i+1) (q+1) (out++[eJ X Y (i,q)]) (by omega) (by omega) (by simp; omega);rw[nw d,dx];rw[gG]at this;exact aX.next (aa.toEq (step (some q) d)) this
theorem ahk(J:JC a b X Y)(oF:Int)(d:eZ F X.length Y.length (dc a b X Y oF) (wJ a b X Y)) :
  DT [.l a,.l b,.l (bl X),.l (bl Y),.i oF,.l []]=some [.l a,.l b,.l (bl X),.l (bl Y),.i oF,.l (e9 F X.length Y.length 0),.l ((bz F Y.length (dc a b X Y oF) (wJ a b X Y) X.length 0 0).map (eJ X Y))]:=by
 have nX:=J.nX;refine aa.toEq ?_;unfold DT;dsimp +instances only[gd,Aa,Ab,Ac,Ad,Ae,Af,Ag];refine aa.cE (ahj J oF d) ?_;dsimp +instances only[gd,Aa,Ab,Ac,Ad,Ae,Af,Ag];simp only[jW];have h:=I8 J oF d X.length 0 0 [] (by omega) (eR _) (by simp; omega);rw[ll]at h;refine aa.loop (h.to (by omega)) (by first|rfl|simp) ?_;rintro _ _ ⟨rfl,rfl⟩;dsimp +instances only[gd,Aa,Ab,Ac,Ad,Ae,Af,Ag];exact aa.pos (by simp) (aa.some rfl)
end
abbrev GK:=BY × Int
def eL(k:GK):LG:=[.s k.1,.i k.2]
theorem ahl(k:GK):bq [.str,.I] (eL k) (eL k)=true:=by
 show ((k.1.toList==k.1.toList)&&((k.2==k.2)&&true))=true
 simp
theorem ahm{k d:GK}(h:k≠d):bq [.str,.I] (eL k) (eL d)=false:=by
 show ((k.1.toList==d.1.toList)&&((k.2==d.2)&&true))=false
 cases h1:k.1.toList==d.1.toList with
 |false=>rfl
 | true =>
  cases g:k.2==d.2 with
  |false=>rfl
  |true=>exact(h (Prod.ext (Ga (eq_of_beq h1)) (eq_of_beq g))).elim
def lS(i:Nat)(e:GK × List Nat):LG:=[.l [eL e.1],.l [[.l (bl e.2)]],.i (i:Int),.t true]
def bN:Nat->List (GK × List Nat)->LL
 |_,[]=>[]
 |i,e::L=>lS i e::bN (i+1) L
theorem AO:∀(i:Nat) (L:List (GK × List Nat)),(bN i L).length=L.length
 |_,[]=>rfl
 |i,_::L=>by simp[bN,AO (i+1) L]
theorem xy:∀(i:Nat) (A B:List (GK × List Nat)),bN i (A++B)=bN i A++bN (i+A.length) B
 |i,[],B=>by simp[bN]
 | i,e::A,B=>by
  simp only[l7,bN,xy (i+1) A B,cd];rw[show i+1+A.length=i+(A.length+1) from by omega]
def ny(k:GK)(v:Nat):List (GK × List Nat)->List (GK × List Nat)
 | []=>[(k,[v])]
 |e::L=>if e.1=k then (e.1,e.2++[v])::L else e::ny k v L
theorem Ez(k:GK):∀ L:List (GK × List Nat),(∀ e∈L,e.1≠k)\/∃ A g B,L=A++(k,g)::B/\∀ e∈A,e.1≠k
 | []=>.inl fun e h=>by cases h
 | e::L=>by
  by_cases he:e.1=k
  ·exact .inr ⟨[],e.2,L,by rw[<-he]; rfl,fun e h=>by cases h⟩
  ·rcases Ez k L with h | ⟨A, g, B, rfl, h⟩
   ·exact .inl fun x d=>by
     rcases cq.1 d with rfl|d
     ·exact he
     ·exact h x d
   ·exact .inr ⟨e::A,g,B,rfl,fun x d=>by
     rcases cq.1 d with rfl|d
     ·exact he
     ·exact h x d⟩
theorem EA{k:GK}(v:Nat):∀{L:List (GK × List Nat)},(∀ e∈L,e.1≠k)->ny k v L=L++[(k,[v])]
 | [],_=>rfl
 | e::L,h=>by
  rw[ny,iN (h e cW),EA v fun x d=>h x (dj _ d)];rfl
theorem EB{k:GK}(v:Nat)(d:List Nat)(B:List (GK × List Nat)):∀{A:List (GK × List Nat)},(∀ e∈A,e.1≠k)->ny k v (A++(k,d)::B)=A++(k,d++[v])::B
 | [],_=>by rw[ll,ny,iP rfl,ll]
 | e::A,h=>by
  rw[l7,ny,iN (h e cW),EB v d B fun x g=>h x (dj _ g)];rfl
theorem I9(k:GK)(R:LL):∀(A:List (GK × List Nat)) (i j:Nat),(∀ e∈A,e.1≠k)->bU [.str,.I] (eL k) (bN i A++R) j=bU [.str,.I] (eL k) R (j+A.length)
 | [],_,_,_=>rfl
 | e::A,i,j,h=>by
  rw[bN,l7,bU,show (gi (lS i e) 0).rV=eL e.1 from rfl,ahm (Ne.symm (h e cW)),cF,I9 k R A (i+1) (j+1) fun x d=>h x (dj _ d),cd];congr 1;omega
theorem RM{k:GK}{L:List (GK × List Nat)}(h:∀ e∈L,e.1≠k)(i j:Nat):bU [.str,.I] (eL k) (bN i L) j=none:=by
 have:=I9 k [] L i j h;rw[dJ]at this;exact this
theorem RN{k:GK}{A:List (GK × List Nat)}(h:∀ e∈A,e.1≠k)(i:Nat)(r:LG)(d:(gi r 0).rV=eL k)(R:LL):bU [.str,.I] (eL k) (bN i A++r::R) 0=some (A.length,r):=by
 rw[I9 k (r::R) A i 0 h,bU,d,ahl,cT,cP]
theorem RO(R:LL):∀(A:List (GK × List Nat)) (i j c:Nat),i+A.length<=c->gO (c:Int) (bN i A++R) j=gO (c:Int) R (j+A.length)
 | [],_,_,_,_=>rfl
 | e::A,i,j,c,h=>by
  rw[cd]at h;have hb:(((gi (lS i e) 2).iV.toNat:Int)==(c:Int))=false:=by
   show (((i:Int).toNat:Int)==(c:Int))=false
   rw[a6,beq_eq_false_iff_ne];omega
  rw[bN,l7,gO,hb,cF,RO R A (i+1) (j+1) c (by omega),cd];congr 1;omega
theorem RP(A:List (GK × List Nat))(r:LG)(R:LL)(d:(gi r 2).iV=(A.length:Int)):gO (A.length:Int) (bN 0 A++r::R) 0=some (A.length,r):=by
 rw[RO (r::R) A 0 0 A.length (by omega),gO,d,a6,show ((A.length:Int)==(A.length:Int))=true from by simp,cT,cP]
theorem uq{α:Type}(p:List α)(x y:α)(q:List α)(n:Nat)(h:p.length=n):(p++x::q).set n y=p++y::q:=by
 subst h;rw[List.set_append_right _ _ (aQ _),l9,List.set_cons_zero]
def r_(L:List (GK × List Nat)):Nat:=(L.map fun e=>e.2.length).sum
theorem ahn{L:List (GK × List Nat)}{e:GK × List Nat}(h:e∈L):e.2.length<=r_ L:=by
 induction L with
 |nil=>cases h
 | cons x L d =>
  unfold r_ at d|-;rw[dx,Ug];rcases cq.1 h with rfl|h
  ·omega
  ·have := d h
   omega
theorem RQ(k:GK)(v:Nat):∀ L:List (GK × List Nat),r_ (ny k v L)=r_ L+1
 | []=>rfl
 | e::L=>by
  have d:=RQ k v L;rw[ny];split
  ·unfold r_
   simp;omega
  ·unfold r_ at d |-
   rw[dx,Ug,dx,Ug,d];omega
theorem aho(L:List (GK × List Nat))(k:GK)(v:Nat) :
  eT [.str,.I] (bN 0 L) (eL k)=true/\(fg [.str,.I] (bN 0 L) (eL k)).length<=r_ L /\
   vG (p_ [.str,.I] (bN 0 L) (eL k) L.length) (p9 [.str,.I] (bN 0 L) (eL k) L.length:Nat)=true /\
   vF (p_ [.str,.I] (bN 0 L) (eL k) L.length) (p9 [.str,.I] (bN 0 L) (eL k) L.length:Nat) (fg [.str,.I] (bN 0 L) (eL k)++[[.i (v:Int)]])=bN 0 (ny k v L) /\
   dG [.str,.I] (bN 0 L) (eL k) L.length=(ny k v L).length:=by
 rcases Ez k L with h1|⟨A,d,B,rfl,N⟩
 ·have g := RM h1 0 0
  have h:fg [.str,.I] (bN 0 L) (eL k)=[]:=by unfold fg; rw[g]
  have q:p_ [.str,.I] (bN 0 L) (eL k) L.length=bN 0 L++[[.l [eL k],.l [[.l []]],.i (L.length:Int),.t false]]:=by unfold p_; rw[g]
  have y:p9 [.str,.I] (bN 0 L) (eL k) L.length=L.length:=by unfold p9; rw[g]
  have M:=RP L [.l [eL k],.l [[.l []]],.i (L.length:Int),.t false] [] rfl;refine⟨by unfold eT; rw[g],by rw[h]; simp,?_,?_,?_⟩
  ·rw [q, y]
   unfold vG;rw[M];rfl
  ·rw [q, y, h, EA v h1, xy]
   unfold vF;rw[M];simp only[];rw[uq _ _ _ _ _ (AO 0 L),cP];rfl
  ·rw [EA v h1]
   unfold dG eH;rw[g];simp
 ·have g:bU [.str,.I] (eL k) (bN 0 (A++(k,d)::B)) 0=some (A.length,lS A.length (k,d)):=by
   rw[xy,bN,cP];exact RN N 0 (lS A.length (k,d)) rfl _
  have h:fg [.str,.I] (bN 0 (A++(k,d)::B)) (eL k)=bl d:=by unfold fg; rw[g]; rfl
  have q:p_ [.str,.I] (bN 0 (A++(k,d)::B)) (eL k) (A++(k,d)::B).length=bN 0 A++[.l [eL k],.l [[.l (bl d)]],.i (A.length:Int),.t false]::bN (A.length+1) B:=by
   unfold p_;rw[g,xy,bN,cP];exact uq _ _ _ _ _ (AO 0 A)
  have y:p9 [.str,.I] (bN 0 (A++(k,d)::B)) (eL k) (A++(k,d)::B).length=A.length:=by
   unfold p9;rw[g];show ((A.length:Int).toNat)=A.length
   exact a6 _
  have M:=RP A [.l [eL k],.l [[.l (bl d)]],.i (A.length:Int),.t false] (bN (A.length+1) B) rfl;refine⟨by unfold eT; rw[g]; rfl,by rw[h,jW]; exact ahn (e:=(k,d)) (by simp),?_,?_,?_⟩
  ·rw [q, y]
   unfold vG;rw[M];rfl
  ·rw [q, y, h, EB v d B N, xy, bN, cP]
   unfold vF;rw[M];simp only[];rw[uq _ _ _ _ _ (AO 0 A)];have O:bl d++[[G.i (v:Int)]]=bl (d++[v]):=by unfold bl; rw[jM]; rfl
   rw[O];rfl
  ·rw [EB v d B N]
   unfold dG eH;rw[g];simp
def bR(r:LG):GK:=(jU r,mE r)
def gq(l:LL)(s:BY)(i:Nat):Bool:=(I3 (l.getD i [])).toList==s.toList
def qw(l:LL)(s:BY)(L:List (GK × List Nat))(i:Nat):List (GK × List Nat):=bif gq l s i then ny (bR (l.getD i [])) i L else L
def pz(l:LL)(s:BY)(n:Nat):List (GK × List Nat):=(fj n).foldl (qw l s) []
theorem RS(l:LL)(s:BY)(n:Nat):pz l s (n+1)=qw l s (pz l s n) n:=by
 unfold pz;rw[Ua,akD];rfl
def dH(l:LL)(s:BY)(k:GK)(n:Nat):List Nat:=(fj n).filter fun i=>gq l s i&&decide (bR (l.getD i [])=k)
theorem ur(l:LL)(s:BY)(k:GK)(n:Nat):dH l s k (n+1)=dH l s k n++if gq l s n=true/\bR (l.getD n [])=k then [n] else []:=by
 unfold dH;rw[Ua,List.filter_append];congr 1;by_cases h1:gq l s n=true
 ·by_cases d : bR (l.getD n []) = k
  ·rw[iP ⟨h1,d⟩,Fm,iP (by rw[h1,j9,dT]; exact d),Uh]
  ·rw[iN fun e=>d e.2,Fm,iN (by rw[h1,j9,dT]; exact d),Uh]
 ·rw[iN fun e=>h1 e.1,Fm,iN (by rw[aL]; exact fun e=>h1 e.1),Uh]
structure GI (l:LL) (s:BY) (n:Nat) (L:List (GK × List Nat)):Prop where
 I_:r_ L<=n
 len:L.length<=n
 nd:(L.map (·.1)).Nodup
 lT:∀ e∈L,e.2=dH l s e.1 n/\e.2≠[]
 all:∀ k,dH l s k n≠[]->∃ e∈L,e.1=k
theorem GI.zero(l:LL)(s:BY):GI l s 0 []:=⟨aQ _,aQ _,by simp,by simp,fun k h=>(h rfl).elim⟩
theorem GI.step{l:LL}{s:BY}{n:Nat}{L:List (GK × List Nat)}(h:GI l s n L):GI l s (n+1) (qw l s L n):=by
 unfold qw;cases M:gq l s n with
 | false =>
  have e:∀ k,dH l s k (n+1)=dH l s k n:=fun k=>by rw[ur,iN (by rw[M]; simp),dJ]
  exact⟨Ka h.I_,Ka h.len,h.nd,fun x d=>by rw[e]; exact h.lT x d,fun k g=>by rw[e]at g; exact h.all k g⟩
 | true =>
  rw[cT];have N:dH l s (bR (l.getD n [])) (n+1)=dH l s (bR (l.getD n [])) n++[n]:=by rw[ur,iP ⟨M,rfl⟩]
  have v:∀ k,bR (l.getD n [])≠k->dH l s k (n+1)=dH l s k n:=fun k g=>by rw[ur,iN (fun e=>g e.2),dJ]
  have O:=RQ (bR (l.getD n [])) n L;have h3:=h.I_;have W:=h.len;rcases Ez (bR (l.getD n [])) L with h1|⟨A,U,B,rfl,V⟩
  ·rw [EA n h1] at O |-
   refine⟨by omega,by simp; omega,?_,fun x d=>?_,fun k g=>?_⟩
   ·rw [jM, Kb]
    refine⟨h.nd,by simp,fun a ha b hb=>?_⟩;obtain⟨e,he,rfl⟩:=dw.1 ha;simp at hb;subst hb;exact h1 e he
   ·rcases c_.1 d with d | d
    ·rw [v x.1 (Ne.symm (h1 x d))]
     exact h.lT x d
    ·have d := l_.1 d
     subst d;show [n]=dH l s (bR (l.getD n [])) (n+1)/\[n]≠[]
     rw[N];have:dH l s (bR (l.getD n [])) n=[]:=by
      cases hs:dH l s (bR (l.getD n [])) n with
      |nil=>rfl
      | cons y ys =>
       obtain⟨e,he,g⟩:=h.all (bR (l.getD n [])) (by rw[hs]; simp);exact(h1 e he g).elim
     rw[this];simp
   ·by_cases e : bR (l.getD n []) = k
    ·exact⟨_,pN _ cW,e⟩
    ·rw [v k e] at g
     obtain⟨x,d,q⟩:=h.all k g;exact⟨x,nO _ d,q⟩
  ·rw [EB n U B V] at O |-
   have I:=h.nd;rw[jM,dx]at I;have hB:∀ e∈B,e.1≠bR (l.getD n []):=fun e he g=>by
    have:=(Kb.1 I).2.1;rw[pL]at this;exact this.1 (g▸dw.2 ⟨e,he,rfl⟩)
   refine⟨by omega,by simp at W|-; omega,?_,fun x d=>?_,fun k g=>?_⟩
   ·rw [jM, dx]
    exact I
   ·rcases c_.1 d with d | d
    ·rw [v x.1 (Ne.symm (V x d))]
     exact h.lT x (nO _ d)
    ·rcases cq.1 d with rfl | d
     ·have := h.lT (bR (l.getD n []), U) (by simp)
      simp only at this|-;rw[N,<-this.1];simp
     ·rw [v x.1 (Ne.symm (hB x d))]
      exact h.lT x (pN _ (dj _ d))
   ·by_cases e : bR (l.getD n []) = k
    ·exact⟨_,pN _ cW,e⟩
    ·rw [v k e] at g
     obtain⟨x,d,q⟩:=h.all k g;rcases c_.1 d with d|d
     ·exact⟨x,nO _ d,q⟩
     ·rcases cq.1 d with rfl | d
      ·exact(e q).elim
      ·exact⟨x,pN _ (dj _ d),q⟩
theorem GI.to(l:LL)(s:BY):∀ n,GI l s n (pz l s n)
 |0=>GI.zero l s
 | n+1=>by
  rw[RS];exact(GI.to l s n).step
def gE(l:LL)(s:BY):List (GK × List Nat):=pz l s l.length
theorem ahp(l:LL)(U:l.length<=100000)(s:BY) :
  gQ wR [.l [],.i 0,.s s,.l l,.i (l.length:Int),.i 0] fun c g=>c=0/\g=[.l (bN 0 (gE l s)),.i ((gE l s).length:Int)]:=by
 have r:=pd (st:=wR) (σ:=List (GK × List Nat)) (fun L i=>[.l (bN 0 L),.i (L.length:Int),.s s,.l l,.i (l.length:Int),.i (i:Int)]) l (fun L=>(0,[.l (bN 0 L),.i (L.length:Int)]))
  (fun L i=>L=pz l s i) [] (by omega) rfl
  (fun L i z d hi q hm V => by
   have v:=GI.to l s i;rw[<-d]at v;have W:=v.I_;have k:qw l s L i=pz l s (i+1):=by rw[RS,d]
   obtain⟨y,a2,I,M,N⟩:=aho L (bR z) i;unfold wR;dsimp +instances only[gd,Aa,Ab,Ac,Ad,Ae,Af,Ag];simp only[a6,q];refine aa.p (aa.p ?_);have O:([.s (gi z 2).sV,.i (gi z 1).iV]:LG)=eL (bR z):=rfl;rw[O,M,N];refine aa.test (fun h=>?_) fun h=>?_
   ·have e:qw l s L i=ny (bR z) i L:=by
     unfold qw gq;rw[q,show ((I3 z).toList==s.toList)=true from h,cT]
    rw[e]at k;exact aa.pos y (aa.pos (by simp; omega) (aa.pos (by rw[I]; simp) (aa.p (aa.some ⟨_,rfl,k⟩))))
   ·have e:qw l s L i=L:=by
     unfold qw gq;rw[q,show ((I3 z).toList==s.toList)=false from h,cF]
    rw[e]at k;exact aa.p (aa.some ⟨L,rfl,k⟩))
  (fun L d => by
   unfold wR;dsimp +instances only[gd,Aa,Ab,Ac,Ad,Ae,Af,Ag];simp only[a6];exact aa.n (aa.some rfl))
 refine r.mono ?_;rintro c g ⟨L,d,rfl,rfl⟩;exact⟨rfl,by rw[d]; rfl⟩
theorem RT:∀(i:Nat) (L:List (GK × List Nat)),rI (bN i L)=true
 |_,[]=>rfl
 | i,e::L=>by
  have:=RT (i+1) L;unfold rI at this|-;rw[bN,nK,this];rfl
theorem RU(l:LL)(d:l.length<=100000)(s:BY):zX [.l l,.s s]=some [.l (bN 0 (gE l s)),.i ((gE l s).length:Int)]:=by
 refine aa.toEq ?_;unfold zX;dsimp +instances only[gd,Aa,Ab,Ac,Ad,Ae,Af,Ag];refine aa.loop (ahp l d s) (by first|rfl|simp) ?_;rintro _ _ ⟨rfl,rfl⟩;dsimp +instances only[gd,Aa,Ab,Ac,Ad,Ae,Af,Ag];simp only[a6];exact aa.pos (by rw[RT]; rfl) (aa.some rfl)
theorem ahq(l:LL)(s:BY)(k:GK):dn [.str,.I] (bN 0 (gE l s)) (eL k) [.l []]=[.l (bl (dH l s k l.length))]:=by
 have h:=GI.to l s l.length;show dn [.str,.I] (bN 0 (pz l s l.length)) (eL k) [.l []]=_
 rcases Ez k (pz l s l.length)with h1|⟨A,d,B,he,q⟩
 ·have:dH l s k l.length=[]:=by
   cases g:dH l s k l.length with
   |nil=>rfl
   | cons y N =>
    obtain⟨e,he,v⟩:=h.all k (by rw[g]; simp);exact(h1 e he v).elim
  unfold dn;rw[RM h1,this];rfl
 ·have M:bU [.str,.I] (eL k) (bN 0 (pz l s l.length)) 0=some (A.length,lS A.length (k,d)):=by
   rw[he,xy,bN,cP];exact RN q 0 (lS A.length (k,d)) rfl _
  have g:=h.lT (k,d) (by rw[he]; simp);unfold dn;rw[M];show [G.l (bl d)]=_
  rw[show d=dH l s k l.length from g.1]
def AP(A B:LL)(oF:Int)(X Y:List Nat):List (Nat × Nat):=bz (lR X.length Y.length (dc A B X Y oF) (wJ A B X Y)) Y.length (dc A B X Y oF) (wJ A B X Y) X.length 0 0
def db(A:LL)(d:BY)(k:GK):List Nat:=dH A d k A.length
def gh(A B:LL)(ac d:BY)(oF:Int)(k:GK):LL:=(AP A B oF (db A d k) (db B ac k)).map (eJ (db A d k) (db B ac k))
def gr(A B:LL)(ac d:BY)(oF:Int):LL:=((gE A d).map fun e=>gh A B ac d oF e.1).flatten
def lU(r s:LG):Int:=fH (gi r 0).iV (gi s 0).iV
def jK(A B:LL)(ac d:BY)(oF:Int):LL:=eI (cN lU) (gr A B ac d oF)
theorem oC{A:LL}{s:BY}{k:GK}{i:Nat}:i∈db A s k↔i<A.length/\gq A s i=true/\bR (A.getD i [])=k:=by
 unfold db dH;rw[sQ,gH,aL,dT]
theorem RV(A:LL)(s:BY)(k:GK):(db A s k).length<=A.length:=by
 unfold db dH;have:=akE (fun i=>gq A s i&&decide (bR (A.getD i [])=k)) (fj A.length)
 rwa [oI]at this
theorem EC(A:LL)(s:BY)(k:GK):(db A s k).Pairwise (·<·):=(List.pairwise_lt_range).filter _
structure iI (A B:LL):Prop where
 ha:∀ z∈A,eU z
 hb:∀ z∈B,eU z
 na:A.length<=1000
 nb:B.length<=1000
theorem iI.flip{A B:LL}(h:iI A B):iI B A:=⟨h.hb,h.ha,h.nb,h.na⟩
theorem iI.jc{A B:LL}(h:iI A B)(ac d:BY)(k:GK):JC A B (db A d k) (db B ac k):=by
 have h1:=h.na;have g:=h.nb;have q:=RV A d k;have v:=RV B ac k;exact⟨h.ha,h.hb,fun i hi=>(oC.1 hi).1,fun i hi=>(oC.1 hi).1,by omega,by omega,by omega,by omega⟩
theorem ED{A B:LL}{oF:Int}{X Y:List Nat}{x:Nat × Nat}(h:x∈AP A B oF X Y):x.1<X.length/\x.2<Y.length/\dc A B X Y oF x.1 x.2=true:=by
 obtain⟨_,b,_,d,e⟩:=qv _ _ _ x h;exact⟨by omega,d,e⟩
theorem RW(A B:LL)(oF:Int)(X Y:List Nat):(AP A B oF X Y).length<=X.length:=by
 have key:∀(F:Nat->Nat->Int) (m:Nat) (ok:Nat->Nat->Bool) (w:Nat->Nat->Int) (t i f:Nat),(bz F m ok w t i f).length<=t:=by
  intro F m ok w t
  induction t with
  |zero=>intro i f; exact aQ _
  | succ t d =>
   intro i f;rw[bz];split
   ·rw [cd]
    exact Bv (d _ _)
   ·exact Ka (d _ _)
 exact key _ _ _ _ _ _ _
def AQ(r:LG):Prop:=∃ i k:Nat,r=[.i (i:Int),.i (k:Int)]/\i<=100000/\k<=100000
theorem ahr:tZ wW AQ lU:=by
 rintro _ _ ⟨i,k,rfl,h1,g⟩ ⟨d,h,rfl,q,v⟩;refine⟨(i:Int)-(d:Int),?_,?_⟩
 ·refine aa.toEq ?_
  unfold wW;dsimp +instances only[gd,Aa,Ab,Ac,Ad,Ae,Af,Ag];exact aa.pos (c6.2 ⟨by omega,by omega⟩) (aa.some rfl)
 ·show (i : Int) - (d : Int) < 0 ↔ fH (i : Int) (d : Int) < 0
  rw[um];omega
theorem AR:gP (cN lU) (fun _=>True):=aha (fun a b=>RD.flip _ _) fun a b d h1 g=>RD.le _ _ _ h1 g
theorem I'{A B:LL}(h:iI A B){ac d:BY}{oF:Int}{k:GK}{r:LG}(g:r∈gh A B ac d oF k) :
  ∃ i j:Nat,r=[.i (i:Int),.i (j:Int)]/\i∈db A d k/\j∈db B ac k/\jV oF (A.getD i []) (B.getD j [])=true:=by
 obtain⟨x,q,rfl⟩:=dw.1 g;obtain⟨a,b,c⟩:=ED q;exact⟨_,_,rfl,jX a,jX b,c⟩
theorem EE{A B:LL}(h:iI A B){ac g:BY}{oF:Int}{r:LG}(d:r∈gr A B ac g oF) :
  ∃(k:GK) (i j:Nat),r=[.i (i:Int),.i (j:Int)]/\i∈db A g k/\j∈db B ac k/\jV oF (A.getD i []) (B.getD j [])=true:=by
 obtain⟨l,q,d⟩:=JR.1 d;obtain⟨e,_,rfl⟩:=dw.1 q;obtain⟨i,j,h1⟩:=I' h d;exact⟨_,i,j,h1⟩
theorem xz{A B:LL}(h:iI A B){ac d:BY}{oF:Int}:∀ r∈gr A B ac d oF,AQ r:=fun r g=>by
 obtain⟨k,i,j,rfl,h1,q,_⟩:=EE h g;have:=(oC.1 h1).1;have:=(oC.1 q).1;have:=h.na;have:=h.nb;exact⟨i,j,rfl,by omega,by omega⟩
theorem EF{A B:LL}(h:iI A B)(ac d:BY)(oF:Int):(gr A B ac d oF).Pairwise fun a b=>(gi a 0).iV≠(gi b 0).iV:=by
 have V:=GI.to A d A.length;unfold gr;rw[List.pairwise_flatten];refine⟨fun l W=>?_,?_⟩
 ·obtain ⟨e, _, rfl⟩ := dw.1 W
  unfold gh;rw[xZ];refine(I2 _ _ _).imp_of_mem fun {x y} g k N he=>?_;obtain⟨q,_,_⟩:=ED (A:=A) (B:=B) (oF:=oF) g;obtain⟨v,_,_⟩:=ED (A:=A) (B:=B) (oF:=oF) k;have he:(((db A d e.1).getD x.1 0:Nat):Int)=(((db A d e.1).getD y.1 0:Nat):Int):=he;have hr:=J4.1 (EC A d e.1) x.1 y.1 q v N.1;rw[cu,bY q,cu,bY v]at he;simp only[oJ]at he;omega
 ·rw [xZ]
  have O:(gE A d).Pairwise fun e I=>e.1≠I.1:=by
   have:=V.nd;unfold Kc at this
   rwa [xZ]at this
  refine O.imp fun {e I} U x g y k he=>?_;obtain⟨i,j,rfl,h1,_⟩:=I' h g;obtain⟨M,j',rfl,h2,_⟩:=I' h k;have he:(i:Int)=(M:Int):=he;have he:i=M:=by omega
  subst he;exact U ((oC.1 h1).2.2.symm.trans (oC.1 h2).2.2)
theorem EG{A B:LL}(h:iI A B)(ac d:BY)(oF:Int):∀ a∈gr A B ac d oF,∀ b∈gr A B ac d oF,cN lU a b=false->cN lU b a=false->a=b:=by
 intro a ha b hb h1 k;unfold cN lU at h1 k;rw[cB,dF,um]at h1 k;have he:(gi a 0).iV=(gi b 0).iV:=by omega
 obtain⟨i,hi,rfl⟩:=pG ha;obtain⟨j,q,rfl⟩:=pG hb;have v:=J4.1 (EF h ac d oF);rcases J_ i j with g|g|g
 ·exact(v i j hi q g he).elim
 ·subst g; rfl
 ·exact(v j i q hi g he.symm).elim
theorem ahs{A B:LL}(h:iI A B)(ac d:BY)(oF:Int){out:LL}(g:out.Perm (gr A B ac d oF))(k:out.length<100000):DU [.l out]=some [.l (jK A B ac d oF)]:=by
 have h1:=OC (C:=wW) (Q:=AQ) ahr (AR.mono fun _ _=>trivial) out (fun y q=>xz h y (g.mem_iff.1 q)) k fun a ha b hb=>EG h ac d oF a (g.mem_iff.1 ha) b (g.mem_iff.1 hb);unfold DU;rw[h1];have e:eI (cN lU) (gr A B ac d oF)=eI (cN lU) out:=Oz AR g.symm (fun _ _=>trivial) (EG h ac d oF);rw[<-e];rfl
def EH(r:LG):GK:=((gi (gi r 0).rV 0).sV,(gi (gi r 0).rV 1).iV)
theorem RX:∀(i:Nat) (L:List (GK × List Nat)) (r:LG),r∈bN i L->∃(j:Nat) (e:GK × List Nat),e∈L/\r=lS j e
 |_,[],_,h=>by cases h
 | i,e::L,r,h=>by
  rcases cq.1 h with rfl|h
  ·exact⟨i,e,cW,rfl⟩
  ·obtain ⟨j, d, h1, g⟩ := RX (i + 1) L r h
   exact⟨j,d,dj _ h1,g⟩
theorem RY{β:Type}(f:GK->β):∀(i:Nat) (L:List (GK × List Nat)),(bN i L).map (fun r=>f (EH r))=L.map fun e=>f e.1
 |_,[]=>rfl
 | i,e::L=>by
  simp only[bN,dx,RY f (i+1) L];rfl
theorem RZ:∀(i:Nat) (L:List (GK × List Nat)),(bN i L).map fy=(fj L.length).map (i+·)
 |_,[]=>rfl
 | i,e::L=>by
  simp only[bN,dx,RZ (i+1) L,cd,akF,nI];rw[show fy (lS i e)=i from by simp[fy,lS,gi,G.iV]];congr 1;refine mL fun x _=>?_;simp only[Fk];omega
theorem Ja:∀ l:List Nat,l.Nodup->nodupB l=true
 | [],_=>rfl
 | a::l,d=>by
  obtain⟨h1,g⟩:=pL.1 d;simp only[nodupB,Ja l g,gW,Bool.not_eq_true'];cases h:l.any (ar a)with
  |false=>rfl
  | true =>
   obtain⟨x,k,e⟩:=lq.1 h;rw[Nat.eq_of_beq_eq_true e]at h1;exact(h1 k).elim
theorem aht(L:List (GK × List Nat)):ql (bN 0 L) L.length=true:=by
 have hb:(bN 0 L).map fy=fj L.length:=by
  rw[RZ];simp
 unfold ql;rw[hb,aL];refine⟨Ja _ akG,?_⟩;rw[dK];intro r d;have:fy r∈(bN 0 L).map fy:=dw.2 ⟨r,d,rfl⟩;rw[hb,gH]at this;simpa using this
theorem R0{st:LG->LG->Option LG}{cJ:LG->Nat}{r:LG}{q:LL}{d g:LG}(h:st r d=some g)(ha:cJ g=cJ d):f_ st cJ (r::q) d=f_ st cJ q g:=by
 simp only[f_,h];rw[ha,show ar (cJ d) (cJ d)=true from iM _,cT]
theorem R4{A B:LL}(h:iI A B)(ac g:BY)(oF:Int)(k cJ:Nat):∀(q out:LL),(∀ r∈q,r∈bN 0 (gE A g))->out.length+1000*q.length<=1000000 ->
  f_ DV (fun d=>(gi d 8).iV.toNat) q [.s ac,.l A,.s g,.l B,.l (bN 0 (gE B ac)),.i (k:Int),.l out,.i oF,.i (cJ:Int)] =
   some [.s ac,.l A,.s g,.l B,.l (bN 0 (gE B ac)),.i (k:Int),.l (out++(q.map fun r=>gh A B ac g oF (EH r)).flatten),.i oF,.i (cJ:Int)]
 | [],out,_,_=>by simp[f_]
 | r::q,out,v,y=>by
  simp only[cd]at y;obtain⟨j,e,he,rfl⟩:=RX 0 _ r (v r cW);have M:=(GI.to A g A.length).lT e he;have N:EH (lS j e)=e.1:=rfl;have hX:e.2=db A g e.1:=M.1;have J:=h.jc ac g e.1;have W:(gh A B ac g oF e.1).length<=1000:=by
   unfold gh;rw[c9];exact kJ (RW _ _ _ _ _) J.nX
  have st:DV (lS j e) [.s ac,.l A,.s g,.l B,.l (bN 0 (gE B ac)),.i (k:Int),.l out,.i oF,.i (cJ:Int)]=some [.s ac,.l A,.s g,.l B,.l (bN 0 (gE B ac)),.i (k:Int),.l (out++gh A B ac g oF e.1),.i oF,.i (cJ:Int)]:=by
   have O:(gi (gi (lS j e) 1).rV 0).rZ=bl e.2:=rfl;have U:a8 [.str,.I] (gi (lS j e) 0).rV=eL e.1:=rfl;refine aa.toEq ?_;unfold DV;rw[O,U];dsimp +instances only[gd,Aa,Ab,Ac,Ad,Ae,Af,Ag];rw[ahq,hX];dsimp +instances only[gd,Aa,Ab,Ac,Ad,Ae,Af,Ag];refine aa.cE (ahk J oF (Ey _ _ _ _)) ?_;dsimp +instances only[gd,Aa,Ab,Ac,Ad,Ae,Af,Ag];simp only[a6];exact aa.pos (by
    show ((ar out.length out.length)&&decide (out.length+(gh A B ac g oF e.1).length<=1048576))=true
    rw[iM,j9,dT];omega) (aa.pos (by rw[iM]; rfl) (aa.some rfl))
  rw[R0 st rfl,R4 h ac g oF k cJ q _ (fun x V=>v x (dj _ V)) (by rw[fX]; omega)];rw[dx,pI,N,gG]
theorem AS:∀(n:Nat) (l:List Nat),l.Nodup->(∀ x∈l,x<n)->l.length<=n
 | 0,l,_,h=>by
  cases l with
  |nil=>exact aQ _
  |cons x l=>exact absurd (h x cW) (by omega)
 | n+1,l,g,h=>by
  by_cases hm:n∈l
  ·have h1:=AS n (l.erase n) (g.erase n) fun x d=>by
    have k:=h x (List.mem_of_mem_erase d);have q:x≠n:=fun e=>by
     subst e;exact(List.Nodup.not_mem_erase g) d
    omega
   rw[List.length_erase_of_mem hm]at h1;omega
  ·have:=AS n l g fun x d=>by
    have k:=h x d;have q:x≠n:=fun e=>hm (e▸d);omega
   omega
theorem ahu{A B:LL}(h:iI A B)(ac d:BY)(oF:Int) :
  IB [.s ac,.l A,.s d,.l B,.l (bN 0 (gE A d)),.i ((gE A d).length:Int),.l (bN 0 (gE B ac)),.i ((gE B ac).length:Int),.l [],.i oF]=some (some 0,[.l (jK A B ac d oF)]):=by
 have V:=GI.to A d A.length;have W:=V.len;have na:=h.na;show qm DW DX (bN 0 (gE A d)) (((gE A d).length:Int).toNat) _=_
 rw[a6];refine OA (aht _) fun b p q=>⟨rfl,?_⟩
 have hpn:p.length<=1000:=by
  have:=q.length_eq;rw[AO]at this;have:(gE A d).length<=A.length:=W;omega
 have I:((p.map fun r=>gh A B ac d oF (EH r)).flatten).Perm (gr A B ac d oF):=by
  unfold gr;rw[<-RY (fun k=>gh A B ac d oF k) 0 (gE A d)];exact(q.map _).flatten
 have hall:(gr A B ac d oF).length<=1000:=by
  have O:((gr A B ac d oF).map fun r=>(gi r 0).iV.toNat).Nodup:=by
   unfold Kc;rw[xZ];refine(EF h ac d oF).imp_of_mem fun {x y} g hy U he=>U ?_;obtain⟨i,k,rfl,_⟩:=xz h x g;obtain⟨M,k',rfl,_⟩:=xz h y hy;have he:((i:Int)).toNat=((M:Int)).toNat:=he;show (i:Int)=(M:Int)
   omega
  have N:((gr A B ac d oF).map fun r=>(gi r 0).iV.toNat) ⊆ fj A.length:=by
   intro x g;obtain⟨r,v,rfl⟩:=dw.1 g;obtain⟨k,i,j,rfl,h1,_⟩:=EE h v;rw[gH];exact(oC.1 h1).1
  have:=AS A.length _ O fun x g=>gH.1 (N g);rw[c9]at this;omega
 refine⟨_,R4 h ac d oF (gE B ac).length b p [] (fun r v=>q.mem_iff.1 v) (by simp; omega),?_⟩;rw[ll];refine aa.toEq ?_;unfold DX;dsimp +instances only[gd,Aa,Ab,Ac,Ad,Ae,Af,Ag];have hl:=I.length_eq;refine aa.pc (aa.eq (ahs h ac d oF I (by omega))) (by simp) ?_;rintro _ rfl;dsimp +instances only[gd,Aa,Ab,Ac,Ad,Ae,Af,Ag];refine aa.pos ?_ (aa.some rfl);rw[hl];unfold jK;rw[Dj,iM];rfl
theorem ahv{A B:LL}(h:iI A B)(ac d:BY)(oF:Int):DY [.l [[.s ac,.l A]],.l [[.s d,.l B]],.i oF]=some [.l (jK A B ac d oF)]:=by
 have na:=h.na;have nb:=h.nb;refine aa.toEq ?_;unfold DY;dsimp +instances only[gd,Aa,Ab,Ac,Ad,Ae,Af,Ag];refine aa.cE (RU A (by omega) d) ?_;dsimp +instances only[gd,Aa,Ab,Ac,Ad,Ae,Af,Ag];refine aa.cE (RU B (by omega) ac) ?_;dsimp +instances only[gd,Aa,Ab,Ac,Ad,Ae,Af,Ag];simp only[a6];refine aa.tail (P:=fun u g=>u=0/\g=[.l (jK A B ac d oF)]) ⟨_,ahu h ac d oF,0,rfl,rfl,rfl⟩ (by first|rfl|simp) ?_;rintro _ _ ⟨rfl,rfl⟩;dsimp +instances only[gd,Aa,Ab,Ac,Ad,Ae,Af,Ag];exact aa.pos (by simp) (aa.some rfl)
theorem R5{oF:Int}{p q:LG}:jV oF p q=true↔jU p=jU q/\mE p=mE q/\ju p q<=oF:=by
 unfold jV;rw[k9,aL,aL,eY,dT,dT,beq_iff_eq]
theorem ahw{A B:LL}{ac d:BY}{oF:Int}{r:LG}:r∈gr A B ac d oF↔∃ k,r∈gh A B ac d oF k:=by
 constructor
 ·intro h
  obtain⟨l,q,v⟩:=JR.1 h;obtain⟨e,_,rfl⟩:=dw.1 q;exact⟨_,v⟩
 ·rintro ⟨k, h⟩
  have h':=h;unfold gh at h';obtain⟨x,y,_⟩:=dw.1 h';have h1:=(ED y).1;obtain⟨e,he,rfl⟩:=(GI.to A d A.length).all k (by
   intro g;have g:db A d k=[]:=g;rw[g]at h1;simp at h1)
  exact JR.2 ⟨_,dw.2 ⟨e,he,rfl⟩,h⟩
theorem Jb(A B:LL)(ac d:BY)(oF:Int):(jK A B ac d oF).Perm (gr A B ac d oF):=wA (lt:=cN lU) _
theorem R6{A B:LL}(h:iI A B)(ac d:BY)(oF:Int):(jK A B ac d oF).Pairwise fun a b=>(gi a 0).iV<(gi b 0).iV:=by
 have h1:=Dq (lt:=cN lU) AR (l:=gr A B ac d oF) (fun _ _=>trivial);have q:(jK A B ac d oF).Pairwise fun a b=>(gi a 0).iV≠(gi b 0).iV:=(EF h ac d oF).perm (Jb A B ac d oF).symm (fun k e=>k e.symm);refine h1.imp₂ (fun {a b} g v=>?_) q;unfold cN lU at g;rw[cB,dF,um]at g;omega
theorem sc{A B:LL}(h:iI A B){ac d:BY}{oF:Int}{r:LG}(v:r∈jK A B ac d oF) :
  ∃ i j:Nat,r=[.i (i:Int),.i (j:Int)]/\i<A.length/\j<B.length/\gq A d i=true/\gq B ac j=true/\jV oF (A.getD i []) (B.getD j [])=true:=by
 obtain⟨k,i,j,rfl,h1,y,I⟩:=EE h ((Jb A B ac d oF).mem_iff.1 v);have g:=oC.1 h1;have q:=oC.1 y;exact⟨i,j,rfl,g.1,q.1,g.2.1,q.2.1,I⟩
theorem R7{A B:LL}(h:iI A B)(ac d:BY)(oF:Int):(jK A B ac d oF).length<=A.length:=by
 have k:((jK A B ac d oF).map fun r=>(gi r 0).iV.toNat).Nodup:=by
  unfold Kc;rw[xZ];refine((R6 h ac d oF).imp_of_mem ?_);intro a b ha hb q e;obtain⟨i,j,rfl,_⟩:=sc h ha;obtain⟨g,M,rfl,_⟩:=sc h hb;have N:((i:Int)).toNat=((g:Int)).toNat:=e;have v:i=g:=by omega
  subst v;exact absurd q (Int.lt_irrefl _)
 have:=AS A.length _ k fun x y=>by
  obtain⟨r,I,rfl⟩:=dw.1 y;obtain⟨i,j,rfl,hi,_⟩:=sc h I;show ((i:Int).toNat)<_
  rwa [a6]
 simpa using this
theorem sd(ks:List Kd)(r:LG)(rs:LL)(key:LG):fg ks (r::rs) key=bif bq ks key (gi r 0).rV then jR r else fg ks rs key:=by
 unfold fg;simp only[bU];cases bq ks key (gi r 0).rV with
 |true=>rfl
 | false =>
  simp only[cF];rw[qo ks key rs (0+1)];cases bU ks key rs 0<;>rfl
theorem se(ks:List Kd)(r:LG)(rs:LL)(key:LG):eT ks (r::rs) key=bif bq ks key (gi r 0).rV then (gi r 3).bV else eT ks rs key:=by
 unfold eT;simp only[bU];cases bq ks key (gi r 0).rV with
 |true=>rfl
 | false =>
  simp only[cF];rw[qo ks key rs (0+1)];cases bU ks key rs 0<;>rfl
theorem R8(ks:List Kd)(r:LG)(rs:LL)(key:LG):gn ks (r::rs) key=bif bq ks key (gi r 0).rV then [gi r 0,gi r 1,gi r 2,.t false]::rs else r::gn ks rs key:=by
 unfold gn;simp only[bU];cases bq ks key (gi r 0).rV with
 |true=>rfl
 | false =>
  simp only[cF];rw[qo ks key rs (0+1)];cases bU ks key rs 0<;>rfl
theorem R9(ks:List Kd)(r:LG)(rs:LL)(key:LG)(v:LL)(c:Nat):od ks (r::rs) key v c=bif bq ks key (gi r 0).rV then [.l [key],.l [[.l v]],.i (gi r 2).iV,.t true]::rs else r::od ks rs key v c:=by
 unfold od;simp only[bU];cases bq ks key (gi r 0).rV with
 |true=>rfl
 | false =>
  simp only[cF];rw[qo ks key rs (0+1)];cases bU ks key rs 0<;>rfl
theorem Jc(ks:List Kd)(k key:LG):∀ rZ:LL,fg ks (gn ks rZ k) key=fg ks rZ key
 | []=>rfl
 | r::rs=>by
  rw[R8];cases h:bq ks k (gi r 0).rV with
  | true =>
   rw[cT,sd,sd];rfl
  |false=>rw[cF,sd,sd,Jc ks k key rs]
theorem Jd(ks:List Kd){k key:LG}(d:bq ks key k=false):∀ rZ:LL,eT ks (gn ks rZ k) key=eT ks rZ key
 | []=>rfl
 | r::rs=>by
  rw[R8];cases h:bq ks k (gi r 0).rV with
  | true =>
   have e:bq ks key (gi r 0).rV=false:=by rw[<-wv h]; exact d
   rw[cT,se,se,e];show (bif bq ks key (gi r 0).rV then _ else _)=_
   rw[e];rfl
  |false=>rw[cF,se,se,Jd ks d rs]
theorem R_(ks:List Kd)(k key:LG)(v:LL)(c:Nat):∀ rZ:LL,fg ks (od ks rZ k v c) key=bif bq ks key k then v else fg ks rZ key
 | []=>by
  show fg ks [[.l [k],.l [[.l v]],.i (c:Int),.t true]] key=_
  rw[sd];rfl
 | r::rs=>by
  rw[R9,sd];cases h:bq ks k (gi r 0).rV with
  | true =>
   rw[cT,sd];have e:bq ks key (gi r 0).rV=bq ks key k:=(wv h).symm;rw[e];show (bif bq ks key k then _ else _)=_
   cases bq ks key k<;>rfl
  | false =>
   rw[cF,sd,R_ ks k key v c rs];cases d:bq ks key (gi r 0).rV with
   |false=>rfl
   | true =>
    cases g:bq ks key k with
    |false=>rfl
    | true =>
     have:bq ks k (gi r 0).rV=true:=wu (by rw[qn]; exact g) d;rw[this]at h;cases h
theorem R'(ks:List Kd)(k key:LG)(v:LL)(c:Nat):∀ rZ:LL,eT ks (od ks rZ k v c) key=bif bq ks key k then true else eT ks rZ key
 | []=>by
  show eT ks [[.l [k],.l [[.l v]],.i (c:Int),.t true]] key=_
  rw[se];rfl
 | r::rs=>by
  rw[R9,se];cases h:bq ks k (gi r 0).rV with
  | true =>
   rw[cT,se];have e:bq ks key (gi r 0).rV=bq ks key k:=(wv h).symm;rw[e];show (bif bq ks key k then _ else _)=_
   cases bq ks key k<;>rfl
  | false =>
   rw[cF,se,R' ks k key v c rs];cases d:bq ks key (gi r 0).rV with
   |false=>rfl
   | true =>
    cases g:bq ks key k with
    |false=>rfl
    | true =>
     have:bq ks k (gi r 0).rV=true:=wu (by rw[qn]; exact g) d;rw[this]at h;cases h
theorem AT(s k:BY):bq [.str] [.s s] [.s k]=decide (s=k):=by
 show ((s.toList==k.toList)&&true)=_
 rw[gW,k9]
structure jv (Q:LG->Prop) (m:LL) (n:BY->Nat):Prop where
 eT:∀ k,eT [.str] m [.s k]=true
 get:∀ k,(fg [.str] m [.s k]).length<=n k/\∀ z∈fg [.str] m [.s k],Q z
theorem jv.nil(Q:LG->Prop):jv Q [] fun _=>0:=⟨fun _=>rfl,fun _=>⟨aQ _,by intro z d; cases d⟩⟩
theorem jv.add{Q:LG->Prop}{m:LL}{n:BY->Nat}(h:jv Q m n)(k:BY){x:LG}(q:Q x)(c:Nat) :
  jv Q (od [.str] (gn [.str] m [.s k]) [.s k] (fg [.str] m [.s k]++[x]) c) fun s=>if s=k then n s+1 else n s:=by
 refine⟨fun s=>?_,fun s=>?_⟩
 ·rw [R', AT]
  by_cases e:s=k
  ·rw[dE e]; rfl
  ·rw [decide_eq_false e, cF, Jd _ (by rw [AT]; exact decide_eq_false e)]
   exact h.eT s
 ·rw [R_, AT]
  obtain⟨h1,g⟩:=h.get s;by_cases e:s=k
  ·subst e
   rw[dE rfl,cT];simp only[if_true];refine⟨by rw[fX]; simp; omega,fun z d=>?_⟩;rcases c_.1 d with d|d
   ·exact g z d
   ·rw[l_.1 d]; exact q
  ·rw [decide_eq_false e, cF, Jc]
   simp only[iN e];exact⟨h1,g⟩
theorem jv.mono{Q:LG->Prop}{m:LL}{n d:BY->Nat}(h:jv Q m n)(g:∀ k,n k<=d k):jv Q m d :=
 ⟨h.eT,fun k=>⟨kJ (h.get k).1 (g k),(h.get k).2⟩⟩
def nz(r:LG):Prop:=dZ r/\0<=(gi r 0).iV/\(gi r 0).iV<=1000000
theorem ahx{t m s h:Int}{b c x y:BY}(d:0<=t/\t<=1000000)(hm:0<=m/\m<=10)(hb:b∈kF)(g:c∈calls)(v:0<=s/\s<=1000)(I:0<=h/\h<=1000)(k:x∈names)(q:y∈names) :
  nz [.i t,.i m,.s b,.s c,.i s,.i h,.s x,.s y] :=
 ⟨⟨t,m,b,c,s,h,x,y,rfl,by unfold small; omega,by unfold small; omega,by unfold small; omega,by unfold small; omega,hb,g,k,q⟩,d⟩
def lV(m:LL)(B:Int):Prop:=∀ k,0<=(gi (dn [.str] m [.s k] [.i 0]) 0).iV/\(gi (dn [.str] m [.s k] [.i 0]) 0).iV<=B
theorem lV.add{m:LL}{B:Int}(h:lV m B)(k:BY)(c:Nat):lV (ew [.str] m [.s k] [.i ((gi (dn [.str] m [.s k] [.i 0]) 0).iV+1)] c) (B+1):=fun s=>by
 have h1:=h k;have d:=h s;rw[zM,AT];by_cases e:s=k
 ·rw [dE e, cT]
  show 0<=(gi (dn [.str] m [.s k] [.i 0]) 0).iV+1/\(gi (dn [.str] m [.s k] [.i 0]) 0).iV+1<=B+1
  omega
 ·rw [decide_eq_false e, cF]
  omega
theorem Sa{Q:LG->Prop}{l a7 ser cs:LL}{clk c2:Nat}{n:BY->Nat}(d:jv Q a7 n){a t nn i:Int}{b:BY}(W:n b<=1000){g h q v:Int}{y I M N:BY}(V:Q [.i g,.i h,.s y,.s I,.i q,.i v,.s M,.s N])(f:Bool) :
  ∃(O:LL) (U:Nat),wH [.l l,.i a,.l a7,.i (clk:Int),.l ser,.i (c2:Int),.l cs,.i t,.s b,.l [[.i g,.i h,.s y,.s I,.i q,.i v,.s M,.s N]],.i nn,.i i,.t f] =
   some (some 0,[.l l,.i a,.l O,.i (U:Int),.l ser,.i (c2:Int),.l cs,.i t,.i nn,.i i])/\jv Q O (fun s=>if s=b then n s+1 else n s):=by
 have hl:=(d.get b).1;cases f with
 | false =>
  refine⟨a7,clk,aa.toEq ?_,d.mono fun k=>by split<;>omega⟩;unfold wH;dsimp +instances only[gd,Aa,Ab,Ac,Ad,Ae,Af,Ag];simp only[a6];exact aa.neg rfl (aa.some rfl)
 | true =>
  refine⟨od [.str] (gn [.str] a7 [.s b]) [.s b] (fg [.str] a7 [.s b]++[[.i g,.i h,.s y,.s I,.i q,.i v,.s M,.s N]]) clk,dG [.str] (gn [.str] a7 [.s b]) [.s b] clk,aa.toEq ?_,d.add b V clk⟩;unfold wH;dsimp +instances only[gd,Aa,Ab,Ac,Ad,Ae,Af,Ag];simp only[a6];exact aa.pos rfl (aa.pos (d.eT b) (aa.pos (by simp; omega) (aa.pos (by simp) (aa.some rfl))))
theorem Sb{Q:LG->Prop}{l a7 ser cs:LL}{clk c2:Nat}{n:BY->Nat}(y:jv Q a7 n){a t nn i:Int}(ha:0<=a)(ha1:a<=100000){b:BY}(I:n b<=1000){M N O U:Int}{V k W y7:BY}(hy:Q [.i M,.i N,.s V,.s k,.i O,.i U,.s W,.s y7]) :
  ∃(d:LL) (h:Nat) (q:Int),a<=q/\q<=a+1/\wI [.l l,.i a,.l a7,.i (clk:Int),.l ser,.i (c2:Int),.l cs,.i t,.s b,.l [[.i M,.i N,.s V,.s k,.i O,.i U,.s W,.s y7]],.i nn,.i i] =
   some (some 0,[.l l,.i q,.l d,.i (h:Int),.l ser,.i (c2:Int),.l cs,.i t,.i nn,.i i])/\jv Q d (fun s=>if s=b then n s+1 else n s):=by
 cases hb : !(k.toList==b.toList)with
 | false =>
  obtain⟨d,h,h1,v⟩:=Sa (l:=l) (ser:=ser) (cs:=cs) (clk:=clk) (c2:=c2) y (a:=a) (t:=t) (nn:=nn) (i:=i) (b:=b) I hy false;refine⟨d,h,a,x8 _,by omega,aa.toEq ?_,v⟩;unfold wI;dsimp +instances only[gd,Aa,Ab,Ac,Ad,Ae,Af,Ag];simp only[a6];refine aa.neg hb ?_;refine aa.tail (P:=fun u g=>u=0/\g=[.l l,.i a,.l d,.i (h:Int),.l ser,.i (c2:Int),.l cs,.i t,.i nn,.i i]) ⟨_,h1,0,rfl,rfl,rfl⟩ (by first|rfl|simp) ?_;rintro _ _ ⟨rfl,rfl⟩;dsimp +instances only[gd,Aa,Ab,Ac,Ad,Ae,Af,Ag];simp only[a6];exact aa.some rfl
 | true =>
  obtain⟨_,hf,f,rfl⟩:=AJ l a 8 ha (by omega) (by omega) (by omega);obtain⟨d,h,h1,v⟩:=Sa (l:=l) (ser:=ser) (cs:=cs) (clk:=clk) (c2:=c2) y (a:=a+1) (t:=t) (nn:=nn) (i:=i) (b:=b) I hy (!f);refine⟨d,h,a+1,by omega,x8 _,aa.toEq ?_,v⟩;unfold wI;dsimp +instances only[gd,Aa,Ab,Ac,Ad,Ae,Af,Ag];simp only[a6];refine aa.pos hb ?_;refine aa.cE hf ?_;dsimp +instances only[gd,Aa,Ab,Ac,Ad,Ae,Af,Ag];refine aa.tail (P:=fun u g=>u=0/\g=[.l l,.i (a+1),.l d,.i (h:Int),.l ser,.i (c2:Int),.l cs,.i t,.i nn,.i i]) ⟨_,h1,0,rfl,rfl,rfl⟩ (by first|rfl|simp) ?_;rintro _ _ ⟨rfl,rfl⟩;dsimp +instances only[gd,Aa,Ab,Ac,Ad,Ae,Af,Ag];simp only[a6];exact aa.some rfl
theorem xA{Q:LG->Prop}{l a7 ser cs:LL}{clk c2:Nat}{n:Nat}(y:jv Q a7 fun _=>n){a t nn i:Int}(ha:0<=a)(V:a<=100000){q b:BY}(hab:q≠b)(hn:n<=999){W x1 x4 x5:Int}{x2 I x6 x7:BY}(hx:Q [.i W,.i x1,.s x2,.s I,.i x4,.i x5,.s x6,.s x7]){y0 y1 y4 y5:Int}{y2 y3 y6 y7:BY}(hy:Q [.i y0,.i y1,.s y2,.s y3,.i y4,.i y5,.s y6,.s y7]) :
  ∃(h:LL) (v:Nat) (d:Int),a<=d/\d<=a+1/\pj [.l l,.i a,.l a7,.i (clk:Int),.l ser,.i (c2:Int),.i W,.i x1,.s x2,.s I,.i x4,.i x5,.s x6,.s x7,.l cs,.i t,.s q,.s b,.l [[.i y0,.i y1,.s y2,.s y3,.i y4,.i y5,.s y6,.s y7]],.i nn,.i i] =
   some (some 0,[.l l,.i d,.l h,.i (v:Int),.l ser,.i (c2:Int),.l cs,.i t,.i nn,.i i])/\jv Q h (fun _=>n+1):=by
 have hl:=(y.get q).1;cases hc : !(I.toList==q.toList)with
 | false =>
  obtain⟨h,v,d,M,N,h1,O⟩:=Sb (l:=l) (ser:=ser) (cs:=cs) (clk:=clk) (c2:=c2) y (a:=a) (t:=t) (nn:=nn) (i:=i) ha V (b:=b) (by omega) hy;refine⟨h,v,d,M,N,aa.toEq ?_,O.mono fun k=>by split<;>omega⟩;unfold pj;dsimp +instances only[gd,Aa,Ab,Ac,Ad,Ae,Af,Ag];simp only[a6];refine aa.neg hc ?_;refine aa.tail (P:=fun u g=>u=0/\g=[.l l,.i d,.l h,.i (v:Int),.l ser,.i (c2:Int),.l cs,.i t,.i nn,.i i]) ⟨_,h1,0,rfl,rfl,rfl⟩ (by first|rfl|simp) ?_;rintro _ _ ⟨rfl,rfl⟩;dsimp +instances only[gd,Aa,Ab,Ac,Ad,Ae,Af,Ag];simp only[a6];exact aa.some rfl
 | true =>
  obtain⟨h,v,d,M,N,h1,O⟩:=Sb (l:=l) (ser:=ser) (cs:=cs) (clk:=dG [.str] (gn [.str] a7 [.s q]) [.s q] clk) (c2:=c2) (y.add q hx clk) (a:=a) (t:=t) (nn:=nn) (i:=i) ha V (b:=b) (by split<;>omega) hy;refine⟨h,v,d,M,N,aa.toEq ?_,O.mono fun k=>?_⟩
  ·unfold pj
   dsimp +instances only[gd,Aa,Ab,Ac,Ad,Ae,Af,Ag];simp only[a6];refine aa.pos hc (aa.pos (y.eT q) (aa.pos (by simp; omega) (aa.pos (by simp) ?_)));refine aa.tail (P:=fun u g=>u=0/\g=[.l l,.i d,.l h,.i (v:Int),.l ser,.i (c2:Int),.l cs,.i t,.i nn,.i i]) ⟨_,h1,0,rfl,rfl,rfl⟩ (by first|rfl|simp) ?_;rintro _ _ ⟨rfl,rfl⟩;dsimp +instances only[gd,Aa,Ab,Ac,Ad,Ae,Af,Ag];simp only[a6];exact aa.some rfl
  ·by_cases U : k = b
   ·rw [iP U, iN (fun e => hab (e.symm.trans U))]
    exact aQ _
   ·rw [iN U]
    split<;>omega
theorem lV.mono{m:LL}{B d:Int}(h:lV m B)(hb:B<=d):lV m d:=fun k=>⟨(h k).1,J9 (h k).2 hb⟩
theorem lV.nil:lV [] 0:=fun k=>⟨x8 0,x8 0⟩
theorem xB{X:Option (Option Nat × LG)}{l k v cs:LL}{y t I i:Int}{q M:Nat}
  (hX:X=some (some 0,[.l l,.i y,.l k,.i (q:Int),.l v,.i (M:Int),.l cs,.i t,.i I,.i i])) (hi:aB (i+1)=true) :
  aa (bh true (dC X) fun O d=>(bh true (dC (lO [.l (gi d 0).rZ,.i (gi d 1).iV,.l (gi d 2).rZ,.i (((gi d 3).iV.toNat:Nat):Int),.l (gi d 4).rZ,.i (((gi d 5).iV.toNat:Nat):Int),.l (gi d 6).rZ,.i (gi d 7).iV,.i (gi d 8).iV,.i (gi d 9).iV])) fun U h=>some ((none:Option Nat),([.l (gi h 0).rZ,.i (gi h 1).iV,.l (gi h 2).rZ,.i (((gi h 3).iV.toNat:Nat):Int),.l (gi h 4).rZ,.i (((gi h 5).iV.toNat:Nat):Int),.l (gi h 6).rZ,.i (gi h 7).iV,.i (gi h 8).iV,.i (gi h 9).iV]:LG))))
   fun o=>o=(none,[.l l,.i y,.l k,.i (q:Int),.l v,.i (M:Int),.l cs,.i t,.i I,.i (i+1)]):=by
 refine aa.tail (P:=fun u g=>u=0/\g=[.l l,.i y,.l k,.i (q:Int),.l v,.i (M:Int),.l cs,.i t,.i I,.i i]) ⟨_,hX,0,rfl,rfl,rfl⟩ (by first|rfl|simp) ?_;rintro _ _ ⟨rfl,rfl⟩;dsimp +instances only[gd,Aa,Ab,Ac,Ad,Ae,Af,Ag];simp only[a6];have N:lO [.l l,.i y,.l k,.i (q:Int),.l v,.i (M:Int),.l cs,.i t,.i I,.i i]=some (some 0,[.l l,.i y,.l k,.i (q:Int),.l v,.i (M:Int),.l cs,.i t,.i I,.i (i+1)]):=by
  refine aa.toEq ?_;unfold lO;dsimp +instances only[gd,Aa,Ab,Ac,Ad,Ae,Af,Ag];simp only[a6];exact aa.pos hi (aa.some rfl)
 refine aa.tail (P:=fun u g=>u=0/\g=[.l l,.i y,.l k,.i (q:Int),.l v,.i (M:Int),.l cs,.i t,.i I,.i (i+1)]) ⟨_,N,0,rfl,rfl,rfl⟩ (by first|rfl|simp) ?_;rintro _ _ ⟨rfl,rfl⟩;dsimp +instances only[gd,Aa,Ab,Ac,Ad,Ae,Af,Ag];simp only[a6];exact aa.some rfl
theorem ahy{l h q cs:LL}{v t y i:Int}{k I:Nat}(hi:aB (i+1)=true) :
  aa (bh true (dC (lO [.l l,.i v,.l h,.i (k:Int),.l q,.i (I:Int),.l cs,.i t,.i y,.i i])) fun N d=>some ((none:Option Nat),([.l (gi d 0).rZ,.i (gi d 1).iV,.l (gi d 2).rZ,.i (((gi d 3).iV.toNat:Nat):Int),.l (gi d 4).rZ,.i (((gi d 5).iV.toNat:Nat):Int),.l (gi d 6).rZ,.i (gi d 7).iV,.i (gi d 8).iV,.i (gi d 9).iV]:LG)))
   fun o=>o=(none,[.l l,.i v,.l h,.i (k:Int),.l q,.i (I:Int),.l cs,.i t,.i y,.i (i+1)]):=by
 have M:lO [.l l,.i v,.l h,.i (k:Int),.l q,.i (I:Int),.l cs,.i t,.i y,.i i]=some (some 0,[.l l,.i v,.l h,.i (k:Int),.l q,.i (I:Int),.l cs,.i t,.i y,.i (i+1)]):=by
  refine aa.toEq ?_;unfold lO;dsimp +instances only[gd,Aa,Ab,Ac,Ad,Ae,Af,Ag];simp only[a6];exact aa.pos hi (aa.some rfl)
 refine aa.tail (P:=fun u g=>u=0/\g=[.l l,.i v,.l h,.i (k:Int),.l q,.i (I:Int),.l cs,.i t,.i y,.i (i+1)]) ⟨_,M,0,rfl,rfl,rfl⟩ (by first|rfl|simp) ?_;rintro _ _ ⟨rfl,rfl⟩;dsimp +instances only[gd,Aa,Ab,Ac,Ad,Ae,Af,Ag];simp only[a6];exact aa.some rfl
theorem ahz{l a7 ser cs:LL}{clk c2 n:Nat}{B:Int}(U:jv nz a7 fun _=>n)(hS:lV ser B)(hc0:(eh 1 cs.length&&eh cs.length 1000000)=true) (bX:(cs.all fun x=>nv calls (gi x 0).sV)=true)
  (hB:0<=B) (hB1:B<=900) {a t nn i:Int} (ha:0<=a) (ha1:a<=90000) (ht:0<=t) (ht1:t<=900000) (hn:n<=900) (hi0:0<=i) (hi:i<nn) (hnn:nn<=100000) :
  aa (wK [.l l,.i a,.l a7,.i (clk:Int),.l ser,.i (c2:Int),.l cs,.i t,.i nn,.i i]) fun o=>∃(b:Int) (g:LL) (N:Nat) (ser':LL) (c2':Nat) (t':Int),o=(none,[.l l,.i b,.l g,.i (N:Int),.l ser',.i (c2':Int),.l cs,.i t',.i nn,.i (i+1)]) /\
   a<=b/\b<=a+10/\jv nz g (fun _=>n+1)/\lV ser' (B+2)/\t<=t'/\t'<=t+1000:=by
 have O:aB (i+1)=true:=by simp only[aB,sl]<;>omega
 unfold wK;dsimp +instances only[gd,Aa,Ab,Ac,Ad,Ae,Af,Ag];(repeat first|refine aa.p ?_|refine aa.n ?_);refine aa.call (qt 0 1000 l a _ ha (by omega) (by kernel_rfl) (by kernel_rfl)) ?_;rintro _ ⟨I,rfl,hd0,hd1⟩;dsimp +instances only[gd,Aa,Ab,Ac,Ad,Ae,Af,Ag];(repeat first|refine aa.p ?_|refine aa.n ?_);refine aa.call (lP calls l (a+1) cs (by omega) (by omega) hc0 bX) ?_;rintro _ ⟨M,rfl,hca⟩;dsimp +instances only[gd,Aa,Ab,Ac,Ad,Ae,Af,Ag];refine aa.call (lP calls l (a+1+1) _ (by omega) (by omega) (by kernel_rfl) (by kernel_rfl)) ?_;rintro _ ⟨b,rfl,hb⟩;dsimp +instances only[gd,Aa,Ab,Ac,Ad,Ae,Af,Ag];simp only[a6];by_cases k:M=b
 ·refine aa.pos (by rw [k, k9]; exact dE rfl) ?_
  refine(ahy O).mono ?_;rintro _ rfl;exact⟨_,_,_,_,_,_,rfl,by omega,by omega,U.mono fun _=>by omega,hS.mono (by omega),by omega,by omega⟩
 refine aa.neg (by rw[k9]; exact decide_eq_false k) ?_;obtain⟨s1,e1⟩:∃ z,z=ew [.str] ser [.s M] [.i ((gi (dn [.str] ser [.s M] [.i 0]) 0).iV+1)] c2:=⟨_,rfl⟩
 have hS1:lV s1 (B+1):=e1▸hS.add M c2;obtain⟨k1,f1⟩:∃ z,z=dG [.str] ser [.s M] c2:=⟨_,rfl⟩
 obtain⟨s2,e2⟩:∃ z,z=ew [.str] s1 [.s b] [.i ((gi (dn [.str] s1 [.s b] [.i 0]) 0).iV+1)] k1:=⟨_,rfl⟩
 have v:lV s2 (B+2):=by
  have:=hS1.add b k1;rw[<-e2]at this;exact this.mono (by omega)
 obtain⟨k2,f2⟩:∃ z,z=dG [.str] s1 [.s b] k1:=⟨_,rfl⟩
 simp only[<-f1,<-e1];simp only[<-f2,<-e2];have v1:=hS M;have v2:=hS1 b;obtain⟨p,ep⟩:∃ p,p=(gi (dn [.str] s2 [.s M] [.i 0]) 0).iV:=⟨_,rfl⟩
 obtain⟨q,eq⟩:∃ p,p=(gi (dn [.str] s2 [.s b] [.i 0]) 0).iV:=⟨_,rfl⟩
 simp only[<-ep,<-eq];have v3:0<=p/\p<=B+2:=ep▸v M;have v4:0<=q/\q<=B+2:=eq▸v b;(repeat first|refine aa.p ?_|refine aa.n ?_);refine aa.call (lP kF l (a+1+1+1) _ (by omega) (by omega) (by kernel_rfl) (by kernel_rfl)) ?_;rintro _ ⟨bd,rfl,V⟩;dsimp +instances only[gd,Aa,Ab,Ac,Ad,Ae,Af,Ag];refine aa.call (qt 1 2 l (a+1+1+1+1) _ (by omega) (by omega) (by kernel_rfl) (by kernel_rfl)) ?_;rintro _ ⟨m,rfl,hm0,hm1⟩;dsimp +instances only[gd,Aa,Ab,Ac,Ad,Ae,Af,Ag];refine aa.call (qt 0 200 l (a+1+1+1+1+1) _ (by omega) (by omega) (by kernel_rfl) (by kernel_rfl)) ?_;rintro _ ⟨d2,rfl,hd2,hd3⟩;dsimp +instances only[gd,Aa,Ab,Ac,Ad,Ae,Af,Ag];(repeat first|refine aa.p ?_|refine aa.n ?_);refine aa.call (ui l (a+1+1+1+1+1+1) 8 (by omega) (by omega) (by omega) (by omega)) ?_;rintro _ ⟨cs',rfl,hc3,hc4⟩;dsimp +instances only[gd,Aa,Ab,Ac,Ad,Ae,Af,Ag];have hb':b∈calls:=hb;have hx0:(⟨#[]⟩:BY)∈names:=oB (by kernel_rfl);have W:(⟨#[120]⟩:BY)∈names:=oB (by kernel_rfl);have mk:∀{t' m' s h:Int} {b' c x y:BY},0<=t'/\t'<=1000000->0<=m'/\m'<=10->b'∈kF->c∈calls->0<=s/\s<=1000->0<=h/\h<=1000->x∈names->y∈names->nz [.i t',.i m',.s b',.s c,.i s,.i h,.s x,.s y]:=fun h1 d h3 h4 h5 h6 h7 h8=>ahx h1 d h3 h4 h5 h6 h7 h8;have hx:∀{c:BY} {h:Int} {y:BY},c∈calls->0<=h/\h<=1000->y∈names->nz [.i (t+I),.i m,.s bd,.s c,.i p,.i h,.s ⟨#[]⟩,.s y]:=fun h1 d h3=>mk (by omega) (by omega) V h1 (by omega) d hx0 h3;have hy:∀{b' c:BY},b'∈kF->c∈calls->nz [.i (t+I+d2),.i m,.s b',.s c,.i q,.i p,.s ⟨#[120]⟩,.s ⟨#[]⟩]:=fun h0 h1=>mk (by omega) (by omega) h0 h1 (by omega) (by omega) W hx0;by_cases c0:cs'=0
 ·refine aa.pos (by simp [c0]) ?_
  refine aa.call (lP calls l (a+1+1+1+1+1+1+1) _ (by omega) (by omega) (by kernel_rfl) (by kernel_rfl)) ?_;rintro _ ⟨w,rfl,hw⟩;dsimp +instances only[gd,Aa,Ab,Ac,Ad,Ae,Af,Ag];obtain⟨g,N,a',g1,g2,h1,d⟩:=xA (l:=l) (ser:=s2) (cs:=cs) (clk:=clk) (c2:=k2) U (a:=a+1+1+1+1+1+1+1+1) (t:=t+I) (nn:=nn) (i:=i) (by omega) (by omega) k (by omega) (hx hw (h:=q) (by omega) W) (hy V hca);refine(xB h1 O).mono ?_;rintro _ rfl;exact⟨_,_,_,_,_,_,rfl,by omega,by omega,d,v,by omega,by omega⟩
 refine aa.neg (by simp[c0]) ?_;by_cases c1:cs'=1
 ·refine aa.pos (by simp [c1]) ?_
  refine aa.call (lP calls l (a+1+1+1+1+1+1+1) _ (by omega) (by omega) (by kernel_rfl) (by kernel_rfl)) ?_;rintro _ ⟨w,rfl,hw⟩;dsimp +instances only[gd,Aa,Ab,Ac,Ad,Ae,Af,Ag];obtain⟨g,N,a',g1,g2,h1,d⟩:=xA (l:=l) (ser:=s2) (cs:=cs) (clk:=clk) (c2:=k2) U (a:=a+1+1+1+1+1+1+1+1) (t:=t+I) (nn:=nn) (i:=i) (by omega) (by omega) k (by omega) (hx hb (h:=q) (by omega) W) (hy V hw);refine(xB h1 O).mono ?_;rintro _ rfl;exact⟨_,_,_,_,_,_,rfl,by omega,by omega,d,v,by omega,by omega⟩
 refine aa.neg (by simp[c1]) ?_;by_cases c2':cs'=2
 ·refine aa.pos (by simp [c2']) ?_
  (repeat first|refine aa.p ?_|refine aa.n ?_);obtain⟨g,N,a',g1,g2,h1,d⟩:=xA (l:=l) (ser:=s2) (cs:=cs) (clk:=clk) (c2:=k2) U (a:=a+1+1+1+1+1+1+1) (t:=t+I) (nn:=nn) (i:=i) (by omega) (by omega) k (by omega) (hx hb (h:=q+1) (by omega) W) (hy V hca);refine(xB h1 O).mono ?_;rintro _ rfl;exact⟨_,_,_,_,_,_,rfl,by omega,by omega,d,v,by omega,by omega⟩
 refine aa.neg (by simp[c2']) ?_;by_cases c3:cs'=3
 ·refine aa.pos (by simp [c3]) ?_
  obtain⟨g,N,a',g1,g2,h1,d⟩:=xA (l:=l) (ser:=s2) (cs:=cs) (clk:=clk) (c2:=k2) U (a:=a+1+1+1+1+1+1+1) (t:=t+I) (nn:=nn) (i:=i) (by omega) (by omega) k (by omega) (hx hb (h:=q) (by omega) hx0) (hy V hca);refine(xB h1 O).mono ?_;rintro _ rfl;exact⟨_,_,_,_,_,_,rfl,by omega,by omega,d,v,by omega,by omega⟩
 refine aa.neg (by simp[c3]) ?_;by_cases c4:cs'=4
 ·refine aa.pos (by simp [c4]) ?_
  refine aa.call (lP kF l (a+1+1+1+1+1+1+1) _ (by omega) (by omega) (by kernel_rfl) (by kernel_rfl)) ?_;rintro _ ⟨w,rfl,hw⟩;dsimp +instances only[gd,Aa,Ab,Ac,Ad,Ae,Af,Ag];obtain⟨g,N,a',g1,g2,h1,d⟩:=xA (l:=l) (ser:=s2) (cs:=cs) (clk:=clk) (c2:=k2) U (a:=a+1+1+1+1+1+1+1+1) (t:=t+I) (nn:=nn) (i:=i) (by omega) (by omega) k (by omega) (hx hb (h:=q) (by omega) W) (hy hw hca);refine(xB h1 O).mono ?_;rintro _ rfl;exact⟨_,_,_,_,_,_,rfl,by omega,by omega,d,v,by omega,by omega⟩
 refine aa.neg (by simp[c4]) ?_;obtain⟨g,N,a',g1,g2,h1,d⟩:=xA (l:=l) (ser:=s2) (cs:=cs) (clk:=clk) (c2:=k2) U (a:=a+1+1+1+1+1+1+1) (t:=t+I) (nn:=nn) (i:=i) (by omega) (by omega) k (by omega) (hx hb (h:=q) (by omega) W) (hy V hca);refine(xB h1 O).mono ?_;rintro _ rfl;exact⟨_,_,_,_,_,_,rfl,by omega,by omega,d,v,by omega,by omega⟩
theorem Sc{l cs:LL}(N:(eh 1 cs.length&&eh cs.length 1000000)=true) (bX:(cs.all fun x=>nv calls (gi x 0).sV)=true) {n:Nat} (hn:n<=14):∀(k i:Nat) (a7 v:LL) (d y:Nat) (a t:Int),i+k=n->0<=a->a<=1000+10*i->0<=t->t<=1000*i->jv nz a7 (fun _=>i)->lV v (2*i) ->
  aX wK [.l l,.i a,.l a7,.i (d:Int),.l v,.i (y:Int),.l cs,.i t,.i (n:Int),.i (i:Int)] (k+1) fun c g=>c=0/\∃(b:Int) (q:LL) (I:Nat),g=[.l l,.i b,.l q,.i (I:Int),.l cs]/\a<=b/\b<=a+10*k/\jv nz q (fun _=>n)
 | 0,i,a7,v,d,y,a,t,hi,ha,ha1,O,ht1,M,U=>by
  refine aX.stop (x:=0) (aa.toEq ?_) ⟨rfl,a,a7,d,rfl,by omega,by omega,M.mono fun _=>by omega⟩;unfold wK;dsimp +instances only[gd,Aa,Ab,Ac,Ad,Ae,Af,Ag];simp only[a6];(repeat first|refine aa.p ?_|refine aa.n ?_);exact aa.some rfl
 | k+1,i,a7,v,d,y,a,t,hi,ha,ha1,O,ht1,M,U=>by
  obtain⟨_,h,b,q,I,V,c2',t',rfl,g1,g2,g3,g4,g5,g6⟩:=ahz (l:=l) (clk:=d) (c2:=y) M U N bX (by omega) (by omega) (a:=a) (t:=t) (nn:=n) (i:=i) ha (by omega) O (by omega) (by omega) (by omega) (by omega) (by omega);have ih:=Sc (l:=l) N bX hn k (i+1) q V I c2' b t' (by omega) (by omega) (by omega) (by omega) (by omega) g3 (g4.mono (by omega));refine aX.next h (ih.mono ?_)
  rintro c g ⟨rfl,b',bH,W,rfl,q1,q2,q3⟩;exact⟨rfl,b',bH,W,rfl,by omega,by omega,q3⟩
def sf(r s:LG):Bool:=iW r s==0
theorem ahA:Dm [.I,.I,.str,.str,.I,.I,.str,.str] zT dZ sf:=⟨fun r s d g=>by
 refine aa.toEq ?_;unfold zT;dsimp +instances only[gd,Aa,Ab,Ac,Ad,Ae,Af,Ag];simp only[d.eta,g.eta];refine aa.cE (IW d g) ?_;exact aa.some rfl,fun _ h=>h.eta⟩
def zS:LG:=[.i 0,.i 0,.s (⟨#[]⟩:BY),.s (⟨#[]⟩:BY),.i 0,.i 0,.s (⟨#[]⟩:BY),.s (⟨#[]⟩:BY)]
def Sd(c:BY)(r:LG):Prop:=∃ L:LL,r=[.s c,.l L]/\(∀ z∈L,nz z)/\L.length<=14
def nC(c:BY):LG:=[.s c]
theorem Se{l:LL}{a:Int}:∀(q p:List BY) (a7 d:LL) (k:Nat),(∀ c∈q,eT [.str] a7 [.s c]=true/\(fg [.str] a7 [.s c]).length<=14/\∀ z∈fg [.str] a7 [.s c],nz z)->q.Pairwise (·≠·)->d.length=p.length->p.length+q.length<=100 ->
  aX wL [.l l,.i a,.l a7,.i (k:Int),.l d,.l ((p++q).map nC),.i ((p.length+q.length:Nat):Int),.i (p.length:Int)] (q.length+1) fun c g=>c=0/\∃ L:LL,g=[.l l,.i a,.l (d++L)]/\L.length=q.length/\∀ i,i<q.length->Sd (q.getD i ⟨#[]⟩) (L.getD i [])
 | [],p,a7,d,k,y,I,V,W=>by
  refine aX.stop (x:=0) (aa.toEq ?_) ⟨rfl,[],rfl,rfl,fun i hi=>by cases hi⟩;unfold wL;dsimp +instances only[gd,Aa,Ab,Ac,Ad,Ae,Af,Ag];(repeat first|refine aa.p ?_|refine aa.n ?_);exact aa.some (by simp)
 | c::q,p,a7,d,k,y,I,V,W=>by
  simp only[cd]at W;obtain⟨h1,h2,N⟩:=y c (by simp);have g1:((p++c::q).map nC).getD (p.length:Int).toNat []=nC c:=by
   rw[jM,dx];exact np _ _ _ _ _ (by simp)
  have hc:((p++c::q).map nC).length=p.length+(q.length+1):=by simp
  obtain⟨M,hM⟩:∃ M,M=fg [.str] a7 [.s c]:=⟨_,rfl⟩
  rw[<-hM]at h2 N;have hs:=Zp (lt:=cN iW) N;have hsl:=Dj (cN iW) M;have hle:(jT sf (eI (cN iW) M)).length<=(eI (cN iW) M).length:=Zv _ _;have ih:=Se (l:=l) (a:=a) q (p++[c]) (gn [.str] a7 [.s c]) (d++[[.s c,.l (jT sf (eI (cN iW) M))]]) k (by
   intro x hx;obtain⟨O,U,q3⟩:=y x (dj _ hx);have hne:x≠c:=fun e=>(sR.1 I).1 x hx e.symm;rw[Jc,Jd _ (by rw[AT]; exact decide_eq_false hne)];exact⟨O,U,q3⟩) (sR.1 I).2 (by simp[V]) (by simp; omega)
  have key:aa (wL [.l l,.i a,.l a7,.i (k:Int),.l d,.l ((p++c::q).map nC),.i ((p.length+(c::q).length:Nat):Int),.i (p.length:Int)]) fun o=>o=(none,[.l l,.i a,.l (gn [.str] a7 [.s c]),.i (k:Int),.l (d++[[.s c,.l (jT sf (eI (cN iW) M))]]),.l ((p++c::q).map nC),.i ((p.length+(c::q).length:Nat):Int),.i ((p.length:Int)+1)]):=by
   unfold wL;dsimp +instances only[gd,Aa,Ab,Ac,Ad,Ae,Af,Ag];simp only[g1,hc,nC,cd];dsimp +instances only[gd,Aa,Ab,Ac,Ad,Ae,Af,Ag];simp only[a6,<-hM];(repeat first|refine aa.p ?_|refine aa.n ?_);refine aa.pc (aa.eq (Zt ag4 M (fun z v=>(N z v).1) (by omega))) (by simp) ?_;rintro _ rfl;dsimp +instances only[gd,Aa,Ab,Ac,Ad,Ae,Af,Ag];refine aa.pc (P:=fun g=>∃ J,g=[.l (jT sf (eI (cN iW) M)++J),.i ((jT sf (eI (cN iW) M)).length:Int)]/\(jT sf (eI (cN iW) M)++J).length=(eI (cN iW) M).length)
    (Zw (Z:=zS) ahA (eI (cN iW) M) (fun z v=>(hs z v).1) (by omega)) (by simp[hsl]) ?_
   rintro _ ⟨J,rfl,hJ⟩;dsimp +instances only[gd,Aa,Ab,Ac,Ad,Ae,Af,Ag];simp only[a6,List.take_left'];refine aa.pos (by simp) (aa.pos (by simp; omega) (aa.p (aa.pos (by simp) (aa.some ?_))));rfl
  obtain⟨_,h,rfl⟩:=key;have e:((p++[c])++q).map nC=(p++c::q).map nC:=by simp
  have e2:(((p++[c]).length+q.length:Nat):Int)=((p.length+(c::q).length:Nat):Int):=by simp; omega
  have e3:(((p++[c]).length:Nat):Int)=(p.length:Int)+1:=by simp
  rw[e,e2,e3]at ih;refine aX.next h (ih.mono ?_)
  rintro x g ⟨rfl,L,rfl,O,U⟩;refine⟨rfl,[.s c,.l (jT sf (eI (cN iW) M))]::L,by simp,by simp[O],fun i hi=>?_⟩;cases i with
  |zero=>exact⟨_,rfl,fun z v=>hs z (Zu v),by omega⟩
  |succ i=>exact U i (by simpa using hi)
def C4:List BY:=[⟨#[107,49,97,98]⟩,⟨#[111,104,50,97,98,99]⟩,⟨#[111,104,50,97,98,100]⟩,⟨#[119,49,97,119]⟩]
theorem ahB(l:LL):aa (Dy [.l l,.i 0]) fun g=>∃(b:Int) (L:LL) (m:Nat),g=[.l l,.i b,.l L]/\0<=b/\b<=1000/\1<=m/\m<=4/\L.length=m/\∀ i,i<m->Sd (C4.getD i ⟨#[]⟩) (L.getD i []):=by
 unfold Dy;dsimp +instances only[gd,Aa,Ab,Ac,Ad,Ae,Af,Ag];refine aa.call (IS l 0 1 4 (by omega) (by omega) (by omega) (by omega) (by omega)) ?_;rintro _ ⟨m,rfl,W,hm1⟩;obtain⟨m,rfl⟩:=Ke (by omega:0<=m);dsimp +instances only[gd,Aa,Ab,Ac,Ad,Ae,Af,Ag];(repeat first|refine aa.p ?_|refine aa.n ?_);refine aa.call (IS l (0+1) 0 14 (by omega) (by omega) (by omega) (by omega) (by omega)) ?_;rintro _ ⟨n,rfl,v,hn1⟩;obtain⟨n,rfl⟩:=Ke v;dsimp +instances only[gd,Aa,Ab,Ac,Ad,Ae,Af,Ag];obtain⟨cs,bX⟩:∃ cs,cs=C4.take m:=⟨_,rfl⟩
 have y:cs.length=m:=by
  rw[bX,List.length_take];show min m 4=m
  omega
 have M:([[.s (⟨#[107,49,97,98]⟩:BY)],[.s (⟨#[111,104,50,97,98,99]⟩:BY)],[.s (⟨#[111,104,50,97,98,100]⟩:BY)],[.s (⟨#[119,49,97,119]⟩:BY)]]:LL).take ((m:Int).toNat)=cs.map nC:=by
  rw[bX,List.map_take];rfl
 simp only[M];have N:=Sc (l:=l) (cs:=cs.map nC) (by rw[c9,y]; simp; omega) (by
  rw[List.all_map,dK];intro c k;rw[bX]at k;have:c∈C4:=List.mem_of_mem_take k;have d:C4.all (fun c=>nv calls c)=true:=by kernel_rfl
  exact dK.1 d c this) (by omega:n<=14) n 0 [] [] 0 0 (0+1+1) 0 (by omega) (by omega) (by omega) (by omega) (by omega) (jv.nil _) (by exact lV.nil)
 refine aa.loop (N.to (by omega)) (by(first|rfl|assumption|(simp only[aB,sl]<;>omega))) ?_;rintro c g ⟨rfl,b,a7,I,rfl,h2,h3,d⟩;dsimp +instances only[gd,Aa,Ab,Ac,Ad,Ae,Af,Ag];simp only[a6];have O:cs.Pairwise (·≠·):=by
  rw[bX];refine alb ?_;have d:(decide (C4.Pairwise fun a b=>a.data.toList≠b.data.toList))=true:=by kernel_rfl
  exact(of_decide_eq_true d).imp fun h e=>h (by rw[e])
 have q:=Se (l:=l) (a:=b) cs [] a7 [] I (fun c _=>⟨d.eT c,kJ (d.get c).1 (by omega),(d.get c).2⟩) O rfl (by simp; omega);simp only[ll,j_,cP]at q;have U:((cs.map nC).length:Int)=(cs.length:Int):=by rw[c9]
 simp only[U];refine aa.loop (q.to (by omega)) (by(first|rfl|assumption|(simp only[aB,sl]<;>omega))) ?_;rintro c g ⟨rfl,L,rfl,q1,V⟩;dsimp +instances only[gd,Aa,Ab,Ac,Ad,Ae,Af,Ag];refine aa.pos (by simp) (aa.some ⟨b,L,m,rfl,by omega,by omega,by omega,by omega,by omega,fun i hi=>?_⟩);have:=V i (by omega)
 rwa [bX,cu,List.getElem?_take,iP hi,<-cu]at this
def AU(K:List Kd)(C:LG->Option LG)(d:LG):Option (Option Nat × LG) :=
 (bif (ax (gi d 3).iV (gi d 2).iV) then (bif ((aM (gi d 3).iV)&&(ax (gi d 3).iV (((gi d 0).rZ.length:Nat):Int))) then (aG (C [.l [(a8 K ((gi d 0).rZ.getD (((gi d 3).iV).toNat) []))],.l [(a8 [.str,.list K] (gi d 1).rV)]]) fun g=>(bif (gi g 0).bV then some (some 0,[.i (gi d 3).iV]) else (bif (aB ((gi d 3).iV+1)) then some (none,[.l (gi d 0).rZ,.l [(a8 [.str,.list K] (gi d 1).rV)],.i (gi d 2).iV,.i ((gi d 3).iV+1)]) else none))) else none) else some (some 1,[]))
def Sf(K:List Kd)(C:LG->Option LG)(d:LG):Option LG :=
 (aG (bh true (cn (AU K C) [.l (gi d 0).rZ,.l [(a8 [.str,.list K] (a8 [.str,.list K] (gi d 1).rV))],.i (((gi d 0).rZ.length:Nat):Int),.i 0]) fun g h=>(bif ar g 0 then some [.i (gi h 0).iV] else some [.i (-1)])) fun k=>some [.t (bC 0 (gi k 0).iV)])
def mF(c:BY)(L:LL):Bool:=L.any fun z=>(gi z 3).sV.toList==c.toList
section
variable {C:LG->Option LG} {c:BY} {A:LL} (hC:∀ z,dZ z->C [.l [z],.l [[.s c,.l A]]]=some [.t ((gi z 3).sV.toList==c.toList)])
include hC
theorem Sg:∀(q p:LL),(∀ z∈p++q,dZ z)->p.length+q.length<100000 ->
  aX (AU [.I,.I,.str,.str,.I,.I,.str,.str] C) [.l (p++q),.l [[.s c,.l A]],.i ((p.length+q.length:Nat):Int),.i (p.length:Int)] (q.length+1) fun x g=>(x=0/\mF c q=true/\∃ v:Int,0<=v/\g=[.i v])\/x=1/\mF c q=false
 | [],p,k,M=>by
  refine aX.stop (x:=1) (d':=[]) (aa.toEq ?_) (.inr ⟨rfl,rfl⟩);unfold AU;dsimp +instances only[gd,Aa,Ab,Ac,Ad,Ae,Af,Ag];(repeat first|refine aa.p ?_|refine aa.n ?_);exact aa.some rfl
 | x::q,p,k,M=>by
  simp only[cd]at M;have d:dZ x:=k x (by simp);have N:(p++x::q).getD (p.length:Int).toNat []=x:=np _ _ _ _ _ (by simp);have y:(p++x::q).length=p.length+q.length+1:=by simp; omega
  cases h:(gi x 3).sV.toList==c.toList with
  | true =>
   refine aX.stop (x:=0) (d':=[.i (p.length:Int)]) (aa.toEq ?_) (.inl ⟨rfl,by simp only[mF,uN,h,Bool.true_or],_,by omega,rfl⟩);unfold AU;dsimp +instances only[gd,Aa,Ab,Ac,Ad,Ae,Af,Ag];simp only[N,y,cd,d.eta];(repeat first|refine aa.p ?_|refine aa.n ?_);refine aa.cE (hC x d) ?_;dsimp +instances only[gd,Aa,Ab,Ac,Ad,Ae,Af,Ag];exact aa.pos h (aa.some rfl)
  | false =>
   have O:=Sg q (p++[x]) (by simpa using k) (by simp; omega);have U:(p++[x])++q=p++x::q:=by simp
   have V:(((p++[x]).length+q.length:Nat):Int)=((p.length+(x::q).length:Nat):Int):=by simp; omega
   have W:(((p++[x]).length:Nat):Int)=(p.length:Int)+1:=by simp
   rw[U,V,W]at O;have e4:mF c (x::q)=mF c q:=by simp only[mF,uN,h,Bool.false_or]
   rw[e4];refine aX.next (aa.toEq ?_) O
   unfold AU;dsimp +instances only[gd,Aa,Ab,Ac,Ad,Ae,Af,Ag];simp only[N,y,cd,d.eta];(repeat first|refine aa.p ?_|refine aa.n ?_);refine aa.cE (hC x d) ?_;dsimp +instances only[gd,Aa,Ab,Ac,Ad,Ae,Af,Ag];refine aa.neg h (aa.p (aa.some rfl))
theorem Si(L:LL)(h:∀ z∈L,dZ z)(k:L.length<100000):Sf [.I,.I,.str,.str,.I,.I,.str,.str] C [.l L,.l [[.s c,.l A]]]=some [.t (mF c L)]:=by
 refine aa.toEq ?_;unfold Sf;dsimp +instances only[gd,Aa,Ab,Ac,Ad,Ae,Af,Ag];have h1:=Sg hC L [] (by simpa using h) (by simpa using k);have h0:((0:Nat):Int)=0:=rfl;simp only[ll,j_,cP,h0]at h1;refine aa.call (P:=fun g=>∃ v:Int,g=[.i v]/\bC 0 v=mF c L) ?_ ?_
 ·refine aa.loop (h1.to (by omega)) (by (first|rfl|assumption|(simp only [aB,sl]<;>omega))) ?_
  rintro x g (⟨rfl,d,v,q,rfl⟩|⟨rfl,d⟩)
  ·exact aa.some ⟨v,rfl,by rw[d,eY]; exact dE q⟩
  ·exact aa.some ⟨-1,rfl,by rw[d]; rfl⟩
 ·rintro _ ⟨v, rfl, d⟩
  exact aa.some (congrArg (fun b=>[G.t b]) d)
end
def jY(c:BY)(L:LL):Int:=bif !jr c then 3 else bif lQ L != 0 then lQ L else bif mF c L then 6 else 0
theorem Je{c:BY}{L:LL}(h:jY c L=0):lQ L=0:=by
 unfold jY at h;cases h1:jr c with
 |false=>rw[h1]at h; cases h
 | true =>
  rw[h1]at h;cases d:lQ L != 0 with
  |false=>simpa using d
  | true =>
   rw[d]at h;simp only[Bool.not_true,cF,cT]at h;exact h
theorem Sj{c:BY}(h:c∈calls){L:LL}(d:∀ z∈L,dZ z)(g:L.length<100000):D7 [.l [[.s c,.l L]]]=some [.i (jY c L)]:=by
 refine aa.toEq ?_;unfold D7 jY;dsimp +instances only[gd,Aa,Ab,Ac,Ad,Ae,Af,Ag];refine aa.cE (IY h) ?_;dsimp +instances only[gd,Aa,Ab,Ac,Ad,Ae,Af,Ag];cases jr c with
 |false=>exact aa.some rfl
 | true =>
  refine aa.neg rfl ?_;refine aa.cE (ag9 L d g) ?_;dsimp +instances only[gd,Aa,Ab,Ac,Ad,Ae,Af,Ag];cases lQ L != 0 with
  |true=>exact aa.some rfl
  | false =>
   refine aa.neg rfl ?_;refine aa.call (aa.eq (Si (C:=D6) (c:=c) (A:=L) (fun z k=>by
    refine aa.toEq ?_;unfold D6;dsimp +instances only[gd,Aa,Ab,Ac,Ad,Ae,Af,Ag];exact aa.some rfl) L d g)) ?_
   rintro _ rfl;dsimp +instances only[gd,Aa,Ab,Ac,Ad,Ae,Af,Ag];cases mF c L<;>exact aa.some rfl
theorem nz.m{z:LG}(h:nz z):eU z:=by
 obtain⟨h,h0,h1⟩:=h;exact⟨h.eta,by unfold iX; omega,by unfold iX; omega⟩
def iJ(k:Nat):List Nat->Option Nat
 | []=>none
 |a::l=>bif a==k then some 0 else (iJ k l).map (·+1)
theorem Jf{k:Nat}:∀{l:List Nat},iJ k l=none↔k∉l
 | []=>by simp[iJ]
 | a::l=>by
  unfold iJ;cases h:a==k with
  |true=>simp at h; simp[h]
  | false =>
   simp at h;simp only[cF,Option.map_eq_none_iff,Jf,cq,not_or];exact⟨fun g=>⟨fun e=>h e.symm,g⟩,fun g=>g.2⟩
theorem EI{k:Nat}:∀{l:List Nat} {n:Nat},iJ k l=some n->n<l.length/\l.getD n 0=k
 | [],n,h=>by cases h
 | a::l,n,h=>by
  unfold iJ at h;cases e:a==k with
  | true =>
   rw[e]at h;cases h;simp at e;exact⟨by simp,by simpa using e⟩
  | false =>
   rw[e]at h;simp only[cF,Option.map_eq_some_iff]at h;obtain⟨m,h1,rfl⟩:=h;obtain⟨g,d⟩:=EI h1;exact⟨by simp; omega,by simpa using d⟩
theorem Jg{k:Nat}:∀{l:List Nat},k∉l->iJ k (l++[k])=some l.length
 | [],_=>by simp[iJ]
 | a::l,h=>by
  simp only[cq,not_or]at h;have e:(a==k)=false:=by simp; exact fun e=>h.1 e.symm
  show (bif a==k then some 0 else (iJ k (l++[k])).map (·+1))=_
  rw[e,Jg h.2];rfl
theorem AW(a b:Int):bq [.I] [.i a] [.i b]=decide (a=b):=by
 show ((a==b)&&true)=decide (a=b)
 rw[gW];exact Bool.beq_eq_decide_eq a b
def bA:Nat->List Nat->LL
 |_,[]=>[]
 |i,k::ks=>[.l [[.i (k:Int)]],.i (i:Int),.i (i:Int)]::bA (i+1) ks
theorem Sk:∀(i:Nat) (A B:List Nat),bA i (A++B)=bA i A++bA (i+A.length) B
 |i,[],B=>by simp[bA]
 | i,a::A,B=>by
  show _::bA (i+1) (A++B)=_::(bA (i+1) A++bA (i+(A.length+1)) B)
  rw[Sk (i+1) A B,show i+1+A.length=i+(A.length+1) by omega]
theorem Jh(k:Nat):∀(ks:List Nat) (i j:Nat),bU [.I] [.i (k:Int)] (bA i ks) j=(iJ k ks).map fun n=>(j+n,([.l [[.i (k:Int)]],.i ((i+n:Nat):Int),.i ((i+n:Nat):Int)]:LG))
 | [],_,_=>rfl
 | a::ks,i,j=>by
  have d:=Jh k ks (i+1) (j+1);have e:bq [.I] [.i (k:Int)] ((gi [.l [[.i (a:Int)]],.i (i:Int),.i (i:Int)] 0).rV)=(a==k):=by
   show bq [.I] [.i (k:Int)] [.i (a:Int)]=_
   rw[AW];by_cases h:a=k
   ·subst h; simp
   ·have g : ¬ (k : Int) = (a : Int) := fun e => h (by omega)
    simp[h,g]
  show (bif _ then some (j,_) else bU _ _ (bA (i+1) ks) (j+1))=_
  rw[e,d];show _=Option.map _ (bif a==k then some 0 else (iJ k ks).map (·+1))
  cases h:a==k with
  | true =>
   simp at h;subst h;rfl
  | false =>
   simp only[cF,Option.map_map];congr 1
   funext n
   simp only[Fk];rw[show j+1+n=j+(n+1) by omega,show i+1+n=i+(n+1) by omega]
theorem ahC(k:Nat)(ks:List Nat):eH [.I] (bA 0 ks) [.i (k:Int)]=(iJ k ks).isSome:=by
 unfold eH;rw[Jh,Option.isSome_map]
theorem EJ(k:Nat)(ks:List Nat):m_ [.I] (bA 0 ks) [.i (k:Int)]=iJ k ks:=by
 unfold m_;rw[Jh];cases h:iJ k ks with
 |none=>rfl
 | some n =>
  show (bif bC 0 ((0+n:Nat):Int) then some ((0+n:Nat):Int).toNat else none)=some n
  rw[eY,dE (by omega:(0:Int)<=((0+n:Nat):Int))];simp
theorem Ji(r:LG):∀(ks:List Nat) (i j c:Nat),i+ks.length<=c->gO (c:Int) (bA i ks++[r]) j=gO (c:Int) [r] (j+ks.length)
 | [],i,j,c,_=>rfl
 | a::ks,i,j,c,h=>by
  simp only[cd]at h;have d:=Ji r ks (i+1) (j+1) c (by omega);show (bif ((i:Int).toNat:Int)==(c:Int) then _ else gO (c:Int) (bA (i+1) ks++[r]) (j+1))=_
  have e:(((i:Int).toNat:Int)==(c:Int))=false:=by
   rw[a6];simp;omega
  rw[e,d,show j+1+ks.length=j+(ks.length+1) by omega];rfl
theorem Sl:∀(i:Nat) (ks:List Nat),(bA i ks).length=ks.length
 |_,[]=>rfl
 |i,_::ks=>by simp[bA,Sl (i+1) ks]
def xC(k c:Nat):LG:=[.l [[.i (k:Int)]],.i (-1),.i (c:Int)]
theorem Sn(k c j:Nat):gO (c:Int) [xC k c] j=some (j,xC k c):=by
 show (bif ((c:Int).toNat:Int)==(c:Int) then _ else _)=_
 rw[a6];simp
theorem ahD(k:Nat)(ks:List Nat):vK (bA 0 ks++[xC k ks.length]) (ks.length:Int)=true:=by
 unfold vK;rw[Ji _ _ _ _ _ (by omega),Sn];rfl
theorem ahE(k:Nat)(ks:List Nat):vL (bA 0 ks++[xC k ks.length]) (ks.length:Int) ks.length=bA 0 (ks++[k]):=by
 unfold vL;rw[Ji _ _ _ _ _ (by omega),Sn,Sk];show (bA 0 ks++[xC k ks.length]).set (0+ks.length) _=_
 rw[uq (bA 0 ks) _ _ [] _ (by rw[Sl,cP])];rw[cP];rfl
def iK(d:LG->LG × LG)(q:LL)(a:LL × Nat):LL × Nat :=
 q.foldl (fun a r=>(ew [.I] a.1 (d r).1 (d r).2 a.2,dG [.I] a.1 (d r).1 a.2)) a
def pD(a:LL × Nat):LG:=[.l a.1,.i (a.2:Int)]
def xD(r:LG):LG × LG:=([.i (gi r 0).iV],[.i (gi r 1).iV])
def AX(r:LG):LG × LG:=([.i (gi r 1).iV],[.t true])
def eG(p:LL):LG:=pD (iK xD p ([],0))
def ed(p:LL):LG:=pD (iK AX p ([],0))
theorem Sp(d:LG->LG × LG)(p:LL)(r:LG)(a:LL × Nat) :
  iK d (p++[r]) a=(ew [.I] (iK d p a).1 (d r).1 (d r).2 (iK d p a).2,dG [.I] (iK d p a).1 (d r).1 (iK d p a).2):=by
 unfold iK;rw[akD];rfl
theorem Sq(M:LL)(a:LL × Nat)(key val:LG) :
  vJ (M++[pD a]) (some M.length) [.I] key val=M++[pD (ew [.I] a.1 key val a.2,dG [.I] a.1 key a.2)]:=by
 unfold vJ;have e:kU (M++[pD a]) (some M.length)=pD a:=by
  show (M++[pD a]).getD M.length []=_
  rw[cu];simp
 rw[e];show (M++[pD a]).set M.length _=_
 rw[uq M _ _ [] _ rfl];show M++[[.l (ew [.I] a.1 key val (a.2:Int).toNat),.i ((dG [.I] a.1 key (a.2:Int).toNat:Nat):Int)]]=_
 rw[a6];rfl
theorem Sr(M:LL)(x:LG):oe (M++[x]) (some M.length)=true:=by
 show Nat.blt M.length (M++[x]).length=true
 simp
theorem Ss(d:LG->LG × LG)(key:LG):∀(q:LL) (a:LL × Nat),eH [.I] (iK d q a).1 key=(q.any (fun r=>bq [.I] key (d r).1)||eH [.I] a.1 key)
 | [],a=>rfl
 | r::q,a=>by
  show eH [.I] (iK d q (_,_)).1 key=_
  rw[Ss d key q];simp only[uN];rw[Ib];cases bq [.I] key (d r).1<;>cases eH [.I] a.1 key<;>simp
theorem Jj(d:LG->LG × LG)(key z:LG):∀(q:LL) (a:LL × Nat),(∃ r∈q,bq [.I] key (d r).1=true/\dn [.I] (iK d q a).1 key z=(d r).2) \/
  (∀ r∈q,bq [.I] key (d r).1=false)/\dn [.I] (iK d q a).1 key z=dn [.I] a.1 key z
 | [],a=>.inr ⟨fun _ h=>(by cases h),rfl⟩
 | r::q,a=>by
  show (∃ _,_/\_/\dn [.I] (iK d q (ew [.I] a.1 (d r).1 (d r).2 a.2,_)).1 key z=_)\/_/\dn [.I] (iK d q (ew [.I] a.1 (d r).1 (d r).2 a.2,_)).1 key z=_
  rcases Jj d key z q (ew [.I] a.1 (d r).1 (d r).2 a.2,dG [.I] a.1 (d r).1 a.2)with⟨s,h1,g,v⟩|⟨h1,g⟩
  ·exact .inl ⟨s,dj _ h1,g,v⟩
  ·rw [g, zM]
   cases e:bq [.I] key (d r).1 with
   |true=>exact .inl ⟨r,by simp,e,rfl⟩
   | false =>
    refine .inr ⟨fun s k=>?_,rfl⟩;rcases cq.1 k with rfl|k
    ·exact e
    ·exact h1 s k
structure AY (m i:Nat) (r:LL):Prop where
 len:r.length=m
 val:∀ j,j<m->∃ v:Int,r.getD j []=[.i v]/\0<=v/\v<=(i:Int)+(j:Int)
theorem AY.set{m i k:Nat}{r:LL}(h:AY m i r){v:Int}(h0:0<=v)(h1:v<=(i:Int)+(k:Int)):AY m i (r.set k [.i v]):=by
 refine⟨by rw[iv,h.len],fun j d=>?_⟩;by_cases e:k=j
 ·subst e
  refine⟨v,?_,h0,h1⟩;rw[cu,bB (by rw[h.len]; exact d)];rfl
 ·obtain ⟨w, g, q⟩ := h.val j d
  refine⟨w,?_,q⟩;rw[cu,List.getElem?_set_ne e,<-cu,g]
theorem AY.zero(m i:Nat):AY m i (cC m [.i 0]):=by
 refine⟨sK ..,fun j d=>⟨0,?_,x8 0,by omega⟩⟩;rw[cu,akC,iP d];rfl
def ahF(r:LG)(x:Nat)(g:LG):Prop:=x=0/\g=r
structure k_ (L:LL) (C:Nat->BY) (A:Nat->LL):Prop where
 get:∀ i,i<L.length->L.getD i []=[.s (C i),.l (A i)]
 n:L.length<=40
 jZ:∀ i,i<L.length->∀ z∈A i,eU z/\(gi z 3).sV.size<=100
 na:∀ i,i<L.length->(A i).length<=40
 cs:∀ i,i<L.length->(C i).size<=100
 uu:∀ i j,i<j->j<L.length->eP (C i) (C j)<0
theorem ahG:((fj 80).all fun n=>uV .u64 (IntKind.u64.wrap ((n:Nat):Int)) 1==((n / 2:Nat):Int))=true:=by kernel_rfl
theorem ahH(i j:Nat)(h:i+j<80):uV .u64 (IntKind.u64.wrap ((i:Int)+(j:Int))) 1=(((i+j) / 2:Nat):Int):=by
 have:=dK.1 ahG (i+j) (gH.2 h);rw[beq_iff_eq]at this;rw[<-this];congr 2
section
variable {L:LL} {C:Nat->BY} {A:Nat->LL} (S:k_ L C A)
include S
theorem k_.two{i k:Nat}(hi:i<L.length)(g:k<L.length):iI (A i) (A k) :=
 ⟨fun z d=>(S.jZ i hi z d).1,fun z d=>(S.jZ k g z d).1,by have:=S.na i hi; omega,by have:=S.na k g; omega⟩
theorem k_.mem{i j:Nat}(hi:i<L.length)(d:j<(A i).length):eU ((A i).getD j [])/\(gi ((A i).getD j []) 3).sV.size<=100 :=
 S.jZ i hi _ (by rw[cu,bY d]; exact uL d)
theorem k_.key{i:Nat}(hi:i<L.length):(gi (L.getD i []) 0).sV=C i:=by rw[S.get i hi]; rfl
theorem Jk(s:BY):∀(m i j:Nat),j<=i+m->i<=j->j<=L.length->(∀ t,t<i->eP (C t) s<0)->(∀ t,j<=t->t<L.length->¬ eP (C t) s<0) ->
  aX wQ [.l L,.s s,.i (L.length:Int),.i (i:Int),.i (j:Int)] (m+1) fun x g=>x=0/\∃ p:Nat,g=[.l L,.s s,.i (L.length:Int),.i (p:Int)]/\p<=L.length/\(∀ t,t<p->eP (C t) s<0)/\(∀ t,p<=t->t<L.length->¬ eP (C t) s<0)
 | m,i,j,hm,U,v,h1,y=>by
  have V:=S.n;by_cases he:i=j
  ·subst he
   refine aX.stop (x:=0) (aa.toEq ?_) ⟨rfl,i,rfl,v,h1,y⟩;unfold wQ;dsimp +instances only[gd,Aa,Ab,Ac,Ad,Ae,Af,Ag];exact aa.n (aa.some rfl)
  ·obtain ⟨m', rfl⟩ : ∃ m', m = m' + 1 := ⟨m - 1, by omega⟩
   have N:=ahH i j (by omega);have q:(i+j) / 2<L.length:=by omega
   have I:=S.get _ q;have step:∀ o,(bif ax (eP (C ((i+j) / 2)) s) 0 then some ((none:Option Nat),[G.l L,.s s,.i (L.length:Int),.i (((i+j) / 2+1:Nat):Int),.i (j:Int)]) else some (none,[.l L,.s s,.i (L.length:Int),.i (i:Int),.i (((i+j) / 2:Nat):Int)]))=some o ->
     wQ [.l L,.s s,.i (L.length:Int),.i (i:Int),.i (j:Int)]=some o:=fun o ho=>by
    refine aa.toEq ?_;unfold wQ;dsimp +instances only[gd,Aa,Ab,Ac,Ad,Ae,Af,Ag];simp only[N,a6,I];refine aa.p (aa.p (aa.p (aa.p ?_)));refine aa.call (P:=fun g=>g=[.i (eP (C ((i+j) / 2)) s)]) (aa.eq rfl) ?_;rintro _ rfl;dsimp +instances only[gd,Aa,Ab,Ac,Ad,Ae,Af,Ag];refine aa.test (fun h=>?_) fun h=>?_
    ·rw [h, cT] at ho
     refine aa.p (aa.some ?_);cases ho;rfl
    ·rw [h, cF] at ho
     refine aa.some ?_;cases ho;rfl
   by_cases d:eP (C ((i+j) / 2)) s<0
   ·refine aX.next (step _ (by rw [cB, dE d]; rfl)) (Jk s m' _ j (by omega) (by omega) v (fun t O => ?_) y)
    rcases l5 t ((i+j) / 2)with h|h
    ·exact Ew.tr _ _ _ (S.uu t _ h q) d
    ·rw [show t = (i + j) / 2 by omega]
     exact d
   ·refine aX.next (step _ (by rw [cB, decide_eq_false d]; rfl)) (Jk s m' i _ (by omega) (by omega) (by omega) h1 (fun t O M k => ?_))
    rcases l5 ((i+j) / 2) t with h|h
    ·exact d (Ew.tr _ _ _ (S.uu _ t h M) k)
    ·rw [show t = (i + j) / 2 by omega] at k
     exact d k
theorem Jl(s:BY):aa (zW [.l L,.s s]) fun g=>∃(p:Nat) (b:Bool),g=[.i (p:Int),.t b]/\(b=true->p<L.length/\C p=s)/\(b=false->∀ k,k<L.length->C k≠s):=by
 have O:=S.n;unfold zW;dsimp +instances only[gd,Aa,Ab,Ac,Ad,Ae,Af,Ag];refine aa.call (P:=fun g=>∃(p:Nat) (b:Bool),g=[.i (p:Int),.t b]/\(b=true->p<L.length/\C p=s)/\(b=false->∀ k,k<L.length->C k≠s)) ?_ ?_
 ·unfold IA
  dsimp +instances only[gd,Aa,Ab,Ac,Ad,Ae,Af,Ag];refine aa.loop ((Jk S s L.length 0 L.length (by omega) (by omega) (aQ _) (fun t I=>by omega) (fun t h1 d=>by omega)).to (by omega)) rfl ?_;rintro _ _ ⟨rfl,p,rfl,U,M,N⟩;dsimp +instances only[gd,Aa,Ab,Ac,Ad,Ae,Af,Ag];have v:∀ t,t<L.length->C t=s->t=p:=fun t I e=>by
   have h0:eP (C t) s=0:=rY.2 e;have h1:p<=t:=akH fun h=>by have:=M t h; omega
   refine Nat.le_antisymm (akH fun h=>?_) h1;have d:=S.uu p t h I;rw[e]at d;exact N p (aQ _) (by omega) d
  refine aa.test (fun h=>?_) fun h=>?_
  ·simp only [cB, dT] at h
   have y:p<L.length:=by omega
   simp only[a6,S.get p y];refine aa.p ?_;refine aa.call (P:=fun g=>g=[.i (eP (C p) s)]) (aa.eq rfl) ?_;rintro _ rfl;refine aa.some ⟨p,_,rfl,fun hb=>⟨y,?_⟩,fun hb k q e=>?_⟩
   ·have hb : (eP (C p) s == 0) = true := hb
    rw[beq_iff_eq]at hb;exact rY.1 hb
   ·have := v k q e
    subst this;have hb:(eP (C k) s==0)=false:=hb;rw[rY.2 e]at hb;cases hb
  ·simp only [cB, dF] at h
   exact aa.some ⟨p,false,rfl,fun hb=>(by cases hb),fun _ k q e=>by have:=v k q e; omega⟩
 ·rintro _ ⟨p, b, rfl, h⟩
  exact aa.some ⟨p,b,rfl,h⟩
end
def br(A:Nat->LL)(C:Nat->BY)(ab:Nat)(oF:Int)(k:Nat):LL:=jK (A ab) (A k) (C ab) (C k) oF
def lW(k:Nat)(ks:List Nat):List Nat:=match iJ k ks with
 |some _=>ks
 |none=>ks++[k]
theorem Su(k:Nat)(ks:List Nat):∃ n,iJ k (lW k ks)=some n:=by
 unfold lW;cases h:iJ k ks with
 |some n=>exact⟨n,h⟩
 |none=>exact⟨_,Jg (Jf.1 h)⟩
theorem Sv{L R1 R2 M T:LL}{ab oF k:Int}{c1 c2:Nat}(h1:m_ [.I] R1 [.i k]=some M.length)(d:m_ [.I] R2 [.i k]=some T.length):∀(q p:LL),p.length+q.length<=100000 ->
  aX Ai [.l L,.i ab,.i oF,.l R1,.l (M++[pD (iK xD p ([],0))]),.i (c1:Int),.l R2,.l (T++[pD (iK AX p ([],0))]),.i (c2:Int),.i k,.l (p++q),.i ((p.length+q.length:Nat):Int),.i (p.length:Int)] (q.length+1) fun x g =>
   x=0/\g=[.l L,.i ab,.i oF,.l R1,.l (M++[eG (p++q)]),.i (c1:Int),.l R2,.l (T++[ed (p++q)]),.i (c2:Int)]
 | [],p,h=>by
  refine aX.stop (x:=0) (aa.toEq ?_) ⟨rfl,rfl⟩;unfold Ai;dsimp +instances only[gd,Aa,Ab,Ac,Ad,Ae,Af,Ag];refine aa.n (aa.some ?_);rw[dJ];rfl
 | r::q,p,h=>by
  simp only[cd]at h;have v:=Sv (L:=L) (ab:=ab) (oF:=oF) (c1:=c1) (c2:=c2) h1 d q (p++[r]) (by simp; omega);have y:(p++r::q).getD (p.length:Int).toNat []=r:=np _ _ _ _ _ (by simp);rw[a6]at y;have N:(p++r::q).length=p.length+q.length+1:=by simp; omega
  have O:(p++[r])++q=p++r::q:=by simp
  have U:(((p++[r]).length+q.length:Nat):Int)=((p.length+(r::q).length:Nat):Int):=by simp; omega
  have V:(((p++[r]).length:Nat):Int)=(p.length:Int)+1:=by simp
  rw[O,U,V]at v;refine aX.next (aa.toEq ?_) v
  unfold Ai;dsimp +instances only[gd,Aa,Ab,Ac,Ad,Ae,Af,Ag];simp only[y,N,cd,a6,h1,d];refine aa.p (aa.p (aa.pos rfl (aa.pos (Sr _ _) (aa.pos rfl (aa.pos (Sr _ _) (aa.p (aa.some ?_)))))));rw[Sq,Sq,Sp,Sp];rfl
section
variable {L:LL} {C:Nat->BY} {A:Nat->LL} (S:k_ L C A) {ab:Nat} (ho:ab<L.length) (oF:Int)
include S ho
theorem Sw{k:Nat}(d:k<L.length)(ks:List Nat):Aj [G.l L,.i (ab:Int),.i oF,.l (bA 0 ks),.l (ks.map fun k=>eG (br A C ab oF k)),.i ((ks.length:Nat):Int),.l (bA 0 ks),.l (ks.map fun k=>ed (br A C ab oF k)),.i ((ks.length:Nat):Int),.i (k:Int)]=some [G.l L,.i (ab:Int),.i oF,.l (bA 0 (lW k ks)),.l ((lW k ks).map fun k=>eG (br A C ab oF k)),.i (((lW k ks).length:Nat):Int),.l (bA 0 (lW k ks)),.l ((lW k ks).map fun k=>ed (br A C ab oF k)),.i (((lW k ks).length:Nat):Int)]:=by
 refine aa.toEq ?_;unfold Aj;dsimp +instances only[gd,Aa,Ab,Ac,Ad,Ae,Af,Ag];simp only[EJ,ahC,a6];unfold lW;cases h:iJ k ks with
 |some n=>exact aa.pos rfl (aa.some rfl)
 | none =>
  have g:=ahD k ks;have q:=ahE k ks;unfold xC at g q;refine aa.pos rfl (aa.neg rfl (aa.pos rfl (aa.pos g (aa.pos rfl (aa.pos g (aa.p (aa.p ?_)))))));simp only[S.get ab ho,S.get k d];refine aa.cE (ahv (S.two ho d) (C ab) (C k) oF) ?_;dsimp +instances only[gd,Aa,Ab,Ac,Ad,Ae,Af,Ag];simp only[c9];rw[q];have hb:=R7 (S.two ho d) (C ab) (C k) oF;have N:=S.na ab ho;have v:m_ [.I] (bA 0 (ks++[k])) [.i (k:Int)]=some ks.length:=by rw[EJ]; exact Jg (Jf.1 h)
  have y:=Sv (L:=L) (ab:=(ab:Int)) (oF:=oF) (k:=(k:Int)) (R1:=bA 0 (ks++[k])) (R2:=bA 0 (ks++[k])) (M:=ks.map fun k=>eG (br A C ab oF k)) (T:=ks.map fun k=>ed (br A C ab oF k)) (c1:=ks.length+1) (c2:=ks.length+1)
   (by rw[c9]; exact v) (by rw[c9]; exact v) (br A C ab oF k) [] (by unfold br; simp; omega)
  simp only[ll,j_,cP]at y;refine aa.loop (y.to (by unfold br; omega)) rfl ?_;rintro _ _ ⟨rfl,rfl⟩;dsimp +instances only[gd,Aa,Ab,Ac,Ad,Ae,Af,Ag];refine aa.some ?_;simp only[a6,jM,dx,uK,fX,List.length_singleton]
def jx(x y:LG):Bool:=(gi x 4).iV==(gi y 5).iV&&(gi x 6).sV.toList==(gi y 7).sV.toList
omit S ho in
theorem Sx(x y:LG):Ak [.l [x],.l [y]]=some [.t (jx x y)]:=by
 refine aa.toEq ?_;unfold Ak jx;dsimp +instances only[gd,Aa,Ab,Ac,Ad,Ae,Af,Ag];refine aa.test (fun h=>aa.some ?_) fun h=>aa.some ?_<;>rw[h]<;>rfl
end
theorem Sy(f:Nat->LG){ks:List Nat}{n k:Nat}(h:iJ k ks=some n):kU (ks.map f) (some n)=f k:=by
 obtain⟨h1,d⟩:=EI h;show (ks.map f).getD n []=_
 rw[cu,bW];rw[cu]at d;rw[bY h1]at d|-;simp only[oJ]at d;simp only[e_,oJ,d]
theorem ahI(f:Nat->LG){ks:List Nat}{n k:Nat}(h:iJ k ks=some n):oe (ks.map f) (some n)=true:=by
 obtain⟨h1,d⟩:=EI h;show Nat.blt n (ks.map f).length=true
 rw[c9];simpa using h1
section
variable {L:LL} {C:Nat->BY} {A:Nat->LL} (S:k_ L C A)
include S
theorem k_.inj{i j:Nat}(hi:i<L.length)(g:j<L.length)(h:C i=C j):i=j:=by
 rcases J_ i j with d|d|d
 ·have := S.uu i j d g
  rw[rY.2 h]at this;omega
 ·exact d
 ·have := S.uu j i d hi
  rw[rY.2 h.symm]at this;omega
end
section
variable {L:LL} {C:Nat->BY} {A:Nat->LL} (S:k_ L C A) {ab:Nat} (ho:ab<L.length) (oF:Int)
include S ho
theorem ahJ{k:Nat}(q:k<L.length)(i:Nat):(eH [.I] (iK xD (br A C ab oF k) ([],0)).1 [.i (i:Int)]=true->∃ j:Nat,j<(A k).length/\[G.i (i:Int),.i (j:Int)]∈br A C ab oF k/\dn [.I] (iK xD (br A C ab oF k) ([],0)).1 [.i (i:Int)] [.i 0]=[.i (j:Int)]) /\
  (eH [.I] (iK xD (br A C ab oF k) ([],0)).1 [.i (i:Int)]=false->∀ j:Nat,[G.i (i:Int),.i (j:Int)]∉br A C ab oF k):=by
 have v:∀ r∈br A C ab oF k,∃ a b:Nat,r=[.i (a:Int),.i (b:Int)]/\b<(A k).length:=fun r y=>by
  obtain⟨a,b,h1,_,d,_⟩:=sc (S.two ho q) y;exact⟨a,b,h1,d⟩
 rw[Ss,Og,oL];constructor
 ·intro h
  rcases Jj xD [.i (i:Int)] [.i 0] (br A C ab oF k) ([],0)with⟨r,h1,d,g⟩|⟨h1,_⟩
  ·obtain ⟨a, b, rfl, hb⟩ := v r h1
   have d:bq [.I] [.i (i:Int)] [.i (a:Int)]=true:=d;rw[AW,dT]at d;have:i=a:=by omega
   subst this;exact⟨b,hb,h1,g⟩
  ·obtain ⟨r, d, g⟩ := lq.1 h
   rw[h1 r d]at g;cases g
 ·intro h j M
  have:=List.any_eq_false.1 h _ M;apply this;show bq [.I] [.i (i:Int)] [.i (i:Int)]=true
  rw[AW];simp
end
theorem Sz{r:LG}:iH r=0↔d_ (gi r 0).iV 0 345686399999=true/\d_ (gi r 1).iV 1 3=true/\pr (gi r 2).sV=true/\jr (gi r 3).sV=true/\d_ (gi r 4).iV 0 99999=true/\d_ (gi r 5).iV 0 99999=true /\
  pt (gi r 6).sV=true/\pt (gi r 7).sV=true:=by
 unfold iH;generalize d_ (gi r 0).iV 0 345686399999=d;generalize d_ (gi r 1).iV 1 3=g;generalize pr (gi r 2).sV=h;generalize jr (gi r 3).sV=k;generalize d_ (gi r 4).iV 0 99999=q;generalize d_ (gi r 5).iV 0 99999=v;generalize pt (gi r 6).sV=y;generalize pt (gi r 7).sV=I;cases d<;>cases g<;>cases h<;>cases k<;>cases q<;>cases v<;>cases y<;>cases I<;>simp
theorem SA:∀{l:LL} {o:Option LG},jt o l=0->∀ x∈l,iH x=0
 | [],_,_,_,h=>by cases h
 | y::q,o,h,x,d=>by
  have key:iH y=0/\jt (some y) q=0:=by
   cases o with
   | none =>
    simp only[jt]at h;split at h
    ·contradiction
    ·rename_i h1
     exact⟨by simpa using h1,h⟩
   | some z =>
    simp only[jt]at h;split at h
    ·contradiction
    ·rename_i h1
     split at h
     ·cases h
     ·exact⟨by simpa using h1,h⟩
  rcases cq.1 d with rfl|d
  ·exact key.1
  ·exact SA key.2 x d
theorem Jm{l:LL}(h:lQ l=0):∀ x∈l,iH x=0:=by
 unfold lQ at h;split at h
 ·cases h
 ·exact SA h
structure sk (L:LL) (C:Nat->BY) (A:Nat->LL):Prop where
 get:∀ i,i<L.length->L.getD i []=[.s (C i),.l (A i)]
 n:L.length<=40
 jZ:∀ i,i<L.length->∀ z∈A i,dZ z
 na:∀ i,i<L.length->(A i).length<=40
 call:∀ i,i<L.length->C i∈calls
 uu:∀ i j,i<j->j<L.length->eP (C i) (C j)<0
 less:∀ i,0<i->i<L.length->(Op.bytesLess (C i).toList (C (i-1)).toList||((C i).toList==(C (i-1)).toList))=false
 fault:∀ i,i<L.length->jY (C i) (A i)=0
theorem SB{c:BY}(h:c∈calls):c.size<=100:=by
 have d:calls.all (fun c=>eh c.size 100)=true:=by kernel_rfl
 simpa using dK.1 d c h
section
variable {L:LL} {C:Nat->BY} {A:Nat->LL} (R:sk L C A)
include R
theorem sk.ahK{i:Nat}(hi:i<L.length):∀ z∈A i,dZ z/\iH z=0:=fun z d=>⟨R.jZ i hi z d,Jm (Je (R.fault i hi)) z d⟩
theorem sk.xE:k_ L C A:=by
 refine⟨R.get,R.n,fun i hi z g=>?_,R.na,fun i hi=>SB (R.call i hi),R.uu⟩;obtain⟨h1,k⟩:=R.ahK hi z g;have d:=(Sz.1 k).1;unfold d_ at d;simp only[eY,aL,dT]at d;refine⟨⟨h1.eta,?_,?_⟩,?_⟩
 ·unfold iX; omega
 ·unfold iX; omega
 ·obtain ⟨t, m, b, c, s, h, x, y, rfl, _, _, _, _, _, q, _⟩ := h1
  exact SB q
end
def iY:List (Nat × Nat)->List (Nat × Nat)->Int
 | [],[]=>0
 | [],_::_ => -1
 |_::_,[]=>1
 |a::l,b::l'=>if a.1<b.1 then -1 else if b.1<a.1 then 1 else if a.2<b.2 then -1 else if b.2<a.2 then 1 else iY l l'
theorem SC:∀ l,iY l l=0
 | []=>rfl
 |a::l=>by simp[iY,SC l]
theorem SD{a b:Nat × Nat}{l l':List (Nat × Nat)}(h:a.1<b.1):iY (a::l) (b::l') = -1:=by rw[iY,iP h]
theorem SE{a b:Nat × Nat}{l l':List (Nat × Nat)}(h:a.1<b.1\/a.1=b.1/\a.2<b.2):iY (a::l) (b::l') = -1:=by
 rcases h with h|⟨h1,d⟩
 ·exact SD h
 ·rw[iY,iN (by omega),iN (by omega),iP d]
abbrev Jn:=List (Nat × Nat) × Int
def iZ(x y:Jn):Bool:=if x.1.length=y.1.length then (if x.2=y.2 then decide (iY x.1 y.1<0) else decide (x.2<y.2)) else decide (y.1.length<x.1.length)
def iq(n m:Nat)(ok:Nat->Nat->Bool)(ap:Nat->Nat->Int)(i k:Nat):Jn :=
 if h:i<n/\k<m then
  let one:=if iZ (iq n m ok ap i (k+1)) (iq n m ok ap (i+1) k)=true then iq n m ok ap i (k+1) else iq n m ok ap (i+1) k
  let o:Jn:=((i,k)::(iq n m ok ap (i+1) (k+1)).1,(iq n m ok ap (i+1) (k+1)).2+ap i k)
  if ok i k=true then (if iZ o one=true then o else one) else one
 else ([],0)
termination_by (n-i)+(m-k)
theorem Jo{n m:Nat}{ok:Nat->Nat->Bool}{ap:Nat->Nat->Int}{i k:Nat}(h:n<=i\/m<=k):iq n m ok ap i k=([],0):=by
 rw[iq,dif_neg (by omega)]
theorem SF{n m:Nat}{ok:Nat->Nat->Bool}{ap:Nat->Nat->Int}{i k:Nat}(hi:i<n)(d:k<m) :
  iq n m ok ap i k=(let one:=if iZ (iq n m ok ap i (k+1)) (iq n m ok ap (i+1) k)=true then iq n m ok ap i (k+1) else iq n m ok ap (i+1) k
   let o:Jn:=((i,k)::(iq n m ok ap (i+1) (k+1)).1,(iq n m ok ap (i+1) (k+1)).2+ap i k)
   if ok i k=true then (if iZ o one=true then o else one) else one):=by
 rw[iq,dif_pos ⟨hi,d⟩]
def oD(x:Jn):Int:=10000000000*(x.1.length:Int)-x.2
theorem EK{x y:Jn}(k:0<=x.2/\x.2<10000000000)(q:0<=y.2/\y.2<10000000000):iZ x y=true↔oD y<oD x\/oD y=oD x/\iY x.1 y.1<0:=by
 unfold iZ oD;split
 ·rename_i h
  rw[h];split
  ·rename_i g
   rw[g,dT];constructor
   ·intro d; exact .inr ⟨rfl,d⟩
   ·rintro (d | d)
    ·omega
    ·exact d.2
  ·rw [dT]
   constructor
   ·intro d; left; omega
   ·rintro(d|⟨d,_⟩)<;>omega
 ·rw [dT]
  constructor
  ·intro d; left; omega
  ·rintro(d|⟨d,_⟩)<;>omega
def eV(ap:Nat->Nat->Int):List (Nat × Nat)->Int
 | []=>0
 |x::l=>eV ap l+ap x.1 x.2
structure xF (n m:Nat) (ok:Nat->Nat->Bool) (w ap:Nat->Nat->Int):Prop where
 sn:n<=1000
 wo:∀ i k,i<n->k<m->ok i k=true->w i k=10000000000-ap i k/\0<=ap i k/\ap i k<=3600000
section
variable {F:Nat->Nat->Int} {n m:Nat} {ok:Nat->Nat->Bool} {w ap:Nat->Nat->Int}
theorem AZ:∀(t i f:Nat),(bz F m ok w t i f).length<=t
 |0,_,_=>aQ _
 | t+1,i,f=>by
  rw[bz];split
  ·rw[cd]; exact Bv (AZ t _ _)
  ·exact Ka (AZ t _ _)
theorem sq(h:eZ F n m ok w)(W:xF n m ok w ap):∀(t i f:Nat),n-i=t ->
  F i f=10000000000*((bz F m ok w t i f).length:Int)-eV ap (bz F m ok w t i f)/\0<=eV ap (bz F m ok w t i f)/\eV ap (bz F m ok w t i f)<=3600000*((bz F m ok w t i f).length:Int)
 | 0,i,f,g=>by
  rw[h.mD i f (.inl (by omega)),bz];simp[eV]
 | t+1,i,f,g=>by
  have hi:i<n:=by omega
  cases d:fV (gf F ok w (F i f) i) f (m-f)with
  | none =>
   have e:=Ex h hi fun q h1 y=>xp d q h1 (by omega);rw[qu d,e];exact sq h W t (i+1) f (by omega)
  | some q =>
   obtain⟨I,M,k,_⟩:=r7 d;obtain⟨o1,o2⟩:=uo.1 k;obtain⟨v,N,O⟩:=W.wo i q hi (by omega) o1;obtain⟨r1,r2,r3⟩:=sq h W t (i+1) (q+1) (by omega);rw[nw d,<-o2,r1,v,cd];simp only[eV];refine⟨?_,?_,?_⟩<;>omega
theorem xG(h:eZ F n m ok w)(W:xF n m ok w ap){t i f:Nat}(d:n-i=t):0<=eV ap (bz F m ok w t i f)/\eV ap (bz F m ok w t i f)<10000000000:=by
 obtain⟨_,g,k⟩:=sq h W t i f d;have q:=AZ (F:=F) (m:=m) (ok:=ok) (w:=w) t i f;have:=W.sn;exact⟨g,by omega⟩
theorem SG(h:eZ F n m ok w)(W:xF n m ok w ap){t i f t' d f':Nat}(k:n-i=t)(g:n-d=t')(e:F i f=F d f'):(bz F m ok w t i f).length=(bz F m ok w t' d f').length:=by
 obtain⟨h1,_⟩:=sq h W t i f k;obtain⟨q,_⟩:=sq h W t' d f' g;have v:=xG h W (f:=f) k;have y:=xG h W (f:=f') g;omega
theorem SH(h:eZ F n m ok w)(W:xF n m ok w ap):∀(t i k:Nat),n-i=t->k<m->F i k=F i (k+1)->¬ iY (bz F m ok w t i (k+1)) (bz F m ok w t i k)<0
 |0,i,k,_,_,_=>by rw[bz,bz]; simp[iY]
 | t+1,i,k,N,U,he=>by
  have hi:i<n:=by omega
  obtain⟨r,hr⟩:∃ r,m-k=r+1:=⟨m-k-1,by omega⟩
  have hr2:m-(k+1)=r:=by omega
  have I:=SG h W N N he;cases d:fV (gf F ok w (F i k) i) k (m-k)with
  | some q =>
   obtain⟨q1,q2,V,q4⟩:=r7 d;by_cases e:q=k
   ·subst e
    rw[nw d]at I|-;cases M:bz F m ok w (t+1) i (q+1)with
    |nil=>rw[M]at I; simp at I
    | cons b l' =>
     obtain⟨b1,_,b3,_,_⟩:=qv (F:=F) (m:=m) (ok:=ok) (w:=w) (t+1) i (q+1) b (by rw[M]; exact cW);rw[iY];simp only[];by_cases hb:i<b.1
     ·rw [iN (by omega), iP hb]
      decide
     ·rw [iN (by omega), iN hb, iN (by omega), iP (by omega)]
      decide
   ·have g:fV (gf F ok w (F i (k+1)) i) (k+1) (m-(k+1))=some q:=by
     rw[<-he];exact I1 (by omega) (by omega) V fun y h1 v=>q4 y (by omega) v
    rw[nw d,nw g,SC]
    decide
  | none =>
   have O:=xp d;have g:fV (gf F ok w (F i (k+1)) i) (k+1) (m-(k+1))=none:=by
    rw[<-he];exact ahc fun y h1 v=>O y (by omega) (by omega)
   have e1:=Ex h hi fun q h1 v=>O q h1 (by omega);have e2:=Ex h hi fun q h1 v=>xp g q h1 (by omega);rw[qu d,qu g];exact SH h W t (i+1) k (by omega) U (by omega)
theorem EL(h:eZ F n m ok w)(W:xF n m ok w ap):∀(s i k:Nat),(n-i)+(m-k)<=s->iq n m ok ap i k=(bz F m ok w (n-i) i k,eV ap (bz F m ok w (n-i) i k))
 | s,i,k,hs=>by
  by_cases hik:i<n/\k<m
  case neg =>
   rw[Jo (by omega)];have:bz F m ok w (n-i) i k=[]:=by
    by_cases hi:i<n
    ·have U : m <= k := by omega
     have key:∀ t i,bz F m ok w t i k=[]:=by
      intro t
      induction t with
      |zero=>intro i; rfl
      | succ t ih =>
       intro i;rw[qu (by rw[show m-k=0 from by omega]; rfl)];exact ih (i+1)
     exact key _ _
    ·rw [show n - i = 0 from by omega]
     rfl
   rw[this];rfl
  case pos =>
   obtain⟨hi,U⟩:=hik;cases s with
   |zero=>omega
   | succ s =>
    obtain⟨t,V⟩:∃ t,n-i=t+1:=⟨n-i-1,by omega⟩
    have M:n-(i+1)=t:=by omega
    have iA:=EL h W s (i+1) k (by omega);have iB:=EL h W s i (k+1) (by omega);have iC:=EL h W s (i+1) (k+1) (by omega);rw[M]at iA iC;rw[V]at iB|-;rw[SF hi U,iA,iB,iC];simp only[];have vA:=sq h W t (i+1) k M;have vB:=sq h W (t+1) i (k+1) V;have vC:=sq h W t (i+1) (k+1) M;have sA:=xG h W (f:=k) M;have sB:=xG h W (f:=k+1) V;have sC:=xG h W (f:=k+1) M;have mA:=h.down i k;have mB:=h.right i k;have hone:∀ one:Jn,one=(if iZ (bz F m ok w (t+1) i (k+1),eV ap (bz F m ok w (t+1) i (k+1))) (bz F m ok w t (i+1) k,eV ap (bz F m ok w t (i+1) k))=true then (bz F m ok w (t+1) i (k+1),eV ap (bz F m ok w (t+1) i (k+1))) else (bz F m ok w t (i+1) k,eV ap (bz F m ok w t (i+1) k))) ->
      (one=(bz F m ok w (t+1) i (k+1),eV ap (bz F m ok w (t+1) i (k+1)))\/one=(bz F m ok w t (i+1) k,eV ap (bz F m ok w t (i+1) k)))/\oD one=max (F (i+1) k) (F i (k+1)):=by
     intro one he;have hb:=EK (x:=(bz F m ok w (t+1) i (k+1),eV ap (bz F m ok w (t+1) i (k+1)))) (y:=(bz F m ok w t (i+1) k,eV ap (bz F m ok w t (i+1) k))) sB sA;unfold oD at hb|-;simp only[<-vA.1,<-vB.1]at hb;rw[he];split
     ·rename_i h1
      refine⟨.inl rfl,?_⟩;simp only[<-vB.1];rcases hb.1 h1 with v|v<;>omega
     ·rename_i h1
      refine⟨.inr rfl,?_⟩;simp only[<-vA.1];have:¬ F (i+1) k<F i (k+1):=fun v=>h1 (hb.2 (.inl v));omega
    generalize hO:(if iZ (bz F m ok w (t+1) i (k+1),eV ap (bz F m ok w (t+1) i (k+1))) (bz F m ok w t (i+1) k,eV ap (bz F m ok w t (i+1) k))=true then (bz F m ok w (t+1) i (k+1),eV ap (bz F m ok w (t+1) i (k+1))) else (bz F m ok w t (i+1) k,eV ap (bz F m ok w t (i+1) k)):Jn)=one;obtain⟨ho,hv⟩:=hone one hO.symm;have so:0<=one.2/\one.2<10000000000:=by rcases ho with rfl|rfl<;>assumption
    have hst:=h.step i k hi U;have hl:=AZ (F:=F) (m:=m) (ok:=ok) (w:=w) t (i+1) (k+1);have hn0:=W.sn;have hvC:ok i k=true->oD ((i,k)::bz F m ok w t (i+1) (k+1),eV ap (bz F m ok w t (i+1) (k+1))+ap i k)=w i k+F (i+1) (k+1)/\0<=eV ap (bz F m ok w t (i+1) (k+1))+ap i k/\eV ap (bz F m ok w t (i+1) (k+1))+ap i k<10000000000:=fun O=>by
     obtain⟨w1,w2,w3⟩:=W.wo i k hi U O;refine⟨?_,by omega,by omega⟩;unfold oD;simp only[cd];omega
    have hC:gf F ok w (F i k) i k=false->(if ok i k=true then (if iZ ((i,k)::bz F m ok w t (i+1) (k+1),eV ap (bz F m ok w t (i+1) (k+1))+ap i k) one=true then ((i,k)::bz F m ok w t (i+1) (k+1),eV ap (bz F m ok w t (i+1) (k+1))+ap i k) else one) else one)=one:=fun hk0=>by
     split
     ·rename_i O
      obtain⟨c1,c2,c3⟩:=hvC O;rw[iP O]at hst;have hne:w i k+F (i+1) (k+1)≠F i k:=fun e=>by rw[uo.2 ⟨O,e⟩]at hk0; cases hk0
      rw[iN];intro hb;have hb:=(EK (x:=((i,k)::bz F m ok w t (i+1) (k+1),eV ap (bz F m ok w t (i+1) (k+1))+ap i k)) (y:=one) ⟨c2,c3⟩ so).1 hb;rw[c1,hv]at hb;rcases hb with hb|⟨hb,_⟩<;>omega
     ·rfl
    have N:=EK (x:=(bz F m ok w (t+1) i (k+1),eV ap (bz F m ok w (t+1) i (k+1)))) (y:=(bz F m ok w t (i+1) k,eV ap (bz F m ok w t (i+1) k))) sB sA;unfold oD at N;simp only[<-vA.1,<-vB.1]at N;cases I:fV (gf F ok w (F i k) i) k (m-k)with
    | none =>
     have hn:=xp I;have eA:=Ex h hi fun q h1 v=>hn q h1 (by omega);rw[hC (hn k (aQ _) (by omega)),qu I];by_cases hb:iZ (bz F m ok w (t+1) i (k+1),eV ap (bz F m ok w (t+1) i (k+1))) (bz F m ok w t (i+1) k,eV ap (bz F m ok w t (i+1) k))=true
     ·exfalso
      rcases N.1 hb with h1|⟨h1,v⟩
      ·omega
      ·have := SH h W (t + 1) i k V U (by omega)
       rw[qu I]at this;exact this v
     ·rw [iN hb] at hO
      exact hO.symm
    | some q =>
     obtain⟨q1,q2,q3,q4⟩:=r7 I;obtain⟨o1,o2⟩:=uo.1 q3;by_cases e:q=k
     ·subst e
      obtain⟨c1,c2,c3⟩:=hvC o1;rw[iP o1,nw I,iP]
      ·rfl
      ·refine (EK (x := ((i, q) :: bz F m ok w t (i + 1) (q + 1), eV ap (bz F m ok w t (i + 1) (q + 1)) + ap i q)) (y := one) ⟨c2, c3⟩ so).2 ?_
       rw[c1,hv];by_cases hlt:max (F (i+1) q) (F i (q+1))<w i q+F (i+1) (q+1)
       ·exact .inl hlt
       ·right
        have hval:max (F (i+1) q) (F i (q+1))=w i q+F (i+1) (q+1):=by omega
        refine⟨hval,?_⟩;have d:one.1.length=(bz F m ok w t (i+1) (q+1)).length+1:=by
         rw[<-hv]at hval;unfold oD at hval c1;simp only[cd]at c1;omega
        rcases ho with e|e
        ·rw [e] at d |-
         simp only[]at d|-;cases g:bz F m ok w (t+1) i (q+1)with
         |nil=>rw[g]at d; simp at d
         | cons b l' =>
          obtain⟨b1,_,b3,_,_⟩:=qv (F:=F) (m:=m) (ok:=ok) (w:=w) (t+1) i (q+1) b (by rw[g]; exact cW);rw[SE (by simp only[]; omega)]
          decide
        ·rw [e] at d |-
         simp only[]at d|-;cases g:bz F m ok w t (i+1) q with
         |nil=>rw[g]at d; simp at d
         | cons b l' =>
          obtain⟨b1,_,b3,_,_⟩:=qv (F:=F) (m:=m) (ok:=ok) (w:=w) t (i+1) q b (by rw[g]; exact cW);rw[SE (by simp only[]; omega)]
          decide
     ·have hk0 := q4 k (aQ _) (by omega)
      rw[hC hk0];have tk:=h.take (i:=i) (k:=k+1) (aQ i) (show k+1<=q by omega) hi (by omega) o1;have eB:F i k=F i (k+1):=by omega
      have hq2:fV (gf F ok w (F i (k+1)) i) (k+1) (m-(k+1))=some q:=by
       rw[<-eB];exact I1 (by omega) (by omega) q3 fun y h1 v=>q4 y (by omega) v
      rw[nw I] ;rw[nw hq2]at hO N;rw[<-hO,iP];refine N.2 ?_;by_cases hlt:F (i+1) k<F i (k+1)
      ·exact .inl hlt
      ·right
       refine⟨by omega,?_⟩;have d:=SG h W (f:=k) (f':=k) M V (by omega);rw[nw I]at d;cases g:bz F m ok w t (i+1) k with
       |nil=>rw[g]at d; simp at d
       | cons b l' =>
        obtain⟨b1,_,_,_,_⟩:=qv (F:=F) (m:=m) (ok:=ok) (w:=w) t (i+1) k b (by rw[g]; exact cW);rw[SD (by simp only[]; omega)]
        decide
end
theorem SI{p q:LG}(d:eU p)(g:eU q):Aq [.i (gi p 0).iV,.i (gi q 0).iV]=some [.i (ju p q)]:=by
 obtain⟨_,h1,h⟩:=d;obtain⟨_,k,v⟩:=g;unfold iX at h1 h k v;refine aa.toEq ?_;unfold Aq ju iX;dsimp +instances only[gd,Aa,Ab,Ac,Ad,Ae,Af,Ag];exact aa.pos (c6.2 ⟨by omega,by omega⟩) (aa.pos (c6.2 ⟨by omega,by omega⟩) (aa.some rfl))
theorem SJ(oF:Int){p q:LG}(d:eU p)(g:eU q):Ar [.l [p],.l [q],.i oF]=some [.t (jV oF p q)]:=by
 refine aa.toEq ?_;unfold Ar jV;dsimp +instances only[gd,Aa,Ab,Ac,Ad,Ae,Af,Ag];refine aa.test (fun h=>?_) fun h=>?_
 ·have h : ((jU p).toList == (jU q).toList) = true := h
  rw[h];refine aa.test (fun h=>?_) fun h=>?_
  ·have h : (mE p == mE q) = true := h
   rw[h];refine aa.cE (SI d g) ?_;exact aa.some rfl
  ·have h : (mE p == mE q) = false := h
   rw[h];exact aa.some rfl
 ·have h : ((jU p).toList == (jU q).toList) = false := h
  rw[h];exact aa.some rfl
def qx(a b c d:Int):Int:=if fH a c=0 then fH b d else fH a c
theorem ahL(a b c d:Int):Ed [.l [[.i a],[.i b]],.l [[.i c],[.i d]]]=some [.i (qx a b c d)]:=by
 have s0:∀ x,fH a c=x->aa (qs [.l [[.i a],[.i b]],.l [[.i c],[.i d]],.l [[.i a],[.i b]],.i 2,.i 0]) fun o=>o=if x=0 then (none,[.l [[.i a],[.i b]],.l [[.i c],[.i d]],.l [[.i a],[.i b]],.i 2,.i 1]) else (some 0,[.i x]):=fun x k=>by
  unfold qs;dsimp +instances only[gd,Aa,Ab,Ac,Ad,Ae,Af,Ag];refine aa.pos rfl (aa.pos rfl (aa.neg rfl (aa.pos rfl ?_)));refine aa.cE (Ev a c) ?_;dsimp +instances only[gd,Aa,Ab,Ac,Ad,Ae,Af,Ag];rw[k];by_cases e:x=0
  ·rw [iP e]
   exact aa.neg (by simp[e]) (aa.pos rfl (aa.some rfl))
  ·rw [iN e]
   exact aa.pos (by simpa using e) (aa.some rfl)
 have s1:∀ x,fH b d=x->aa (qs [.l [[.i a],[.i b]],.l [[.i c],[.i d]],.l [[.i a],[.i b]],.i 2,.i 1]) fun o=>o=if x=0 then (none,[.l [[.i a],[.i b]],.l [[.i c],[.i d]],.l [[.i a],[.i b]],.i 2,.i 2]) else (some 0,[.i x]):=fun x k=>by
  unfold qs;dsimp +instances only[gd,Aa,Ab,Ac,Ad,Ae,Af,Ag];refine aa.pos rfl (aa.pos rfl (aa.neg rfl (aa.pos rfl ?_)));refine aa.cE (Ev b d) ?_;dsimp +instances only[gd,Aa,Ab,Ac,Ad,Ae,Af,Ag];rw[k];by_cases e:x=0
  ·rw [iP e]
   exact aa.neg (by simp[e]) (aa.pos rfl (aa.some rfl))
  ·rw [iN e]
   exact aa.pos (by simpa using e) (aa.some rfl)
 have s2:qs [.l [[.i a],[.i b]],.l [[.i c],[.i d]],.l [[.i a],[.i b]],.i 2,.i 2]=some (some 1,[.l [[.i a],[.i b]],.l [[.i c],[.i d]]]):=by
  refine aa.toEq ?_;unfold qs;dsimp +instances only[gd,Aa,Ab,Ac,Ad,Ae,Af,Ag];exact aa.neg rfl (aa.some rfl)
 have key:aX qs [.l [[.i a],[.i b]],.l [[.i c],[.i d]],.l [[.i a],[.i b]],.i 2,.i 0] 3 fun x g=>(x=0/\g=[.i (qx a b c d)])\/(x=1/\g=[.l [[.i a],[.i b]],.l [[.i c],[.i d]]]/\qx a b c d=0):=by
  obtain⟨o,h,rfl⟩:=s0 _ rfl;by_cases e:fH a c=0
  ·rw [iP e] at h
   refine aX.next h ?_
   obtain⟨o,h,rfl⟩:=s1 _ rfl;by_cases q:fH b d=0
   ·rw [iP q] at h
    refine aX.next h (aX.stop s2 (.inr ⟨rfl,rfl,by unfold qx; rw[iP e,q]⟩))
   ·rw [iN q] at h
    exact aX.stop h (.inl ⟨rfl,by unfold qx; rw[iP e]⟩)
  ·rw [iN e] at h
   exact aX.stop h (.inl ⟨rfl,by unfold qx; rw[iN e]⟩)
 refine aa.toEq ?_;unfold Ed;dsimp +instances only[gd,Aa,Ab,Ac,Ad,Ae,Af,Ag];refine aa.loop (key.to (by omega)) rfl ?_;rintro x g (⟨rfl,rfl⟩|⟨rfl,rfl,v⟩)
 ·exact aa.pos rfl (aa.some rfl)
 ·(dsimp +instances only [gd,Aa,Ab,Ac,Ad,Ae,Af,Ag])
  refine aa.neg rfl (aa.neg rfl (aa.some ?_));rw[v]
section
variable {X Y:List Nat}
structure sr (X Y:List Nat):Prop where
 x:X.Pairwise (·<·)
 y:Y.Pairwise (·<·)
theorem EM{X:List Nat}(h:X.Pairwise (·<·)){i j:Nat}(hi:i<X.length)(d:j<X.length):X.getD i 0<X.getD j 0↔i<j:=by
 have e:∀ k (q:k<X.length),X.getD k 0=X[k]:=fun k q=>by rw[cu,bY q]; rfl
 rw[e i hi,e j d];have key:=J4.1 h;constructor
 ·intro v
  rcases J_ i j with g|g|g
  ·exact g
  ·subst g; omega
  ·have := key j i d hi g
   omega
 ·exact key i j hi d
theorem SL(a b:Nat):fH (a:Int) (b:Int)=if a<b then -1 else if b<a then 1 else 0:=by
 unfold fH;by_cases h:a<b
 ·rw[iP h,iP (by omega)]
 ·rw [iN h, iN (by omega)]
  by_cases d:b<a
  ·rw[iP d,iP (by omega)]
  ·rw[iN d,iN (by omega)]
theorem ahM(R:sr X Y){p q:Nat × Nat}(d:p.1<X.length/\p.2<Y.length)(g:q.1<X.length/\q.2<Y.length) :
  qx ((X.getD p.1 0:Nat):Int) ((Y.getD p.2 0:Nat):Int) ((X.getD q.1 0:Nat):Int) ((Y.getD q.2 0:Nat):Int)=if p.1<q.1 then -1 else if q.1<p.1 then 1 else if p.2<q.2 then -1 else if q.2<p.2 then 1 else 0:=by
 unfold qx;rw[SL,SL];have h1:=EM R.x d.1 g.1;have h:=EM R.x g.1 d.1;have k:=EM R.y d.2 g.2;have v:=EM R.y g.2 d.2;simp only[h1,h,k,v];by_cases a:p.1<q.1
 ·simp[a]
 ·by_cases b : q.1 < p.1
  ·simp[a,b]
  ·simp[a,b]
theorem ahN(p:Nat × Nat):a8 [.I,.I] (eJ X Y p)=eJ X Y p:=rfl
theorem SM(R:sr X Y):∀(q d p y:List (Nat × Nat)),p.length=y.length->(∀ x∈q,x.1<X.length/\x.2<Y.length)->(∀ x∈d,x.1<X.length/\x.2<Y.length)->p.length+q.length<=100000 ->
  aX ug [.l ((p++q).map (eJ X Y)),.l ((y++d).map (eJ X Y)),.l ((p++q).map (eJ X Y)),.i ((p.length+q.length:Nat):Int),.i (p.length:Int)] (q.length+1)
   fun x g=>(x=0/\g=[.i (iY q d)])\/(x=1/\g=[.l ((p++q).map (eJ X Y)),.l ((y++d).map (eJ X Y))]/\q.length<=d.length/\iY q d=if q.length<d.length then -1 else 0)
 | [],d,p,y,I,_,_,M=>by
  refine aX.stop (x:=1) (d':=[.l ((p++[]).map (eJ X Y)),.l ((y++d).map (eJ X Y))]) (aa.toEq ?_) (.inr ⟨rfl,rfl,eR _,?_⟩)
  ·unfold ug
   dsimp +instances only[gd,Aa,Ab,Ac,Ad,Ae,Af,Ag];exact aa.neg (by rw[cB]; exact decide_eq_false (by simp)) (aa.some rfl)
  ·cases d with
   |nil=>rfl
   |cons b d=>simp[iY]
 | a::q,[],p,y,I,_,_,M=>by
  simp only[cd]at M;refine aX.stop (x:=0) (d':=[.i 1]) (aa.toEq ?_) (.inl ⟨rfl,rfl⟩);unfold ug;dsimp +instances only[gd,Aa,Ab,Ac,Ad,Ae,Af,Ag];simp only[c9,fX,cd,j_];exact aa.p (aa.p (aa.p (aa.some rfl)))
 | a::q,b::d,p,y,I,hq,hq',M=>by
  simp only[cd]at M;have ga:((p++a::q).map (eJ X Y)).getD p.length []=eJ X Y a:=by
   rw[cu,bW,ja (aQ _),l9];rfl
  have gb:((y++b::d).map (eJ X Y)).getD p.length []=eJ X Y b:=by
   rw[I,cu,bW,ja (aQ _),l9];rfl
  have hc:=ahM R (hq a cW) (hq' b cW);have step:∀ v,qx ((X.getD a.1 0:Nat):Int) ((Y.getD a.2 0:Nat):Int) ((X.getD b.1 0:Nat):Int) ((Y.getD b.2 0:Nat):Int)=v ->
    ug [.l ((p++a::q).map (eJ X Y)),.l ((y++b::d).map (eJ X Y)),.l ((p++a::q).map (eJ X Y)),.i ((p.length+(a::q).length:Nat):Int),.i (p.length:Int)] =
     some (if v=0 then (none,[.l ((p++a::q).map (eJ X Y)),.l ((y++b::d).map (eJ X Y)),.l ((p++a::q).map (eJ X Y)),.i ((p.length+(a::q).length:Nat):Int),.i ((p.length:Int)+1)]) else (some 0,[.i v])):=fun v hv=>by
   refine aa.toEq ?_;unfold ug;dsimp +instances only[gd,Aa,Ab,Ac,Ad,Ae,Af,Ag];simp only[a6,ga,gb,ahN,c9,fX,cd];refine aa.p (aa.p (aa.n (aa.p ?_)));refine aa.call (P:=fun g=>g=[.i v]) ?_ ?_
   ·unfold IH eJ
    dsimp +instances only[gd,Aa,Ab,Ac,Ad,Ae,Af,Ag];refine aa.cE (ahL _ _ _ _) ?_;dsimp +instances only[gd,Aa,Ab,Ac,Ad,Ae,Af,Ag];rw[hv];exact aa.some rfl
   ·rintro _ rfl
    dsimp +instances only[gd,Aa,Ab,Ac,Ad,Ae,Af,Ag];by_cases e:v=0
    ·rw [iP e]
     exact aa.neg (by simp[e]) (aa.p (aa.some rfl))
    ·rw [iN e]
     exact aa.pos (by simpa using e) (aa.some rfl)
  have h:=step _ rfl;rw[hc]at h;have hlex:iY (a::q) (b::d)=(if a.1<b.1 then -1 else if b.1<a.1 then 1 else if a.2<b.2 then -1 else if b.2<a.2 then 1 else iY q d):=rfl;have e1:p++a::q=(p++[a])++q:=by simp
  have e2:y++b::d=(y++[b])++d:=by simp
  by_cases k:(if a.1<b.1 then (-1:Int) else if b.1<a.1 then 1 else if a.2<b.2 then -1 else if b.2<a.2 then 1 else 0)=0
  ·rw [iP k] at h
   refine aX.next h ?_
   have hlex2:iY (a::q) (b::d)=iY q d:=by
    rw[hlex];split at k
    ·cases k
    ·rename_i N
     rw[iN N];split at k
     ·cases k
     ·rename_i O
      rw[iN O];split at k
      ·cases k
      ·rename_i U
       rw[iN U];split at k
       ·cases k
       ·rename_i V
        rw[iN V]
   have ih:=SM R q d (p++[a]) (y++[b]) (by simp[I]) (fun x W=>hq x (dj _ W)) (fun x W=>hq' x (dj _ W)) (by simp; omega);have e3:(((p++[a]).length+q.length:Nat):Int)=((p.length+(a::q).length:Nat):Int):=by simp; omega
   have e4:(((p++[a]).length:Nat):Int)=(p.length:Int)+1:=by simp
   rw[<-e1,<-e2,e3,e4]at ih;refine ih.mono ?_;rintro x g (⟨rfl,rfl⟩|⟨rfl,rfl,h1,h2⟩)
   ·exact .inl ⟨rfl,by rw[hlex2]⟩
   ·refine .inr ⟨rfl, rfl, by simpa using h1, ?_⟩
    rw[hlex2,h2];simp only[cd,Nat.add_lt_add_iff_right]
  ·rw [iN k] at h
   refine aX.stop h (.inl ⟨rfl,?_⟩);rw[hlex];split
   ·rfl
   ·rename_i N
    rw[iN N]at k;split
    ·rfl
    ·rename_i O
     rw[iN O]at k;split
     ·rfl
     ·rename_i U
      rw[iN U]at k;split
      ·rfl
      ·rename_i V
       rw[iN V]at k;exact absurd rfl k
theorem ahO(R:sr X Y)(l l':List (Nat × Nat))(h1:∀ x∈l,x.1<X.length/\x.2<Y.length)(k:∀ x∈l',x.1<X.length/\x.2<Y.length)(q:l.length<=100000) :
  Ee [.l (l.map (eJ X Y)),.l (l'.map (eJ X Y))]=some [.i (iY l l')]:=by
 have h:=SM R l l' [] [] rfl h1 k (by simpa using q);simp only[ll,j_,cP]at h;refine aa.toEq ?_;unfold Ee;dsimp +instances only[gd,Aa,Ab,Ac,Ad,Ae,Af,Ag];simp only[c9];refine aa.loop (h.to (by omega)) rfl ?_;rintro x g (⟨rfl,rfl⟩|⟨rfl,rfl,v,d⟩)
 ·exact aa.pos rfl (aa.some rfl)
 ·(dsimp +instances only [gd,Aa,Ab,Ac,Ad,Ae,Af,Ag])
  simp only[c9];refine aa.neg rfl ?_;by_cases e:l.length<l'.length
  ·rw [d, iP e]
   exact aa.p (aa.some rfl)
  ·rw [d, iN e]
   exact aa.n (aa.some rfl)
def i_(X Y:List Nat)(x:Jn):LG:=[.l (x.1.map (eJ X Y)),.i x.2]
theorem Jp(R:sr X Y)(x y:Jn)(h1:∀ p∈x.1,p.1<X.length/\p.2<Y.length)(g:∀ p∈y.1,p.1<X.length/\p.2<Y.length)(h:x.1.length<=100000) :
  xf [.l [i_ X Y x],.l [i_ X Y y]]=some [.t (iZ x y)]:=by
 refine aa.toEq ?_;unfold xf i_ iZ;dsimp +instances only[gd,Aa,Ab,Ac,Ad,Ae,Af,Ag];simp only[c9];by_cases e:x.1.length=y.1.length
 ·rw [iP e]
  refine aa.neg (by rw[e]; simp) ?_;by_cases d:x.2=y.2
  ·rw [iP d]
   refine aa.neg (by rw[d]; simp) ?_;refine aa.cE (ahO R x.1 y.1 h1 g h) ?_;refine aa.some ?_;dsimp +instances only[gd,Aa,Ab,Ac,Ad,Ae,Af,Ag];rw[cB]
  ·rw [iN d]
   refine aa.pos (by simpa using d) (aa.some ?_);rw[cB]
 ·rw [iN e]
  refine aa.pos ?_ (aa.some ?_)
  ·have : ((x.1.length : Nat) : Int) ≠ ((y.1.length : Nat) : Int) := by omega
   simpa using this
  ·rw [cB]
   congr 2;rw[mM,dT,dT];omega
end
section
variable (J:Nat->Nat->Jn) (X Y:List Nat)
def su(i t p j:Nat):LG:=if i<p\/(p=i/\t<=j) then i_ X Y (J p j) else [.l [],.i 0]
def fW(m i t p:Nat):LL:=(fj (m+1)).map (su J X Y i t p)
def gS(n m i t:Nat):LL:=(fj (n+1)).map fun p=>[G.l (fW J X Y m i t p)]
variable {J X Y}
theorem EN(m i t p:Nat):(fW J X Y m i t p).length=m+1:=by unfold fW; rw[c9,oI]
theorem Jq(n m i t:Nat):(gS J X Y n m i t).length=n+1:=by unfold gS; rw[c9,oI]
theorem EO{m i t p j:Nat}(d:j<=m):(fW J X Y m i t p).getD j []=su J X Y i t p j:=by
 unfold fW;rw[cu,bW,pM (by omega)];rfl
theorem Jr{n m i t p:Nat}(d:p<=n):kl (gS J X Y n m i t) p=fW J X Y m i t p:=by
 unfold kl gS;rw[cu,bW,pM (by omega)];rfl
theorem A0{i t p j:Nat}(h:i<p\/(p=i/\t<=j)):su J X Y i t p j=i_ X Y (J p j):=by unfold su; rw[iP h]
theorem ahP{m i t:Nat}:(fW J X Y m i (t+1) i).set t (i_ X Y (J i t))=fW J X Y m i t i:=by
 apply jz;intro j;unfold fW;rw[ef,bW,bW,c9,oI];by_cases d:j<m+1
 ·rw [pM d]
  by_cases e:t=j
  ·subst e
   rw[iP rfl,iP d,e_,A0 (.inr ⟨rfl,aQ _⟩)]
  ·rw [iN e]
   simp only[e_];unfold su;by_cases h:t<=j
   ·rw[iP (.inr ⟨rfl,by omega⟩),iP (.inr ⟨rfl,h⟩)]
   ·rw[iN (by omega),iN (by omega)]
 ·rw [oG (by simp; omega)]
  by_cases e:t=j
  ·subst e
   rw[iP rfl,iN d];rfl
  ·rw [iN e]
   rfl
theorem ahQ{n m i t:Nat}:(gS J X Y n m i (t+1)).set i [.l (fW J X Y m i t i)]=gS J X Y n m i t:=by
 apply jz;intro p;unfold gS;rw[ef,bW,bW,c9,oI];by_cases d:p<n+1
 ·rw [pM d]
  by_cases e:i=p
  ·subst e
   rw[iP rfl,iP d];rfl
  ·rw [iN e]
   simp only[e_];have:fW J X Y m i (t+1) p=fW J X Y m i t p:=by
    unfold fW;refine mL fun j _=>?_;unfold su;by_cases h:i<p
    ·rw[iP (.inl h),iP (.inl h)]
    ·rw[iN (by omega),iN (by omega)]
   rw[this]
 ·rw [oG (by simp; omega)]
  by_cases e:i=p
  ·subst e
   rw[iP rfl,iN d];rfl
  ·rw [iN e]
   rfl
theorem ahR{n m i:Nat}(h:J i m=([],0)):gS J X Y n m (i+1) 0=gS J X Y n m i m:=by
 unfold gS;refine mL fun p _=>?_;have:fW J X Y m (i+1) 0 p=fW J X Y m i m p:=by
  unfold fW;refine mL fun j g=>?_;rw[gH]at g;unfold su;by_cases h1:i<p
  ·rw[iP (by omega),iP (.inl h1)]
  ·rw [iN (by omega)]
   by_cases d:p=i/\m<=j
   ·rw [iP (.inr d), d.1, show j = m from by omega, h]
    rfl
   ·rw[iN (by omega)]
 rw[this]
theorem ahS{n m:Nat}(h:∀ j,J n j=([],0)):cC (n+1) ([.l (cC (m+1) ([.l [],.i 0]:LG))]:LG)=gS J X Y n m n 0:=by
 symm;rw[J'];refine⟨Jq n m n 0,fun x d=>?_⟩;unfold gS at d;obtain⟨p,k,rfl⟩:=dw.1 d;rw[gH]at k;have:fW J X Y m n 0 p=cC (m+1) ([.l [],.i 0]:LG):=by
  rw[J'];refine⟨EN m n 0 p,fun y g=>?_⟩;unfold fW at g;obtain⟨j,_,rfl⟩:=dw.1 g;unfold su;by_cases e:p=n
  ·rw [iP (.inr ⟨e, eR _⟩), e, h]
   rfl
  ·rw[iN (by omega)]
 rw[this]
end
def sv(a b:LL)(X Y:List Nat)(i k:Nat):Int:=ju (gg a X i) (gg b Y k)
def cr(a b:LL)(X Y:List Nat)(oF:Int):Nat->Nat->Jn:=iq X.length Y.length (dc a b X Y oF) (sv a b X Y)
structure JnP (X Y:List Nat) (x:Jn):Prop where
 mem:∀ p∈x.1,p.1<X.length/\p.2<Y.length
 sn:x.1.length<=1000
 s0:0<=x.2
 s1:x.2<10000000000
section
variable {a b:LL} {X Y:List Nat} {oF:Int}
theorem SN(J:JC a b X Y)(h1:oF<=3600000):xF X.length Y.length (dc a b X Y oF) (wJ a b X Y) (sv a b X Y) :=
 ⟨J.nX, fun i k hi d ho => by
  have h:=xq (J.xr hi).2 (J.xu d).2;obtain⟨_,_,g⟩:=R5.1 ho;refine⟨rfl,h.1,?_⟩;show ju (gg a X i) (gg b Y k)<=3600000
  omega⟩
theorem SO(J:JC a b X Y)(h1:oF<=3600000)(i k:Nat):cr a b X Y oF i k=(bz (lR X.length Y.length (dc a b X Y oF) (wJ a b X Y)) Y.length (dc a b X Y oF) (wJ a b X Y) (X.length-i) i k,eV (sv a b X Y) (bz (lR X.length Y.length (dc a b X Y oF) (wJ a b X Y)) Y.length (dc a b X Y oF) (wJ a b X Y) (X.length-i) i k)) :=
 EL (Ey _ _ _ _) (SN J h1) _ i k (aQ _)
theorem Js(J:JC a b X Y)(h1:oF<=3600000)(i k:Nat):JnP X Y (cr a b X Y oF i k):=by
 rw[SO J h1];have d:=xG (Ey X.length Y.length (dc a b X Y oF) (wJ a b X Y)) (SN J h1) (t:=X.length-i) (i:=i) (f:=k) rfl;have q:=AZ (F:=lR X.length Y.length (dc a b X Y oF) (wJ a b X Y)) (m:=Y.length) (ok:=dc a b X Y oF) (w:=wJ a b X Y) (X.length-i) i k;have:=J.nX;refine⟨fun p g=>?_,by simp only[]; omega,d.1,d.2⟩;obtain⟨v,y,_,h,_⟩:=qv _ i k p g;exact⟨by omega,h⟩
def nD(a b:LL)(X Y:List Nat)(oF:Int)(i t:Nat):Jn:=((i,t)::(cr a b X Y oF (i+1) (t+1)).1,(cr a b X Y oF (i+1) (t+1)).2+ju (gg a X i) (gg b Y t))
theorem SP(J:JC a b X Y)(R:sr X Y)(h1:oF<=3600000)(ac M:BY){i:Nat}(hi:i<X.length):∀ t:Nat,t<=Y.length ->
  aX Av [.s ac,.l a,.s M,.l b,.l [],.i 0,.l (gS (cr a b X Y oF) X Y X.length Y.length i t),.i ((X.length+1:Nat):Int),.l (bl X),.l (bl Y),.i oF,.i ((X.length+1:Nat):Int),.i (i:Int),.i ((t:Int)-1)] (t+1)
   fun c g=>c=0/\g=[.s ac,.l a,.s M,.l b,.l [],.i 0,.l (gS (cr a b X Y oF) X Y X.length Y.length i 0),.i ((X.length+1:Nat):Int),.l (bl X),.l (bl Y),.i oF,.i ((X.length+1:Nat):Int),.i (i:Int)]
 | 0,_=>by
  refine aX.stop (x:=0) (aa.toEq ?_) ⟨rfl,rfl⟩;unfold Av;dsimp +instances only[gd,Aa,Ab,Ac,Ad,Ae,Af,Ag];refine aa.neg (by rw[eY]; decide) ?_;simp only[a6];exact aa.some rfl
 | t+1,ht=>by
  have nX:=J.nX;have nY:=J.nY;have ih:=SP J R h1 ac M hi t (by omega);have e0:((t+1:Nat):Int)-1=(t:Int):=by omega
  rw[e0];refine aX.next (aa.toEq ?_) ih
  have e1:(0+((i:Int)+1).toNat)=i+1:=by omega
  have e2:((t:Int)+1).toNat=t+1:=by omega
  have e3:(0+(i:Int).toNat)=i:=by omega
  have pA:=Js J h1 (i+1) t;have U:=Js J h1 i (t+1);have q:=Js J h1 (i+1) (t+1);have hstep:cr a b X Y oF i t=_:=SF (ap:=sv a b X Y) hi (show t<Y.length by omega);have hA:(fW (cr a b X Y oF) X Y Y.length i (t+1) (i+1)).getD t []=i_ X Y (cr a b X Y oF (i+1) t):=by rw[EO (by omega),A0 (.inl (by omega))]
  have hB:(fW (cr a b X Y oF) X Y Y.length i (t+1) i).getD (t+1) []=i_ X Y (cr a b X Y oF i (t+1)):=by rw[EO (by omega),A0 (.inr ⟨rfl,aQ _⟩)]
  have hC:(fW (cr a b X Y oF) X Y Y.length i (t+1) (i+1)).getD (t+1) []=i_ X Y (cr a b X Y oF (i+1) (t+1)):=by rw[EO (by omega),A0 (.inl (by omega))]
  have hR1:kl (gS (cr a b X Y oF) X Y X.length Y.length i (t+1)) (i+1)=fW (cr a b X Y oF) X Y Y.length i (t+1) (i+1):=Jr (by omega);have hR0:kl (gS (cr a b X Y oF) X Y X.length Y.length i (t+1)) i=fW (cr a b X Y oF) X Y Y.length i (t+1) i:=Jr (by omega);have hset:∀ v:Jn,v=cr a b X Y oF i t->(gS (cr a b X Y oF) X Y X.length Y.length i (t+1)).set i [.l ((fW (cr a b X Y oF) X Y Y.length i (t+1) i).set t (i_ X Y v))]=gS (cr a b X Y oF) X Y X.length Y.length i t:=fun v V=>by
   rw[V,ahP,ahQ]
  have hl1:=EN (J:=cr a b X Y oF) (X:=X) (Y:=Y) Y.length i (t+1) (i+1);have hl0:=EN (J:=cr a b X Y oF) (X:=X) (Y:=Y) Y.length i (t+1) i;have hlt:=Jq (J:=cr a b X Y oF) (X:=X) (Y:=Y) X.length Y.length i (t+1);obtain⟨c1,N⟩:=J.xr hi;obtain⟨c3,O⟩:=J.xu (show t<Y.length by omega);have hin:=xq N O;have hb1:=Jp R (cr a b X Y oF i (t+1)) (cr a b X Y oF (i+1) t) U.mem pA.mem (by have:=U.sn; omega);have ea:a.getD (X.getD i 0) []=gg a X i:=rfl;have eb:b.getD (Y.getD t 0) []=gg b Y t:=rfl;have ep:∀ x:Jn,[G.l (x.1.map (eJ X Y)),.i x.2]=i_ X Y x:=fun _=>rfl;have hput:∀ r:LG,∀ x:Jn,eo [.list [.I,.I],.I] r 0 (i_ X Y x)=i_ X Y x:=fun r x=>Dl rfl;have y:∀ v:Jn,v=cr a b X Y oF i t->aa (some ((none:Option Nat),(([.s ac,.l a,.s M,.l b,.l [],.i 0,.l ((gS (cr a b X Y oF) X Y X.length Y.length i (t+1)).set i [G.l ((fW (cr a b X Y oF) X Y Y.length i (t+1) i).set t (i_ X Y v))]),.i ((X.length+1:Nat):Int),.l (bl X),.l (bl Y),.i oF,.i ((X.length+1:Nat):Int),.i (i:Int),.i ((t:Int)-1)]):LG))) fun o=>o=(none,(([.s ac,.l a,.s M,.l b,.l [],.i 0,.l (gS (cr a b X Y oF) X Y X.length Y.length i t),.i ((X.length+1:Nat):Int),.l (bl X),.l (bl Y),.i oF,.i ((X.length+1:Nat):Int),.i (i:Int),.i ((t:Int)-1)]):LG)):=fun v V=>by
   rw[hset v V];exact aa.some rfl
  unfold Av;dsimp +instances only[gd,Aa,Ab,Ac,Ad,Ae,Af,Ag];simp only[a6,cP,e2,show ((i:Int)+1).toNat=i+1 from by omega,hR1,hR0,hl1,hl0,hlt,hA,hB,hC,jW,r8 hi,r8 (show t<Y.length by omega)];have q0:∀ x:Jn,(gi (i_ X Y x) 0).rZ=x.1.map (eJ X Y):=fun _=>rfl;have q1:∀ x:Jn,(gi (i_ X Y x) 1).iV=x.2:=fun _=>rfl;simp only[q0,q1,ep];dsimp +instances only[gd,Aa,Ab,Ac,Ad,Ae,Af,Ag];simp only[a6,ea,eb,N.1,O.1,hb1];have hcan:=SJ oF N O;have hap:=SI N O;have hO:∀ p∈(i,t)::(cr a b X Y oF (i+1) (t+1)).1,p.1<X.length/\p.2<Y.length:=fun p W=>by
   rcases cq.1 W with rfl|W
   ·exact⟨hi,ht⟩
   ·exact q.mem p W
  have nA:=J.na;have nB:=J.nb;refine aa.p (aa.p (aa.p (aa.p (aa.p (aa.p (aa.p (aa.p (aa.p (aa.p (aa.p ?_))))))))));refine aa.cE rfl ?_;refine aa.test (fun h=>?_) fun h=>?_
  ·have d:cr a b X Y oF i t=if dc a b X Y oF i t=true then (if iZ (nD a b X Y oF i t) (cr a b X Y oF i (t+1))=true then (nD a b X Y oF i t) else (cr a b X Y oF i (t+1))) else (cr a b X Y oF i (t+1)):=by
    rw[hstep];have h:iZ (iq X.length Y.length (dc a b X Y oF) (sv a b X Y) i (t+1)) (iq X.length Y.length (dc a b X Y oF) (sv a b X Y) (i+1) t)=true:=h;simp only[h,if_true,lk,if_false];rfl
   refine aa.p (aa.p (aa.p (aa.p ?_)));refine aa.cE hcan ?_;refine aa.test (fun k=>?_) fun k=>?_
   ·have k : dc a b X Y oF i t = true := k
    rw[iP k]at d;refine aa.p (aa.p (aa.p (aa.p (aa.p (aa.p (aa.p (aa.p (aa.pos (by have:=q.sn; simp only[c9]; (first|rfl|assumption|(simp only[aB,sl]<;>omega))) ?_))))))));refine aa.cE hap ?_;refine aa.pos (c6.2 ⟨by have:=q.s0; show -9223372036854775808<=(cr a b X Y oF (i+1) (t+1)).2+ju (gg a X i) (gg b Y t); omega,by have:=q.s1; show (cr a b X Y oF (i+1) (t+1)).2+ju (gg a X i) (gg b Y t)<=9223372036854775807; omega⟩) (aa.pos (by simp) ?_);refine aa.cE (Jp R (nD a b X Y oF i t) (cr a b X Y oF i (t+1)) hO (U).mem (by have:=q.sn; show (cr a b X Y oF (i+1) (t+1)).1.length+1<=100000; omega)) ?_;refine aa.test (fun hb=>?_) fun hb=>?_
    ·have hb : iZ (nD a b X Y oF i t) (cr a b X Y oF i (t + 1)) = true := hb
     rw[iP hb]at d;refine aa.p (aa.p (aa.p (aa.p (aa.p ?_))));exact y (nD a b X Y oF i t) d.symm
    ·have hb : iZ (nD a b X Y oF i t) (cr a b X Y oF i (t + 1)) = false := hb
     rw[iN (by rw[hb]; simp)]at d;refine aa.p (aa.p (aa.p (aa.p (aa.p ?_))));exact y _ d.symm
   ·have k : dc a b X Y oF i t = false := k
    rw[iN (by rw[k]; simp)]at d;refine aa.p (aa.p (aa.p (aa.p (aa.p ?_))));exact y _ d.symm
  ·have d:cr a b X Y oF i t=if dc a b X Y oF i t=true then (if iZ (nD a b X Y oF i t) (cr a b X Y oF (i+1) t)=true then (nD a b X Y oF i t) else (cr a b X Y oF (i+1) t)) else (cr a b X Y oF (i+1) t):=by
    rw[hstep];have h:iZ (iq X.length Y.length (dc a b X Y oF) (sv a b X Y) i (t+1)) (iq X.length Y.length (dc a b X Y oF) (sv a b X Y) (i+1) t)=false:=h;simp only[h,if_true,lk,if_false];rfl
   refine aa.p (aa.p (aa.p (aa.p ?_)));refine aa.cE hcan ?_;refine aa.test (fun k=>?_) fun k=>?_
   ·have k : dc a b X Y oF i t = true := k
    rw[iP k]at d;refine aa.p (aa.p (aa.p (aa.p (aa.p (aa.p (aa.p (aa.p (aa.pos (by have:=q.sn; simp only[c9]; (first|rfl|assumption|(simp only[aB,sl]<;>omega))) ?_))))))));refine aa.cE hap ?_;refine aa.pos (c6.2 ⟨by have:=q.s0; show -9223372036854775808<=(cr a b X Y oF (i+1) (t+1)).2+ju (gg a X i) (gg b Y t); omega,by have:=q.s1; show (cr a b X Y oF (i+1) (t+1)).2+ju (gg a X i) (gg b Y t)<=9223372036854775807; omega⟩) (aa.pos (by simp) ?_);refine aa.cE (Jp R (nD a b X Y oF i t) (cr a b X Y oF (i+1) t) hO (pA).mem (by have:=q.sn; show (cr a b X Y oF (i+1) (t+1)).1.length+1<=100000; omega)) ?_;refine aa.test (fun hb=>?_) fun hb=>?_
    ·have hb : iZ (nD a b X Y oF i t) (cr a b X Y oF (i + 1) t) = true := hb
     rw[iP hb]at d;refine aa.p (aa.p (aa.p (aa.p (aa.p ?_))));exact y (nD a b X Y oF i t) d.symm
    ·have hb : iZ (nD a b X Y oF i t) (cr a b X Y oF (i + 1) t) = false := hb
     rw[iN (by rw[hb]; simp)]at d;refine aa.p (aa.p (aa.p (aa.p (aa.p ?_))));exact y _ d.symm
   ·have k : dc a b X Y oF i t = false := k
    rw[iN (by rw[k]; simp)]at d;refine aa.p (aa.p (aa.p (aa.p (aa.p ?_))));exact y _ d.symm
theorem SQ(J:JC a b X Y)(R:sr X Y)(h1:oF<=3600000)(ac d:BY):∀ t:Nat,t<=X.length ->
  aX Aw [.s ac,.l a,.s d,.l b,.l [],.i 0,.l (gS (cr a b X Y oF) X Y X.length Y.length t 0),.i ((X.length+1:Nat):Int),.l (bl X),.l (bl Y),.i oF,.i ((X.length+1:Nat):Int),.i ((t:Int)-1)] (t+1)
   fun c g=>c=0/\g=[.l [],.i 0,.l (gS (cr a b X Y oF) X Y X.length Y.length 0 0),.i ((X.length+1:Nat):Int),.i ((X.length+1:Nat):Int)]
 | 0,_=>by
  refine aX.stop (x:=0) (aa.toEq ?_) ⟨rfl,rfl⟩;unfold Aw;dsimp +instances only[gd,Aa,Ab,Ac,Ad,Ae,Af,Ag];refine aa.neg (by rw[eY]; decide) ?_;simp only[a6];exact aa.some rfl
 | t+1,q=>by
  have nX:=J.nX;have nY:=J.nY;have h:=SQ J R h1 ac d t (by omega);have k:((t+1:Nat):Int)-1=(t:Int):=by omega
  rw[k];refine aX.next (aa.toEq ?_) h
  unfold Aw;dsimp +instances only[gd,Aa,Ab,Ac,Ad,Ae,Af,Ag];simp only[a6,jW];refine aa.p (aa.pos (c6.2 ⟨by omega,by omega⟩) ?_);rw[ahR (show cr a b X Y oF t Y.length=([],0) from Jo (.inr (aQ _)))];refine aa.loop ((SP J R h1 ac d (show t<X.length by omega) Y.length (aQ _)).to (by omega)) rfl ?_;rintro x g ⟨rfl,rfl⟩;dsimp +instances only[gd,Aa,Ab,Ac,Ad,Ae,Af,Ag];simp only[a6];exact aa.pos (c6.2 ⟨by omega,by omega⟩) (aa.some rfl)
theorem SR(X Y:List Nat)(nX:X.length<=1000)(nY:Y.length<=1000)(A B:LL)(ac d:BY)(oF:Int):∀ r t:Nat,t+r=X.length+1 ->
  aX Au [.s ac,.l A,.s d,.l B,.l [],.i 0,.l (cC t ([.l (cC (Y.length+1) ([.l [],.i 0]:LG))]:LG)),.i ((X.length+1:Nat):Int),.l (bl X),.l (bl Y),.i oF,.i ((X.length+1:Nat):Int),.i ((X.length+1:Nat):Int),.i (t:Int)] (r+1)
   fun c g=>c=0/\g=[.s ac,.l A,.s d,.l B,.l [],.i 0,.l (cC (X.length+1) ([.l (cC (Y.length+1) ([.l [],.i 0]:LG))]:LG)),.i ((X.length+1:Nat):Int),.l (bl X),.l (bl Y),.i oF,.i ((X.length+1:Nat):Int)]
 | 0,t,h=>by
  refine aX.stop (x:=0) (aa.toEq ?_) ⟨rfl,rfl⟩;have:t=X.length+1:=by omega
  subst this;unfold Au;dsimp +instances only[gd,Aa,Ab,Ac,Ad,Ae,Af,Ag];simp only[a6];refine aa.n ?_;exact aa.some rfl
 | r+1,t,h=>by
  have k:=SR X Y nX nY A B ac d oF r (t+1) (by omega);rw[List.replicate_succ',Int.natCast_add]at k;refine aX.next (aa.toEq ?_) k
  unfold Au;dsimp +instances only[gd,Aa,Ab,Ac,Ad,Ae,Af,Ag];simp only[a6,jW,sK,cP,show ((Y.length:Int)+1).toNat=Y.length+1 from by omega];refine aa.p (aa.p (aa.p (aa.p (aa.p (aa.p ?_)))));exact aa.some rfl
theorem ahU(J:JC a b X Y)(R:sr X Y)(h1:oF<=3600000)(ac d:BY) :
  Ef [.l [[.s ac,.l a]],.l [[.s d,.l b]],.l (bl X),.l (bl Y),.i oF]=some [.l [i_ X Y (cr a b X Y oF 0 0)]]:=by
 have nX:=J.nX;have nY:=J.nY;have h:=SQ J R h1 ac d X.length (aQ _);rw[<-ahS (fun j=>show cr a b X Y oF X.length j=([],0) from Jo (.inl (aQ _)))]at h;refine aa.toEq ?_;unfold Ef;dsimp +instances only[gd,Aa,Ab,Ac,Ad,Ae,Af,Ag];simp only[jW,sK,show ((X.length:Int)+1).toNat=X.length+1 from by omega];refine aa.p (aa.p (aa.p ?_));have hi:=SR X Y nX nY a b ac d oF (X.length+1) 0 (by omega);refine aa.loop (hi.to (by omega)) rfl ?_;rintro x g ⟨rfl,rfl⟩;dsimp +instances only[gd,Aa,Ab,Ac,Ad,Ae,Af,Ag];simp only[a6,jW];refine aa.p ?_;refine aa.loop (h.to (by omega)) rfl ?_;rintro x g ⟨rfl,rfl⟩;dsimp +instances only[gd,Aa,Ab,Ac,Ad,Ae,Af,Ag];have q:(kl (gS (cr a b X Y oF) X Y X.length Y.length 0 0) 0)=fW (cr a b X Y oF) X Y Y.length 0 0 0:=Jr (eR _);have k:(fW (cr a b X Y oF) X Y Y.length 0 0 0).getD 0 []=i_ X Y (cr a b X Y oF 0 0):=by rw[EO (by omega),A0 (.inr ⟨rfl,aQ _⟩)]
 have v:=Jq (J:=cr a b X Y oF) (X:=X) (Y:=Y) X.length Y.length 0 0;have y:=EN (J:=cr a b X Y oF) (X:=X) (Y:=Y) Y.length 0 0 0;simp only[a6,q,k,v,y];refine aa.p (aa.p (aa.p (aa.p ?_)));exact aa.some rfl
end
def EP:BY:=⟨#[32]⟩
def pE(k:GK):BY:=(k.1++EP)++bQ k.2
def gu(k:GK):LG:=[.s (pE k)]
structure Sm (k:GK):Prop where
 lo:0<=k.2
 hi:k.2<=9
 size:k.1.size<=1000
theorem ahV:((fj 10).all fun a=>decide ((bQ (a:Nat)).data.toList=[Kf (48+a)]))=true:=by kernel_rfl
theorem Jt{n:Int}(h0:0<=n)(h1:n<=9):(bQ n).data.toList=[Kf (48+n.toNat)]:=by
 obtain⟨k,rfl⟩:=Ke h0;exact of_decide_eq_true (dK.1 ahV k (gH.2 (by omega)))
theorem SS{n:Int}(h0:0<=n)(h1:n<=9):(bQ n).size=1:=by
 have h:=congrArg List.length (Jt h0 h1);rw[Array.length_toList]at h;exact h
theorem SU{n:Int}(h0:0<=n)(h1:n<=9):pg [.i n]=some [.s (bQ n)]:=by
 refine aa.toEq ?_;unfold pg;dsimp +instances only[gd,Aa,Ab,Ac,Ad,Ae,Af,Ag];exact aa.pos (by simp only[jm,cB,aL,dT]; omega) (aa.some rfl)
theorem ahW{k d:GK}(h:Sm k)(h':Sm d)(e:pE k=pE d):k=d:=by
 have g:=congrArg (fun b:BY=>b.data.toList) e;unfold pE at g;simp only[ByteArray.data_append,Array.toList_append,Jt h.lo h.hi,Jt h'.lo h'.hi]at g;obtain⟨q,v⟩:=akI g rfl;obtain⟨y,_⟩:=akI q rfl;refine Prod.ext (ByteArray.ext (akA.1 y)) ?_;have I:Kf (48+k.2.toNat)=Kf (48+d.2.toNat):=by simpa using v
 have M:=congrArg UInt8.toNat I;simp only[UInt8.toNat_ofNat']at M;have:=h.lo;have:=h.hi;have:=h'.lo;have:=h'.hi;omega
theorem ahX(k:GK):bq [.str] (gu k) (gu k)=true:=by
 show ((pE k).toList==(pE k).toList&&true)=true
 simp
theorem ahY{k d:GK}(h1:Sm k)(g:Sm d)(h:k≠d):bq [.str] (gu k) (gu d)=false:=by
 show ((pE k).toList==(pE d).toList&&true)=false
 cases he:(pE k).toList==(pE d).toList with
 |false=>rfl
 |true=>exact(h (ahW h1 g (Ga (eq_of_beq he)))).elim
abbrev EV:=GK × List Nat × List Nat
def oE(i:Nat)(e:EV):LG:=[.l [gu e.1],.l [[.l (bl e.2.1),.l (bl e.2.2)]],.i (i:Int),.t true]
def cO:Nat->List EV->LL
 |_,[]=>[]
 |i,e::L=>oE i e::cO (i+1) L
theorem ER:∀(i:Nat) (L:List EV),(cO i L).length=L.length
 |_,[]=>rfl
 |i,_::L=>by simp[cO,ER (i+1) L]
theorem A1:∀(i:Nat) (A B:List EV),cO i (A++B)=cO i A++cO (i+A.length) B
 |i,[],B=>by simp[cO]
 | i,e::A,B=>by
  simp only[l7,cO,A1 (i+1) A B,cd];rw[show i+1+A.length=i+(A.length+1) from by omega]
def nE(k:GK)(p:List Nat × List Nat):List EV->List EV
 | []=>[(k,p)]
 |e::L=>if e.1=k then (k,p)::L else e::nE k p L
theorem ES(k:GK):∀ L:List EV,(∀ e∈L,e.1≠k)\/∃ A p B,L=A++(k,p)::B/\∀ e∈A,e.1≠k
 | []=>.inl fun e h=>by cases h
 | e::L=>by
  by_cases he:e.1=k
  ·exact .inr ⟨[],e.2,L,by rw[<-he]; rfl,fun e h=>by cases h⟩
  ·rcases ES k L with h | ⟨A, g, B, rfl, h⟩
   ·exact .inl fun x d=>by
     rcases cq.1 d with rfl|d
     ·exact he
     ·exact h x d
   ·exact .inr ⟨e::A,g,B,rfl,fun x d=>by
     rcases cq.1 d with rfl|d
     ·exact he
     ·exact h x d⟩
theorem A2{k:GK}(p:List Nat × List Nat):∀{L:List EV},(∀ e∈L,e.1≠k)->nE k p L=L++[(k,p)]
 | [],_=>rfl
 | e::L,h=>by
  rw[nE,iN (h e cW),A2 p fun x d=>h x (dj _ d)];rfl
theorem A3{k:GK}(p q:List Nat × List Nat)(B:List EV):∀{A:List EV},(∀ e∈A,e.1≠k)->nE k p (A++(k,q)::B)=A++(k,p)::B
 | [],_=>by rw[ll,nE,iP rfl,ll]
 | e::A,h=>by
  rw[l7,nE,iN (h e cW),A3 p q B fun x d=>h x (dj _ d)];rfl
theorem Ju{k:GK}(g:Sm k)(R:LL):∀(A:List EV) (i j:Nat),(∀ e∈A,e.1≠k)->(∀ e∈A,Sm e.1)->bU [.str] (gu k) (cO i A++R) j=bU [.str] (gu k) R (j+A.length)
 | [],_,_,_,_=>rfl
 | e::A,i,j,h,q=>by
  rw[cO,l7,bU,show (gi (oE i e) 0).rV=gu e.1 from rfl,ahY g (q e cW) (Ne.symm (h e cW)),cF,Ju g R A (i+1) (j+1) (fun x d=>h x (dj _ d)) (fun x d=>q x (dj _ d)),cd];congr 1;omega
theorem ahZ{k:GK}(d:Sm k){L:List EV}(h:∀ e∈L,e.1≠k)(g:∀ e∈L,Sm e.1)(i j:Nat):bU [.str] (gu k) (cO i L) j=none:=by
 have:=Ju d [] L i j h g;rw[dJ]at this;exact this
theorem SV{k:GK}(d:Sm k){A:List EV}(h:∀ e∈A,e.1≠k)(g:∀ e∈A,Sm e.1)(i:Nat)(r:LG)(q:(gi r 0).rV=gu k)(R:LL):bU [.str] (gu k) (cO i A++r::R) 0=some (A.length,r):=by
 rw[Ju d (r::R) A i 0 h g,bU,q,ahX,cT,cP]
structure HI (F:GK->List Nat × List Nat) (L:List EV):Prop where
 nd:(L.map (·.1)).Nodup
 sm:∀ e∈L,Sm e.1
 lT:∀ e∈L,e.2=F e.1
 all:∀ k,F k≠([],[])->∃ e∈L,e.1=k
theorem HI.zero:HI (fun _=>([],[])) []:=⟨by simp,by simp,by simp,fun k h=>(h rfl).elim⟩
theorem HI.congr{F d:GK->List Nat × List Nat}{L:List EV}(h:HI F L)(e:∀ k,F k=d k):HI d L:=by
 rw[<-show F=d from funext e];exact h
theorem HI.out{F:GK->List Nat × List Nat}{L:List EV}(h:HI F L){k:GK}(h1:∀ e∈L,e.1≠k):F k=([],[]):=by
 by_cases e:F k=([],[])
 ·exact e
 ·obtain ⟨x, d, he⟩ := h.all k e
  exact(h1 x d he).elim
theorem HI.set{F:GK->List Nat × List Nat}{L:List EV}(h:HI F L){k:GK}(I:Sm k)(p:List Nat × List Nat):HI (fun g=>if g=k then p else F g) (nE k p L):=by
 rcases ES k L with h1|⟨A,q,B,rfl,N⟩
 ·rw [A2 p h1]
  refine⟨?_,fun x d=>?_,fun x d=>?_,fun g v=>?_⟩
  ·rw [jM, Kb]
   refine⟨h.nd,by simp,fun a ha b hb=>?_⟩;obtain⟨e,he,rfl⟩:=dw.1 ha;simp at hb;subst hb;exact h1 e he
  ·rcases c_.1 d with d | d
   ·exact h.sm x d
   ·rw [l_.1 d]
    exact I
  ·rcases c_.1 d with d | d
   ·rw [iN (h1 x d)]
    exact h.lT x d
   ·rw[l_.1 d,iP rfl]
  ·by_cases e : g = k
   ·exact⟨_,pN _ cW,e.symm⟩
   ·rw [iN e] at v
    obtain⟨x,d,y⟩:=h.all g v;exact⟨x,nO _ d,y⟩
 ·rw [A3 p q B N]
  have M:=h.nd;rw[jM,dx]at M;have hB:∀ e∈B,e.1≠k:=fun e he I=>by
   have:=(Kb.1 M).2.1;rw[pL]at this;exact this.1 (I▸dw.2 ⟨e,he,rfl⟩)
  refine⟨?_,fun x d=>?_,fun x d=>?_,fun g v=>?_⟩
  ·rw [jM, dx]
   exact M
  ·rcases c_.1 d with d | d
   ·exact h.sm x (nO _ d)
   ·rcases cq.1 d with rfl | d
    ·exact I
    ·exact h.sm x (pN _ (dj _ d))
  ·rcases c_.1 d with d | d
   ·rw [iN (N x d)]
    exact h.lT x (nO _ d)
   ·rcases cq.1 d with rfl | d
    ·rw[iP rfl]
    ·rw [iN (hB x d)]
     exact h.lT x (pN _ (dj _ d))
  ·by_cases e : g = k
   ·exact⟨(k,p),pN _ cW,e.symm⟩
   ·rw [iN e] at v
    obtain⟨x,d,y⟩:=h.all g v;rcases c_.1 d with d|d
    ·exact⟨x,nO _ d,y⟩
    ·rcases cq.1 d with rfl | d
     ·exact(e y.symm).elim
     ·exact⟨x,pN _ (dj _ d),y⟩
theorem SX{L:List EV}(k:GK)(p:List Nat × List Nat):(nE k p L).length<=L.length+1:=by
 rcases ES k L with h1|⟨A,q,B,rfl,d⟩
 ·rw [A2 p h1]
  simp
 ·rw [A3 p q B d]
  simp
theorem SY{F:GK->List Nat × List Nat}{L:List EV}(h:HI F L){k:GK}(N:Sm k) :
  eT [.str] (cO 0 L) (gu k)=true/\mq [.str] (cO 0 L) (gu k) 0=bl (F k).1/\mq [.str] (cO 0 L) (gu k) 1=bl (F k).2 /\
   (∀ y I,tz [.str] (gn [.str] (cO 0 L) (gu k)) (gu k) (bl y) (bl I) L.length=cO 0 (nE k (y,I) L)) /\
   (∀ p,dG [.str] (gn [.str] (cO 0 L) (gu k)) (gu k) L.length=(nE k p L).length):=by
 rcases ES k L with h1|⟨A,d,B,rfl,M⟩
 ·have g := ahZ N h1 h.sm 0 0
  have q:=h.out h1;have v:gn [.str] (cO 0 L) (gu k)=cO 0 L:=by unfold gn; rw[g]
  refine⟨by unfold eT; rw[g],by unfold mq; rw[g,q]; rfl,by unfold mq; rw[g,q]; rfl,fun y I=>?_,fun p=>?_⟩
  ·rw [v, A2 _ h1, A1, cP]
   unfold tz;rw[g];rfl
  ·rw [v, A2 _ h1]
   unfold dG eH;rw[g];simp
 ·have O : ∀ e ∈ A, Sm e.1 := fun e he => h.sm e (nO _ he)
  have q:d=F k:=h.lT (k,d) (by simp);have g:bU [.str] (gu k) (cO 0 (A++(k,d)::B)) 0=some (A.length,oE A.length (k,d)):=by
   rw[A1,cO,cP];exact SV N M O 0 (oE A.length (k,d)) rfl _
  have v:gn [.str] (cO 0 (A++(k,d)::B)) (gu k)=cO 0 A++[.l [gu k],.l [[.l (bl d.1),.l (bl d.2)]],.i (A.length:Int),.t false]::cO (A.length+1) B:=by
   unfold gn;rw[g,A1,cO,cP];exact uq _ _ _ _ _ (ER 0 A)
  have U:=SV N M O 0 [.l [gu k],.l [[.l (bl d.1),.l (bl d.2)]],.i (A.length:Int),.t false] rfl (cO (A.length+1) B);refine⟨by unfold eT; rw[g]; rfl,by unfold mq; rw[g,<-q]; rfl,by unfold mq; rw[g,<-q]; rfl,fun y I=>?_,fun p=>?_⟩
  ·rw [v, A3 _ d B M, A1, cO, cP]
   unfold tz;rw[U];simp only[];rw[uq _ _ _ _ _ (ER 0 A)];rfl
  ·rw [v, A3 _ d B M]
   unfold dG eH;rw[U];simp
structure uv (A B:LL):Prop where
 two:iI A B
 sa:∀ z∈A,Sm (bR z)
 sb:∀ z∈B,Sm (bR z)
 la:A.length<=500
 lb:B.length<=500
theorem SZ(l:LL)(s:BY)(k:GK)(n:Nat):(dH l s k n).length<=n:=by
 unfold dH;have:=akE (fun i=>gq l s i&&decide (bR (l.getD i [])=k)) (fj n)
 rwa [oI]at this
theorem S0:EP.size=1:=rfl
theorem ah0{F:GK->List Nat × List Nat}{L:List EV}(X:LL)(w:BY)(i:Nat) (h:HI (fun k=>(dH X w k i,(F k).2)) L) (g:Sm (bR (X.getD i []))) :
  HI (fun k=>(dH X w k (i+1),(F k).2)) (bif gq X w i then nE (bR (X.getD i [])) (dH X w (bR (X.getD i [])) i++[i],(F (bR (X.getD i []))).2) L else L):=by
 cases d:gq X w i with
 | false =>
  rw[cF];exact h.congr fun k=>by rw[ur,iN (by rw[d]; simp),dJ]
 | true =>
  rw[cT];refine(h.set g _).congr fun k=>?_;rw[ur];by_cases e:k=bR (X.getD i [])
  ·rw[iP e,e,iP ⟨d,rfl⟩]
  ·rw[iN e,iN fun h=>e h.2.symm,dJ]
theorem ah1{F:GK->List Nat × List Nat}{L:List EV}(X:LL)(w:BY)(i:Nat) (h:HI (fun k=>((F k).1,dH X w k i)) L) (g:Sm (bR (X.getD i []))) :
  HI (fun k=>((F k).1,dH X w k (i+1))) (bif gq X w i then nE (bR (X.getD i [])) ((F (bR (X.getD i []))).1,dH X w (bR (X.getD i [])) i++[i]) L else L):=by
 cases d:gq X w i with
 | false =>
  rw[cF];exact h.congr fun k=>by rw[ur,iN (by rw[d]; simp),dJ]
 | true =>
  rw[cT];refine(h.set g _).congr fun k=>?_;rw[ur];by_cases e:k=bR (X.getD i [])
  ·rw[iP e,e,iP ⟨d,rfl⟩]
  ·rw[iN e,iN fun h=>e h.2.symm,dJ]
theorem ah2{A B:LL}{ac bc:BY}(X:LL)(hX:∀ z∈X,Sm (bR z))(hn:X.length<=1000)(S:LL)(oF:Int){F:GK->List Nat × List Nat}{q:List EV}(V:∀ k,(F k).1=[])(h0:HI F q) :
  gQ pn [.s ac,.l A,.s bc,.l B,.l (cO 0 q),.i (q.length:Int),.i oF,.i 0,.l S,.i 2,.i 0,.l X,.i (X.length:Int),.i 0]
   fun c g=>c=0/\∃ L,HI (fun k=>(dH X bc k X.length,(F k).2)) L/\L.length<=q.length+X.length/\g=[.s ac,.l A,.s bc,.l B,.l (cO 0 L),.i (L.length:Int),.i oF,.l S,.i 2,.i 0]:=by
 have r:=pd (st:=pn) (σ:=List EV) (fun L i=>[.s ac,.l A,.s bc,.l B,.l (cO 0 L),.i (L.length:Int),.i oF,.i 0,.l S,.i 2,.i 0,.l X,.i (X.length:Int),.i (i:Int)]) X (fun L=>(0,[.s ac,.l A,.s bc,.l B,.l (cO 0 L),.i (L.length:Int),.i oF,.l S,.i 2,.i 0]))
  (fun L i=>HI (fun k=>(dH X bc k i,(F k).2)) L/\L.length<=q.length+i) q (by omega) ⟨h0.congr fun k=>Prod.ext (V k) rfl,aQ _⟩
  (fun L i z y hi I hm ht => by
   have d:Sm (bR z):=hX z hm;obtain⟨O,hl⟩:=y;have v:=ah0 X bc i O (by rw[I]; exact d);have hlen:=SX (L:=L) (bR z) (dH X bc (bR z) i++[i],(F (bR z)).2);rw[I]at v;obtain⟨W,a2,a3,M,N⟩:=SY O d;have N:=N (dH X bc (bR z) i++[i],(F (bR z)).2);have M:=M (dH X bc (bR z) i++[i]) (F (bR z)).2;have hsl:=SZ X bc (bR z) i;have U:bl (dH X bc (bR z) i)++[[G.i (i:Int)]]=bl (dH X bc (bR z) i++[i]):=by unfold bl; rw[jM]; rfl
   unfold pn;dsimp +instances only[gd,Aa,Ab,Ac,Ad,Ae,Af,Ag];simp only[a6,I];refine aa.p (aa.p (aa.pos rfl ?_));refine aa.test (fun h=>?_) fun h=>?_
   ·have h:gq X bc i=true:=by
     unfold gq;rw[I];exact h
    rw[h,cT]at v;refine aa.pos (show eh ((bR z).1.size+1) 9223372036854775807=true by have:=d.size; rw[sO]; omega) ?_;refine aa.call (P:=fun g=>g=[.s (bQ (bR z).2)]) (aa.eq (SU d.lo d.hi)) ?_;rintro _ rfl;refine aa.pos (show eh (((bR z).1++EP).size+(bQ (bR z).2).size) 9223372036854775807=true by have:=d.size; rw[sO,akJ,S0,SS d.lo d.hi]; omega) ?_;dsimp +instances only[gd,Aa,Ab,Ac,Ad,Ae,Af,Ag];have ek:([.s (((gi z 2).sV++(⟨#[32]⟩:BY))++bQ (bR z).2)]:LG)=gu (bR z):=rfl;simp only[ek];rw[W,a2,a3];simp only[U,M,N];refine aa.pos rfl (aa.pos rfl (aa.pos rfl (aa.pos ?_ (aa.pos rfl (aa.pos rfl (aa.pos ?_ (aa.p (aa.some ⟨_,rfl,v,by omega⟩))))))))
    ·rw [iM, j9, dT, jW]
     omega
    ·rw [iM, iM]
     rfl
   ·have h:gq X bc i=false:=by
     unfold gq;rw[I];exact h
    rw[h,cF]at v;exact aa.p (aa.some ⟨L,rfl,v,by omega⟩))
  (fun L y => by
   unfold pn;dsimp +instances only[gd,Aa,Ab,Ac,Ad,Ae,Af,Ag];simp only[a6];exact aa.n (aa.some rfl))
 refine r.mono ?_;rintro c g ⟨L,y,rfl,rfl⟩;exact⟨rfl,L,y.1,y.2,rfl⟩
theorem ah3{A B:LL}{ac bc:BY}(X:LL)(hX:∀ z∈X,Sm (bR z))(hn:X.length<=1000)(S:LL)(oF:Int){F:GK->List Nat × List Nat}{q:List EV}(V:∀ k,(F k).2=[])(h0:HI F q) :
  gQ pn [.s ac,.l A,.s bc,.l B,.l (cO 0 q),.i (q.length:Int),.i oF,.i 1,.l S,.i 2,.i 1,.l X,.i (X.length:Int),.i 0]
   fun c g=>c=0/\∃ L,HI (fun k=>((F k).1,dH X ac k X.length)) L/\L.length<=q.length+X.length/\g=[.s ac,.l A,.s bc,.l B,.l (cO 0 L),.i (L.length:Int),.i oF,.l S,.i 2,.i 1]:=by
 have r:=pd (st:=pn) (σ:=List EV) (fun L i=>[.s ac,.l A,.s bc,.l B,.l (cO 0 L),.i (L.length:Int),.i oF,.i 1,.l S,.i 2,.i 1,.l X,.i (X.length:Int),.i (i:Int)]) X (fun L=>(0,[.s ac,.l A,.s bc,.l B,.l (cO 0 L),.i (L.length:Int),.i oF,.l S,.i 2,.i 1]))
  (fun L i=>HI (fun k=>((F k).1,dH X ac k i)) L/\L.length<=q.length+i) q (by omega) ⟨h0.congr fun k=>Prod.ext rfl (V k),aQ _⟩
  (fun L i z y hi I hm ht => by
   have d:Sm (bR z):=hX z hm;obtain⟨O,hl⟩:=y;have v:=ah1 X ac i O (by rw[I]; exact d);have hlen:=SX (L:=L) (bR z) ((F (bR z)).1,dH X ac (bR z) i++[i]);rw[I]at v;obtain⟨W,a2,a3,M,N⟩:=SY O d;have N:=N ((F (bR z)).1,dH X ac (bR z) i++[i]);have M:=M (F (bR z)).1 (dH X ac (bR z) i++[i]);have hsl:=SZ X ac (bR z) i;have U:bl (dH X ac (bR z) i)++[[G.i (i:Int)]]=bl (dH X ac (bR z) i++[i]):=by unfold bl; rw[jM]; rfl
   unfold pn;dsimp +instances only[gd,Aa,Ab,Ac,Ad,Ae,Af,Ag];simp only[a6,I];refine aa.p (aa.p (aa.pos rfl ?_));refine aa.test (fun h=>?_) fun h=>?_
   ·have h:gq X ac i=true:=by
     unfold gq;rw[I];exact h
    rw[h,cT]at v;refine aa.pos (show eh ((bR z).1.size+1) 9223372036854775807=true by have:=d.size; rw[sO]; omega) ?_;refine aa.call (P:=fun g=>g=[.s (bQ (bR z).2)]) (aa.eq (SU d.lo d.hi)) ?_;rintro _ rfl;refine aa.pos (show eh (((bR z).1++EP).size+(bQ (bR z).2).size) 9223372036854775807=true by have:=d.size; rw[sO,akJ,S0,SS d.lo d.hi]; omega) ?_;dsimp +instances only[gd,Aa,Ab,Ac,Ad,Ae,Af,Ag];have ek:([.s (((gi z 2).sV++(⟨#[32]⟩:BY))++bQ (bR z).2)]:LG)=gu (bR z):=rfl;simp only[ek];rw[W,a2,a3];simp only[U,M,N];refine aa.pos rfl (aa.pos rfl (aa.neg rfl (aa.pos ?_ (aa.pos rfl (aa.neg rfl (aa.pos ?_ (aa.p (aa.some ⟨_,rfl,v,by omega⟩))))))))
    ·rw [iM, j9, dT, jW]
     omega
    ·rw [iM, iM]
     rfl
   ·have h:gq X ac i=false:=by
     unfold gq;rw[I];exact h
    rw[h,cF]at v;exact aa.p (aa.some ⟨L,rfl,v,by omega⟩))
  (fun L y => by
   unfold pn;dsimp +instances only[gd,Aa,Ab,Ac,Ad,Ae,Af,Ag];simp only[a6];exact aa.n (aa.some rfl))
 refine r.mono ?_;rintro c g ⟨L,y,rfl,rfl⟩;exact⟨rfl,L,y.1,y.2,rfl⟩
def sw(A B:LL)(ac d:BY)(k:GK):List Nat × List Nat:=(db A d k,db B ac k)
theorem ah4{A B:LL}(h:uv A B)(ac d:BY)(oF:Int) :
  gQ po [.s ac,.l A,.s d,.l B,.l [],.i 0,.i oF,.l [[.s ac,.l A],[.s d,.l B]],.i 2,.i 0]
   fun c g=>c=0/\∃ L,HI (sw A B ac d) L/\L.length<=1000/\g=[.s ac,.l A,.s d,.l B,.l (cO 0 L),.i (L.length:Int),.i oF]:=by
 have na:=h.la;have nb:=h.lb;have s0:aa (po [.s ac,.l A,.s d,.l B,.l [],.i 0,.i oF,.l [[.s ac,.l A],[.s d,.l B]],.i 2,.i 0]) fun o =>
   ∃ L,HI (fun k=>(db A d k,[])) L/\L.length<=500/\o=(none,[.s ac,.l A,.s d,.l B,.l (cO 0 L),.i (L.length:Int),.i oF,.l [[.s ac,.l A],[.s d,.l B]],.i 2,.i 1]):=by
  unfold po;dsimp +instances only[gd,Aa,Ab,Ac,Ad,Ae,Af,Ag];refine aa.pos rfl (aa.pos rfl ?_);refine aa.loop (ah2 (A:=A) (B:=B) (ac:=ac) (bc:=d) A h.sa (by omega) [[.s ac,.l A],[.s d,.l B]] oF (F:=fun _=>([],[])) (fun _=>rfl) HI.zero) (by first|rfl|simp) ?_;rintro c g ⟨rfl,L,v,y,rfl⟩;dsimp +instances only[gd,Aa,Ab,Ac,Ad,Ae,Af,Ag];simp only[a6];exact aa.pos rfl (aa.some ⟨L,v,by simp at y; omega,rfl⟩)
 have s1:∀ L,HI (fun k=>(db A d k,[])) L->L.length<=500->aa (po [.s ac,.l A,.s d,.l B,.l (cO 0 L),.i (L.length:Int),.i oF,.l [[.s ac,.l A],[.s d,.l B]],.i 2,.i 1]) fun o =>
   ∃ L,HI (sw A B ac d) L/\L.length<=1000/\o=(none,[.s ac,.l A,.s d,.l B,.l (cO 0 L),.i (L.length:Int),.i oF,.l [[.s ac,.l A],[.s d,.l B]],.i 2,.i 2]):=fun L v y=>by
  unfold po;dsimp +instances only[gd,Aa,Ab,Ac,Ad,Ae,Af,Ag];simp only[a6];refine aa.pos rfl (aa.pos rfl ?_);refine aa.loop (ah3 (A:=A) (B:=B) (ac:=ac) (bc:=d) B h.sb (by omega) [[.s ac,.l A],[.s d,.l B]] oF (F:=fun k=>(db A d k,[])) (fun _=>rfl) v) (by first|rfl|simp) ?_;rintro c g ⟨rfl,q,I,M,rfl⟩;dsimp +instances only[gd,Aa,Ab,Ac,Ad,Ae,Af,Ag];simp only[a6];exact aa.pos rfl (aa.some ⟨q,I,by omega,rfl⟩)
 obtain⟨o,h0,L,v,y,rfl⟩:=s0;obtain⟨o,h1,q,I,M,rfl⟩:=s1 L v y;have s2:po [.s ac,.l A,.s d,.l B,.l (cO 0 q),.i (q.length:Int),.i oF,.l [[.s ac,.l A],[.s d,.l B]],.i 2,.i 2]=some (some 0,[.s ac,.l A,.s d,.l B,.l (cO 0 q),.i (q.length:Int),.i oF]):=by
  refine aa.toEq ?_;unfold po;dsimp +instances only[gd,Aa,Ab,Ac,Ad,Ae,Af,Ag];simp only[a6];exact aa.neg rfl (aa.some rfl)
 have key:aX po [.s ac,.l A,.s d,.l B,.l [],.i 0,.i oF,.l [[.s ac,.l A],[.s d,.l B]],.i 2,.i 0] 3 fun c g=>c=0/\∃ L,HI (sw A B ac d) L/\L.length<=1000/\g=[.s ac,.l A,.s d,.l B,.l (cO 0 L),.i (L.length:Int),.i oF]:=aX.next h0 (aX.next h1 (aX.stop s2 ⟨rfl,q,I,M,rfl⟩))
 exact key.to (by omega)
def ET(r:LG):List Nat × List Nat:=((gi (gi r 1).rV 0).rZ.map fun x=>(gi x 0).iV.toNat,(gi (gi r 1).rV 1).rZ.map fun x=>(gi x 0).iV.toNat)
theorem S1:∀(i:Nat) (L:List EV) (r:LG),r∈cO i L->∃(j:Nat) (e:EV),e∈L/\r=oE j e
 |_,[],_,h=>by cases h
 | i,e::L,r,h=>by
  rcases cq.1 h with rfl|h
  ·exact⟨i,e,cW,rfl⟩
  ·obtain ⟨j, d, h1, g⟩ := S1 (i + 1) L r h
   exact⟨j,d,dj _ h1,g⟩
theorem S2(j:Nat)(e:EV):ET (oE j e)=e.2:=by
 have key:∀ X:List Nat,(bl X).map (fun x=>(gi x 0).iV.toNat)=X:=fun X=>by
  unfold bl;rw[nI]
  conv=>rhs; rw[<-List.map_id X]
  exact mL fun x _=>a6 x
 exact Prod.ext (key e.2.1) (key e.2.2)
theorem S3{β:Type}(f:List Nat × List Nat->β):∀(i:Nat) (L:List EV),(cO i L).map (fun r=>f (ET r))=L.map fun e=>f e.2
 |_,[]=>rfl
 | i,e::L=>by
  simp only[cO,dx,S3 f (i+1) L,S2]
theorem S4:∀(i:Nat) (L:List EV),(cO i L).map fy=(fj L.length).map (i+·)
 |_,[]=>rfl
 | i,e::L=>by
  simp only[cO,dx,S4 (i+1) L,cd,akF,nI];rw[show fy (oE i e)=i from by simp[fy,oE,gi,G.iV]];congr 1;refine mL fun x _=>?_;simp only[Fk];omega
theorem ah5(L:List EV):ql (cO 0 L) L.length=true:=by
 have hb:(cO 0 L).map fy=fj L.length:=by
  rw[S4];simp
 unfold ql;rw[hb,aL];refine⟨Ja _ akG,?_⟩;rw[dK];intro r d;have:fy r∈(cO 0 L).map fy:=dw.2 ⟨r,d,rfl⟩;rw[hb,gH]at this;simpa using this
theorem S5:∀(i:Nat) (L:List EV),rI (cO i L)=true
 |_,[]=>rfl
 | i,e::L=>by
  have:=S5 (i+1) L;unfold rI at this|-;rw[cO,nK,this];rfl
def xH(A B:LL)(oF:Int)(p:List Nat × List Nat):LL:=(AP A B oF p.1 p.2).map (eJ p.1 p.2)
theorem S6{A B:LL}{ac d:BY}{oF:Int}{k:GK}:xH A B oF (sw A B ac d k)=gh A B ac d oF k:=rfl
theorem ah6{A B:LL}(h:uv A B){ac bc:BY}{oF:Int}{k:GK}:(gh A B ac bc oF k).length<=1000:=by
 unfold gh;rw[c9];exact kJ (RW _ _ _ _ _) (h.two.jc ac bc k).nX
theorem S7{A B:LL}(h:uv A B)(ac v:BY){oF:Int}(h1:oF<=3600000)(cJ:Nat){L:List EV}(I:HI (sw A B ac v) L):∀(q out:LL),(∀ r∈q,r∈cO 0 L)->out.length+1000*q.length<=1048576-1 ->
  f_ Eh (fun d=>(gi d 6).iV.toNat) q [.s ac,.l A,.s v,.l B,.l out,.i oF,.i (cJ:Int)] =
   some [.s ac,.l A,.s v,.l B,.l (out++(q.map fun r=>xH A B oF (ET r)).flatten),.i oF,.i (cJ:Int)]
 | [],out,_,_=>by simp[f_]
 | r::q,out,M,O=>by
  simp only[cd]at O;obtain⟨j,e,he,rfl⟩:=S1 0 _ r (M r cW);have y:=I.lT e he;have J:=h.two.jc ac v e.1;have R:sr (db A v e.1) (db B ac e.1):=⟨EC A v e.1,EC B ac e.1⟩
  have hlen:=ah6 h (ac:=ac) (bc:=v) (oF:=oF) (k:=e.1);have U:=ahU J R h1 ac v;have N:(cr A B (db A v e.1) (db B ac e.1) oF 0 0).1.map (eJ (db A v e.1) (db B ac e.1))=gh A B ac v oF e.1:=by
   rw[SO J h1];rfl
  have st:Eh (oE j e) [.s ac,.l A,.s v,.l B,.l out,.i oF,.i (cJ:Int)]=some [.s ac,.l A,.s v,.l B,.l (out++gh A B ac v oF e.1),.i oF,.i (cJ:Int)]:=by
   have V:(gi (gi (oE j e) 1).rV 0).rZ=bl (db A v e.1):=by
    show bl e.2.1=_
    rw[y];rfl
   have W:(gi (gi (oE j e) 1).rV 1).rZ=bl (db B ac e.1):=by
    show bl e.2.2=_
    rw[y];rfl
   refine aa.toEq ?_;unfold Eh;rw[V,W];dsimp +instances only[gd,Aa,Ab,Ac,Ad,Ae,Af,Ag];refine aa.call (P:=fun g=>g=[.l [i_ (db A v e.1) (db B ac e.1) (cr A B (db A v e.1) (db B ac e.1) oF 0 0)]]) (aa.eq U) ?_;rintro _ rfl;dsimp +instances only[gd,Aa,Ab,Ac,Ad,Ae,Af,Ag];have e3:(gi (i_ (db A v e.1) (db B ac e.1) (cr A B (db A v e.1) (db B ac e.1) oF 0 0)) 0).rZ=gh A B ac v oF e.1:=N;simp only[a6,e3];exact aa.pos (by
    show ((ar out.length out.length)&&decide (out.length+(gh A B ac v oF e.1).length<=1048576))=true
    rw[iM,j9,dT];omega) (aa.pos (by rw[iM]; rfl) (aa.some rfl))
  rw[R0 st rfl,S7 h ac v h1 cJ I q _ (fun x hx=>M x (dj _ hx)) (by rw[fX]; omega)];rw[dx,pI,S2,y,S6,gG]
theorem ah7:tZ xg AQ lU:=by
 rintro _ _ ⟨i,k,rfl,h1,q⟩ ⟨d,v,rfl,y,I⟩;have g:∀ n:Int,rM [.i n]=some [.i (if n<0 then -1 else if 0<n then 1 else 0)]:=fun n=>by
  refine aa.toEq ?_;unfold rM;dsimp +instances only[gd,Aa,Ab,Ac,Ad,Ae,Af,Ag];refine aa.test (fun h=>?_) fun h=>?_
  ·rw [cB, dT] at h
   rw[iP h];exact aa.some rfl
  ·rw [cB, dF] at h
   rw[iN h];refine aa.test (fun h=>?_) fun h=>?_
   ·rw [cB, dT] at h
    rw[iP h];exact aa.some rfl
   ·rw [cB, dF] at h
    rw[iN h];exact aa.some rfl
 refine⟨if (i:Int)-(d:Int)<0 then -1 else if 0<(i:Int)-(d:Int) then 1 else 0,?_,?_⟩
 ·refine aa.toEq ?_
  unfold xg;dsimp +instances only[gd,Aa,Ab,Ac,Ad,Ae,Af,Ag];refine aa.pos (c6.2 ⟨by omega,by omega⟩) ?_;refine aa.cE (g _) ?_;exact aa.some rfl
 ·show (if (i : Int) - (d : Int) < 0 then (-1 : Int) else if 0 < (i : Int) - (d : Int) then 1 else 0) < 0 ↔ fH (i : Int) (d : Int) < 0
  rw[um];split
  ·omega
  ·split<;>omega
theorem ah8{A B:LL}(h:iI A B)(ac d:BY)(oF:Int){out:LL}(g:out.Perm (gr A B ac d oF))(k:out.length<100000):Eg [.l out]=some [.l (jK A B ac d oF)]:=by
 have h1:=OC (C:=xg) (Q:=AQ) ah7 (AR.mono fun _ _=>trivial) out (fun y q=>xz h y (g.mem_iff.1 q)) k fun a ha b hb=>EG h ac d oF a (g.mem_iff.1 ha) b (g.mem_iff.1 hb);unfold Eg;rw[h1];have e:eI (cN lU) (gr A B ac d oF)=eI (cN lU) out:=Oz AR g.symm (fun _ _=>trivial) (EG h ac d oF);rw[<-e];rfl
theorem ah9{A B:LL}(h:iI A B)(ac g:BY)(oF:Int):(gr A B ac g oF).length<=1000:=by
 have na:=h.na;have I:((gr A B ac g oF).map fun r=>(gi r 0).iV.toNat).Nodup:=by
  unfold Kc;rw[xZ];refine(EF h ac g oF).imp_of_mem fun {x y} d N M he=>M ?_;obtain⟨i,k,rfl,_⟩:=xz h x d;obtain⟨q,U,rfl,_⟩:=xz h y N;have he:((i:Int)).toNat=((q:Int)).toNat:=he;show (i:Int)=(q:Int)
  omega
 have v:((gr A B ac g oF).map fun r=>(gi r 0).iV.toNat) ⊆ fj A.length:=by
  intro x d;obtain⟨r,O,rfl⟩:=dw.1 d;obtain⟨k,i,j,rfl,h1,_⟩:=EE h O;rw[gH];exact(oC.1 h1).1
 have:=AS A.length _ I fun x d=>gH.1 (v d);rw[c9]at this;omega
theorem ah_{A B:LL}{ac d:BY}{oF:Int}{L:List EV}(h:HI (sw A B ac d) L):((L.map fun e=>xH A B oF e.2).flatten).Perm (gr A B ac d oF):=by
 have v:=GI.to A d A.length;have y:(L.map fun e=>xH A B oF e.2)=(L.map (·.1)).map fun k=>gh A B ac d oF k:=by
  rw[nI];exact mL fun e he=>by
   rw[h.lT e he];rfl
 have I:(gE A d).map (fun e=>gh A B ac d oF e.1)=((gE A d).map (·.1)).map fun k=>gh A B ac d oF k:=by
  rw[nI];rfl
 unfold gr;rw[y,I];have drop:∀ l:List GK,(l.map fun k=>gh A B ac d oF k).flatten=((l.filter fun k=>decide (db A d k≠[])).map fun k=>gh A B ac d oF k).flatten:=by
  intro l
  induction l with
  |nil=>rfl
  | cons k l M =>
   rw[dx,pI,M,Fm];by_cases q:db A d k=[]
   ·rw [iN (by simp [q])]
    have:gh A B ac d oF k=[]:=by
     rw[<-S6];unfold sw;rw[q];rfl
    rw[this,ll]
   ·rw[iP (by simp[q]),dx,pI]
 rw[drop,drop ((gE A d).map (·.1))];refine((?_:List.Perm _ _).map _).flatten;refine(List.perm_ext_iff_of_nodup (h.nd.filter _) (v.nd.filter _)).2 fun k=>?_;rw[sQ,sQ];refine⟨fun⟨_,g⟩=>⟨?_,g⟩,fun⟨_,g⟩=>⟨?_,g⟩⟩
 ·have g : db A d k ≠ [] := of_decide_eq_true g
  obtain⟨e,he,rfl⟩:=v.all k g;exact dw.2 ⟨e,he,rfl⟩
 ·have g : db A d k ≠ [] := of_decide_eq_true g
  obtain⟨e,he,rfl⟩:=h.all k fun e=>g (congrArg Prod.fst e);exact dw.2 ⟨e,he,rfl⟩
theorem ah'{A B:LL}(h:uv A B)(ac d:BY){oF:Int}(h1:oF<=3600000){L:List EV}(q:HI (sw A B ac d) L)(N:L.length<=1000) :
  IJ [.s ac,.l A,.s d,.l B,.l (cO 0 L),.i (L.length:Int),.l [],.i oF]=some (some 0,[.l (jK A B ac d oF)]):=by
 show qm Ei Ej (cO 0 L) ((L.length:Int).toNat) _=_
 rw[a6];refine OA (ah5 _) fun b p g=>⟨rfl,?_⟩
 have M:p.length<=1000:=by
  have:=g.length_eq;rw[ER]at this;omega
 have k:((p.map fun r=>xH A B oF (ET r)).flatten).Perm (gr A B ac d oF):=by
  refine List.Perm.trans ?_ (ah_ q);rw[<-S3 (fun x=>xH A B oF x) 0 L];exact(g.map _).flatten
 have I:=ah9 h.two ac d oF;refine⟨_,S7 h ac d h1 b q p [] (fun r v=>g.mem_iff.1 v) (by simp; omega),?_⟩;rw[ll];refine aa.toEq ?_;unfold Ej;dsimp +instances only[gd,Aa,Ab,Ac,Ad,Ae,Af,Ag];have y:=k.length_eq;refine aa.pc (aa.eq (ah8 h.two ac d oF k (by omega))) (by simp) ?_;rintro _ rfl;dsimp +instances only[gd,Aa,Ab,Ac,Ad,Ae,Af,Ag];refine aa.pos ?_ (aa.some rfl);rw[y];unfold jK;rw[Dj,iM];rfl
theorem S8{A B:LL}(h:uv A B)(ac d:BY){oF:Int}(h1:oF<=3600000):Ay [.l [[.s ac,.l A]],.l [[.s d,.l B]],.i oF]=some [.l (jK A B ac d oF)]:=by
 refine aa.toEq ?_;unfold Ay;dsimp +instances only[gd,Aa,Ab,Ac,Ad,Ae,Af,Ag];refine aa.loop (ah4 h ac d oF) (by first|rfl|simp) ?_;rintro _ _ ⟨rfl,L,k,q,rfl⟩;dsimp +instances only[gd,Aa,Ab,Ac,Ad,Ae,Af,Ag];simp only[a6];refine aa.pos (by rw[S5]; rfl) ?_;refine aa.tail (P:=fun u g=>u=0/\g=[.l (jK A B ac d oF)]) ⟨_,ah' h ac d h1 k q,0,rfl,rfl,rfl⟩ (by first|rfl|simp) ?_;rintro _ _ ⟨rfl,rfl⟩;dsimp +instances only[gd,Aa,Ab,Ac,Ad,Ae,Af,Ag];exact aa.pos (by simp) (aa.some rfl)
end
end Go.Proofs.jq
