/-
 What is proved here: what the methods of the stream give on data. No condition.
-/
import Derived.Test.YtbogdflhnhohfaaGreatDoorML6
import Derived.Test.YtbogdflhnhohfaaGreatDoorME
set_option linter.all false
open Array renaming toList_inj->amF
open Bool renaming and_true->gX,and_eq_true->aK,false_eq_true->lz,true_and->jI,eq_iff_iff->nf,or_false->o9
open ByteArray renaming size_append->amO
open Function renaming comp->F3
open Go.ByteArray renaming toList_eq->qR
open Go.Lib renaming compareBytes->gI
open Int renaming toNat_natCast->aR,tmod->B0,tdiv->F6,tmod_lt_of_pos->amB,tmod_eq_emod_of_nonneg->amC,mul_nonneg->amD,le_refl->yz,le_trans->K_,eq_ofNat_of_zero_le->Lf
open List renaming length_cons->cn,append_nil->da,append_assoc->gG,length_map->c8,mem_map->dB,getElem?_map->bY,getElem_of_mem->pR,getElem?_eq_getElem->bZ,getElem?_eq_none->oX,getElem?_append_right->iY,getElem?_set_self->bB,getElem?_set->eC,all_eq_true->dN,getD_eq_getElem?_getD->cd,mem_cons->cq,map_cons->dC,cons_append->mr,ext_getElem?->jG,length_set->iE,length_append->fu,mem_append->db,flatten_cons->pT,map_map->n9,nil_append->lB,replicate->cB,length_range->oZ,mem_flatten->KP,mem_cons_self->cX,mem_cons_of_mem->dp,all_cons->oa,length_replicate->sW,map_append->jY,nodup_cons->pW,mem_singleton->kT,range->fo,mem_append_left->oe,map_congr_left->nc,any_eq_true->lG,mem_range->gH,length_nil->km,map_nil->u6,mem_filter->s9,not_mem_nil->qQ,getElem?_range->pX,getElem_mem->u7,mem_append_right->pY,filter_cons->F5,range_succ->Vx,pairwise_map->yy,pairwise_iff_getElem->K5,pairwise_cons->s_,any_cons->ta,eq_replicate_iff->Lb,getElem?_replicate->amH,sum_cons->VC,foldl_append->amI,filter_nil->VD,nodup_append->Ld,length_filter_le->amJ,Nodup->Le,range_succ_eq_map->amK,nodup_range->amL,append_inj'->amN
open List.Pairwise renaming take->ane
open Nat renaming le_refl->aM,le_trans->kR,zero_le->eV,lt_or_ge->mo,zero_add->cP,beq->aG,sub_self->lF,ble->dS,ble_eq->s7,beq_refl->i_,exists_eq_add_of_le->amG,lt_trichotomy->La,le_succ_of_le->Lc,succ_le_succ->B1,le_of_not_lt->amM
open Option renaming map_some->ff,getD_some->m_
open UInt8 renaming le_antisymm->K8,not_lt->u9,lt_irrefl->VB,lt_trans->amE,ofNat->Lg
namespace Go.Proofs.iQ
open Go Go.AL Go.Proofs
noncomputable section
def JL(x n:Int)(h0:1<=n)(h1:n<=1099511627776):aa (wY [.i x,.i n]) fun g=>∃ v,g=[.i v]/\0<=v/\v<n:=by
 unfold wY;dsimp +instances only[go_sem];have ha:=amB x (by omega:0<n);have hb:=Int.lt_tmod_of_pos x (by omega:0<n);(repeat first|refine aa.p ?_|refine aa.n ?_);refine aa.test (fun h=>?_) fun h=>?_
 ·simp only [cK, dT] at h
  (repeat first|refine aa.p ?_|refine aa.n ?_);exact aa.some ⟨_,rfl,by omega,by omega⟩
 ·simp only [cK, dF] at h
  exact aa.some ⟨_,rfl,by omega,by omega⟩
def uD(l:LL)(a n:Int)(ha:0<=a)(O:a<=1000000)(h0:1<=n)(h1:n<=1099511627776) :
  aa (pE [.l l,.i a,.i n]) fun g=>∃ v,g=[.l l,.i (a+1),.i v]/\0<=v/\v<n:=by
 unfold pE;dsimp +instances only[go_sem];have y:a+1-1=a:=by omega
 simp only[y];by_cases U:l.length=0
 ·(repeat first|refine aa.p ?_|refine aa.n ?_)
  refine aa.call (JL _ n h0 h1) ?_;rintro _ ⟨v,rfl,d,h⟩;dsimp +instances only[go_sem];exact aa.some ⟨v,rfl,d,h⟩
 ·have I : (0 : Int) < (l.length : Int) := by omega
  have M:0<=F6 a l.length:=Int.tdiv_nonneg ha (by omega);have V:F6 a l.length<=a:=by
   rw[Int.tdiv_eq_ediv_of_nonneg ha];exact Int.ediv_le_self _ ha
  have W:0<=B0 a l.length:=by
   rw[amC ha];exact Int.emod_nonneg _ (by omega)
  have m1:B0 a l.length<l.length:=amB a I;have m2:B0 a l.length<=a:=by
   rw[amC ha];have:=Int.mul_ediv_add_emod a l.length;have k:0<=(l.length:Int)*(a / l.length):=amD (by omega) (Int.ediv_nonneg ha (by omega));omega
  generalize hq:F6 a l.length=q at *;generalize hr:B0 a l.length=r at *;have p0:0<=q*(7919+r):=amD M (by omega);have p1:q*(7919+r)<=1000000*2000000:=Int.mul_le_mul (by omega) (by omega) (by omega) (by omega);generalize hz:q*(7919+r)=z at *;(repeat first|refine aa.p ?_|refine aa.n ?_);refine aa.call (JL _ 1073741824 (by omega) (by omega)) ?_;rintro _ ⟨u,rfl,d,h⟩;dsimp +instances only[go_sem];(repeat first|refine aa.p ?_|refine aa.n ?_);refine aa.call (JL _ n h0 h1) ?_;rintro _ ⟨v,rfl,k,N⟩;dsimp +instances only[go_sem];exact aa.some ⟨v,rfl,k,N⟩
def JM(l:LL)(a lo hi:Int)(ha:0<=a)(d:a<=1000000)(h0:lo<=hi)(h1 : -1000000000<=lo)(h:hi<=1000000000) :
  aa (wZ [.l l,.i a,.i lo,.i hi]) fun g=>∃ v,g=[.l l,.i (a+1),.i v]/\lo<=v/\v<=hi:=by
 unfold wZ;dsimp +instances only[go_sem];(repeat first|refine aa.p ?_|refine aa.n ?_);refine aa.call (uD l a _ ha d (by omega) (by omega)) ?_;rintro _ ⟨v,rfl,k,q⟩;dsimp +instances only[go_sem];(repeat first|refine aa.p ?_|refine aa.n ?_);exact aa.some ⟨_,rfl,by omega,by omega⟩
def SR{l:LL}{v:Int}(h0:0<=v)(h1:v<l.length):l.getD v.toNat []∈l:=by
 have:v.toNat<l.length:=by omega
 rw[cd,bZ this];exact u7 this
def SS(P:Int->Prop)(l:LL)(a:Int)(d:LL)(ha:0<=a)(h:a<=1000000)(h0:1<=d.length)(h1:d.length<=1000000)(k:∀ x∈d,P (gi x 0).iV) :
  aa (mO [.l l,.i a,.l d]) fun g=>∃ v,g=[.l l,.i (a+1),.i v]/\P v:=by
 unfold mO;dsimp +instances only[go_sem];refine aa.call (uD l a _ ha h (by omega) (by omega)) ?_;rintro _ ⟨v,rfl,q,y⟩;dsimp +instances only[go_sem];(repeat first|refine aa.p ?_|refine aa.n ?_);exact aa.some ⟨_,rfl,k _ (SR q y)⟩
def JN(P:BY->Prop)(l:LL)(a:Int)(d:LL)(ha:0<=a)(h:a<=1000000)(h0:1<=d.length)(h1:d.length<=1000000)(k:∀ x∈d,P (gi x 0).sV) :
  aa (jg [.l l,.i a,.l d]) fun g=>∃ v,g=[.l l,.i (a+1),.s v]/\P v:=by
 unfold jg;dsimp +instances only[go_sem];refine aa.call (uD l a _ ha h (by omega) (by omega)) ?_;rintro _ ⟨v,rfl,q,y⟩;dsimp +instances only[go_sem];(repeat first|refine aa.p ?_|refine aa.n ?_);exact aa.some ⟨_,rfl,k _ (SR q y)⟩
def Bd(l:LL)(a n:Int)(ha:0<=a)(d:a<=1000000)(h0:1<=n)(h1:n<=1000000) :
  aa (rY [.l l,.i a,.i n]) fun g=>∃ b,g=[.l l,.i (a+1),.t b]:=by
 unfold rY;dsimp +instances only[go_sem];refine aa.call (uD l a _ ha d (by omega) (by omega)) ?_;rintro _ ⟨v,rfl,h,k⟩;exact aa.some ⟨_,rfl⟩
def E_(l:LL)(a lo hi:Int)(ha:0<=a)(I:a<=900000)(h0:lo<=hi)(h1 : -1000000000<=lo)(y:hi<=1000000000) :
  aa (uv [.l l,.i a,.i lo,.i hi]) fun g=>∃ v,g=[.l l,.i (a+2),.i v] /\ -1099511627776<=v/\(v<=1000000001\/v=1099511627776):=by
 unfold uv;dsimp +instances only[go_sem];have d:a+1+1=a+2:=by omega
 refine aa.call (Bd l a 12 ha (by omega) (by omega) (by omega)) ?_;rintro _ ⟨b,rfl⟩;dsimp +instances only[go_sem];cases b with
 | true =>
  (repeat first|refine aa.p ?_|refine aa.n ?_);refine aa.call (SS (fun v => -1099511627776<=v/\(v<=1000000001\/v=1099511627776)) l (a+1) _ (by omega) (by omega) (by simp) (by simp) ?_) ?_
  ·intro x h
   simp only[cq,qQ,or_false]at h;rcases h with rfl|rfl|rfl|rfl|rfl|rfl<;>(dsimp +instances only[go_sem])<;>omega
  ·rintro _ ⟨v, rfl, k, q⟩
   dsimp +instances only[go_sem];exact aa.some ⟨v,by rw[d],k,q⟩
 | false =>
  (repeat first|refine aa.p ?_|refine aa.n ?_);refine aa.call (JM l (a+1) lo hi (by omega) (by omega) h0 h1 y) ?_;rintro _ ⟨v,rfl,k,q⟩;dsimp +instances only[go_sem];exact aa.some ⟨v,by rw[d],by omega,by omega⟩
def nM(L:List BY)(s:BY):Bool:=L.any fun x=>wX x s
def oS{L:List BY}{s:BY}(h:nM L s=true):s∈L:=by
 obtain⟨x,d,he⟩:=lG.1 h;exact PD he▸d
def sq(lo hi:Int)(l:LL)(a:Int)(d:LL)(ha:0<=a)(h:a<=1000000)(h0:(dS 1 d.length&&dS d.length 1000000)=true) (k:(d.all fun x=>bp lo (gi x 0).iV&&bp (gi x 0).iV hi)=true) :
  aa (mO [.l l,.i a,.l d]) fun g=>∃ v,g=[.l l,.i (a+1),.i v]/\lo<=v/\v<=hi:=by
 simp only[aK,s7]at h0;refine SS (fun v=>lo<=v/\v<=hi) l a d ha h h0.1 h0.2 fun x q=>?_;have:=dN.1 k x q;simpa only[eX,aK,dT]using this
def l8(L:List BY)(l:LL)(a:Int)(d:LL)(ha:0<=a)(h:a<=1000000)(h0:(dS 1 d.length&&dS d.length 1000000)=true) (k:(d.all fun x=>nM L (gi x 0).sV)=true) :
  aa (jg [.l l,.i a,.l d]) fun g=>∃ v,g=[.l l,.i (a+1),.s v]/\v∈L:=by
 simp only[aK,s7]at h0;exact JN (fun v=>v∈L) l a d ha h h0.1 h0.2 fun x q=>oS (dN.1 k x q)
def calls:List BY:=[⟨#[]⟩,⟨#[107,49]⟩,⟨#[75,49,65,66]⟩,⟨#[107,49,97,98,47]⟩,⟨#[49,97]⟩,⟨#[107,49,97,98,47,109,109,47,112]⟩,⟨#[107,49,97,98]⟩,⟨#[107,49,97,97]⟩,⟨#[107,49,97,98,47,52]⟩,
 ⟨#[111,104,50,97,98,99]⟩,⟨#[111,104,50,97,98,100]⟩,⟨#[119,49,97,119]⟩,⟨#[110,49,109,109]⟩,⟨#[103,51,120,121,122,47,112]⟩,⟨#[119,49,97,120]⟩]
def kM:List BY:=[⟨#[]⟩,⟨#[66]⟩,⟨#[98,50,48]⟩,⟨#[98,52,48]⟩,⟨#[98]⟩,⟨#[99]⟩]
def names:List BY:=[⟨#[]⟩,⟨#[65]⟩,⟨#[49]⟩,⟨#[102,105,110]⟩,⟨#[117,115,97]⟩,⟨#[120]⟩]
def small(n:Int):Prop := -2000000000000<=n/\n<=2000000000000
def c9(r:LG):Prop:=∃(t m:Int) (b c:BY) (s h:Int) (x y:BY),r=[.i t,.i m,.s b,.s c,.i s,.i h,.s x,.s y]/\small t/\small m/\small s/\small h/\b∈kM/\c∈calls/\x∈names/\y∈names
def tight(n:Int):Prop := -1900000000000<=n/\n<=1900000000000
def uE(n:Int):Prop := -1900000000000<=n/\(n<=345000000000\/(345686399999<n/\n<=1900000000000))
def JO(r:LG):Prop:=∃(t m:Int) (b c:BY) (s h:Int) (x y:BY),r=[.i t,.i m,.s b,.s c,.i s,.i h,.s x,.s y]/\uE t/\tight m/\tight s/\tight h/\b∈kM/\c∈calls/\x∈names/\y∈names
def tight.to{n:Int}(h:tight n):small n:=⟨by have:=h.1; omega,by have:=h.2; omega⟩
def uE.to{n:Int}(h:uE n):small n:=by
 unfold uE at h;exact⟨by omega,by omega⟩
def JO.to{r:LG}(h:JO r):c9 r:=by
 obtain⟨t,m,b,c,s,h,x,y,e,h1,d,g,k,q⟩:=h;exact⟨t,m,b,c,s,h,x,y,e,h1.to,d.to,g.to,k.to,q⟩
def c9.eta{r:LG}(h:c9 r):aQ [.I,.I,.str,.str,.I,.I,.str,.str] r=r:=by
 obtain⟨t,m,b,c,s,h,x,y,rfl,_⟩:=h;rfl
def ai1(l:LL)(a:Int)(ha:0<=a)(k:a<=900000):aa (D5 [.l l,.i a]) fun g=>∃ v,g=[.l l,.i (a+2),.s v]/\v∈calls:=by
 unfold D5;dsimp +instances only[go_sem];have d:a+1+1=a+2:=by omega
 refine aa.call (Bd l a 60 ha (by omega) (by omega) (by omega)) ?_;rintro _ ⟨b,rfl⟩;dsimp +instances only[go_sem];cases b with
 | true =>
  (repeat first|refine aa.p ?_|refine aa.n ?_);refine aa.call (l8 calls l (a+1) _ (by omega) (by omega) (by kernel_rfl) (by kernel_rfl)) ?_;rintro _ ⟨v,rfl,h⟩;exact aa.some ⟨v,by(dsimp +instances only[go_sem]); rw[d],h⟩
 | false =>
  (repeat first|refine aa.p ?_|refine aa.n ?_);refine aa.call (l8 calls l (a+1) _ (by omega) (by omega) (by kernel_rfl) (by kernel_rfl)) ?_;rintro _ ⟨v,rfl,h⟩;exact aa.some ⟨v,by(dsimp +instances only[go_sem]); rw[d],h⟩
def ai2(l:LL)(a t:Int)(ha:0<=a)(ha1:a<=800000)(d:uE t) :
  aa (D6 [.l l,.i a,.i t]) fun g=>∃ b r,g=[.l l,.i b,.l [r]]/\a<=b/\b<=a+20/\JO r:=by
 unfold uE at d;unfold D6;dsimp +instances only[go_sem];refine aa.call (sq 1 3 l a _ ha (by omega) (by kernel_rfl) (by kernel_rfl)) ?_;rintro _ ⟨m,rfl,hm⟩;dsimp +instances only[go_sem];refine aa.call (l8 kM l _ _ (by omega) (by omega) (by kernel_rfl) (by kernel_rfl)) ?_;rintro _ ⟨v,rfl,hb⟩;dsimp +instances only[go_sem];refine aa.call (ai1 l _ (by omega) (by omega)) ?_;rintro _ ⟨c,rfl,q⟩;dsimp +instances only[go_sem];refine aa.call (sq 0 7 l _ _ (by omega) (by omega) (by kernel_rfl) (by kernel_rfl)) ?_;rintro _ ⟨s,rfl,hs⟩;dsimp +instances only[go_sem];refine aa.call (sq 0 9 l _ _ (by omega) (by omega) (by kernel_rfl) (by kernel_rfl)) ?_;rintro _ ⟨h,rfl,hh⟩;dsimp +instances only[go_sem];refine aa.call (l8 names l _ _ (by omega) (by omega) (by kernel_rfl) (by kernel_rfl)) ?_;rintro _ ⟨x,rfl,I⟩;dsimp +instances only[go_sem];refine aa.call (l8 names l _ _ (by omega) (by omega) (by kernel_rfl) (by kernel_rfl)) ?_;rintro _ ⟨y,rfl,M⟩;dsimp +instances only[go_sem];refine aa.call (Bd l _ 100 (by omega) (by omega) (by omega) (by omega)) ?_;rintro _ ⟨f,rfl⟩;dsimp +instances only[go_sem];cases f with
 | false =>
  (repeat first|refine aa.p ?_|refine aa.n ?_);exact aa.some ⟨_,_,rfl,by omega,by omega,t,m,v,c,s,h,x,y,rfl,d,⟨by omega,by omega⟩,⟨by omega,by omega⟩,⟨by omega,by omega⟩,hb,q,I,M⟩
 | true =>
  (repeat first|refine aa.p ?_|refine aa.n ?_);refine aa.call (uD l _ 4 (by omega) (by omega) (by omega) (by omega)) ?_;rintro _ ⟨k,rfl,hk⟩;dsimp +instances only[go_sem];by_cases N:k=0
  ·subst N
   (repeat first|refine aa.p ?_|refine aa.n ?_);refine aa.call (E_ l _ 0 500 (by omega) (by omega) (by omega) (by omega) (by omega)) ?_;rintro _ ⟨t',rfl,ht'⟩;dsimp +instances only[go_sem];refine aa.call (E_ l _ 1 3 (by omega) (by omega) (by omega) (by omega) (by omega)) ?_;rintro _ ⟨m',rfl,hm'⟩;dsimp +instances only[go_sem];exact aa.some ⟨_,_,rfl,by omega,by omega,t',m',v,c,s,h,x,y,rfl,⟨by omega,by omega⟩,⟨by omega,by omega⟩,⟨by omega,by omega⟩,⟨by omega,by omega⟩,hb,q,I,M⟩
  ·refine aa.neg (by simpa using N) ?_
   by_cases O:k=1
   ·subst O
    (repeat first|refine aa.p ?_|refine aa.n ?_);refine aa.call (l8 kM l _ _ (by omega) (by omega) (by kernel_rfl) (by kernel_rfl)) ?_;rintro _ ⟨b',rfl,V⟩;dsimp +instances only[go_sem];exact aa.some ⟨_,_,rfl,by omega,by omega,t,m,b',c,s,h,x,y,rfl,d,⟨by omega,by omega⟩,⟨by omega,by omega⟩,⟨by omega,by omega⟩,V,q,I,M⟩
   ·refine aa.neg (by simpa using O) ?_
    by_cases U:k=2
    ·subst U
     (repeat first|refine aa.p ?_|refine aa.n ?_);refine aa.call (E_ l _ 0 99999 (by omega) (by omega) (by omega) (by omega) (by omega)) ?_;rintro _ ⟨s',rfl,hs'⟩;dsimp +instances only[go_sem];refine aa.call (E_ l _ 0 99999 (by omega) (by omega) (by omega) (by omega) (by omega)) ?_;rintro _ ⟨h',rfl,hh'⟩;dsimp +instances only[go_sem];exact aa.some ⟨_,_,rfl,by omega,by omega,t,m,v,c,s',h',x,y,rfl,d,⟨by omega,by omega⟩,⟨by omega,by omega⟩,⟨by omega,by omega⟩,hb,q,I,M⟩
    ·refine aa.neg (by simpa using U) ?_
     refine aa.call (l8 names l _ _ (by omega) (by omega) (by kernel_rfl) (by kernel_rfl)) ?_;rintro _ ⟨x',rfl,W⟩;dsimp +instances only[go_sem];refine aa.call (l8 names l _ _ (by omega) (by omega) (by kernel_rfl) (by kernel_rfl)) ?_;rintro _ ⟨y',rfl,hy'⟩;dsimp +instances only[go_sem];exact aa.some ⟨_,_,rfl,by omega,by omega,t,m,v,c,s,h,x',y',rfl,d,⟨by omega,by omega⟩,⟨by omega,by omega⟩,⟨by omega,by omega⟩,hb,q,W,hy'⟩
def fL(a b:Int):Int:=if a<b then -1 else if b<a then 1 else 0
def SU:∀{a b:List UInt8},gI a b=0->a=b
 | [],[],_=>rfl
 | [],_::_,h=>by simp[gI]at h
 |_::_,[],h=>by simp[gI]at h
 | x::a,y::b,h=>by
  unfold gI at h;split at h
  ·cases h
  ·split at h
   ·cases h
   ·rename_i h1 d
    rw[SU h,K8 (u9.1 d) (u9.1 h1)]
def SV:∀ a:List UInt8,gI a a=0
 | []=>rfl
 |x::a=>by simp[gI,SV a]
def JP(a b:BY):(a.toList==b.toList)=decide (eT a b=0):=by
 rw[qR,qR,nf,dT,beq_iff_eq];constructor
 ·intro h
  unfold eT;rw[h];exact SV _
 ·exact fun h=>SU h
def Be(a b c d:Int):Int:=if a≠0 then a else if b≠0 then b else if c≠0 then c else d
def dw(r s:LG):Int:=Be (fL (gi r 0).iV (gi s 0).iV) (eT (gi r 3).sV (gi s 3).sV) (eT (gi r 2).sV (gi s 2).sV) (fL (gi r 1).iV (gi s 1).iV)
def sign_eq(a b:Int):r7 [.i (a-b)]=some [.i (fL a b)]:=by
 refine aa.toEq ?_;unfold r7 fL;dsimp +instances only[go_sem];by_cases h1:a<b
 ·(repeat first|refine aa.p ?_|refine aa.n ?_)
  exact aa.some (by simp[h1])
 ·by_cases d : b < a
  ·(repeat first|refine aa.p ?_|refine aa.n ?_)
   exact aa.some (by simp[h1,d])
  ·(repeat first|refine aa.p ?_|refine aa.n ?_)
   exact aa.some (by simp[h1,d])
def Fa{r s:LG}(q:c9 r)(v:c9 s):r8 [.l [r],.l [s]]=some [.i (dw r s)]:=by
 obtain⟨t,m,b,c,_,_,_,_,rfl,N,hm,_⟩:=q;obtain⟨t',m',d,g,_,_,_,_,rfl,I,M,_⟩:=v;unfold small at *;refine aa.toEq ?_;unfold r8 dw Be;dsimp +instances only[go_sem];simp only[JP];by_cases y:t=t'
 ·subst y
  have z:fL t t=0:=by simp[fL]
  simp only[z];(repeat first|refine aa.p ?_|refine aa.n ?_);by_cases h:eT c g=0
  ·simp only [h]
   (repeat first|refine aa.p ?_|refine aa.n ?_);by_cases k:eT b d=0
   ·simp only [k]
    (repeat first|refine aa.p ?_|refine aa.n ?_);refine aa.cE (sign_eq m m') ?_;dsimp +instances only[go_sem];exact aa.some (by simp)
   ·refine aa.pos (by simpa using k) (aa.call (aa.eq (rfl : oP [.s b, .s d] = some [.i (eT b d)])) ?_)
    rintro _ rfl;dsimp +instances only[go_sem];exact aa.some (by simp[k])
  ·refine aa.pos (by simpa using h) (aa.call (aa.eq (rfl : oP [.s c, .s g] = some [.i (eT c g)])) ?_)
   rintro _ rfl;dsimp +instances only[go_sem];exact aa.some (by simp[h])
 ·(repeat first|refine aa.p ?_|refine aa.n ?_)
  refine aa.cE (sign_eq t t') ?_;dsimp +instances only[go_sem];have z:fL t t'≠0:=by
   unfold fL;split
   ·omega
   ·split<;>omega
  exact aa.some (by simp[z])
def Fb(a b:Int):xc [.i a,.i b]=some [.i (fL a b)]:=by
 refine aa.toEq ?_;unfold xc Ee fL;dsimp +instances only[go_sem];simp only[bne_self_eq_false];refine aa.call ⟨_,rfl,rfl⟩ ?_;rintro _ rfl;refine aa.call ⟨_,rfl,rfl⟩ ?_;rintro _ rfl;dsimp +instances only[go_sem];(repeat first|refine aa.p ?_|refine aa.n ?_);by_cases h1:a<b
 ·(repeat first|refine aa.p ?_|refine aa.n ?_)
  exact aa.some (by simp[h1])
 ·by_cases d : b < a
  ·(repeat first|refine aa.p ?_|refine aa.n ?_)
   exact aa.some (by simp[h1,d])
  ·(repeat first|refine aa.p ?_|refine aa.n ?_)
   exact aa.some (by simp[h1,d])
def sr:LL->Int
 | []=>0
 |x::q=>if (gi x 0).iV≠0 then (gi x 0).iV else sr q
def SX:∀(q p:LL),p.length+q.length<100000 ->
  a6 xd [.i 0,.l (p++q),.i ((p.length+q.length:Nat):Int),.i (p.length:Int)] (q.length+1) fun c g=>c<=1/\g=[.i (sr q)]
 | [],p,h=>by
  refine a6.stop (x:=1) (aa.toEq ?_) ⟨by omega,rfl⟩;unfold xd;dsimp +instances only[go_sem];(repeat first|refine aa.p ?_|refine aa.n ?_);exact aa.some rfl
 | y::q,p,h=>by
  simp only[cn]at h;have k:(p++y::q).getD (p.length:Int).toNat []=y:=nK _ _ _ _ _ (by simp);have d:(p++y::q).length=p.length+q.length+1:=by simp; omega
  by_cases he:(gi y 0).iV=0
  ·have v := SX q (p ++ [y]) (by simp; omega)
   have e:sr (y::q)=sr q:=by simp[sr,he]
   rw[e];refine a6.next (aa.toEq ?_) v
   unfold xd;dsimp +instances only[go_sem];simp only[k,d,cn];(repeat first|refine aa.p ?_|refine aa.n ?_);refine aa.some ?_;simp;omega
  ·refine a6.stop (x := 0) (aa.toEq ?_) ⟨by omega, rfl⟩
   unfold xd;dsimp +instances only[go_sem];simp only[k,d,cn];(repeat first|refine aa.p ?_|refine aa.n ?_);refine aa.some ?_;simp[sr,he]
def or_eq(a b c d:Int):Ef [.l [[.i a],[.i b],[.i c],[.i d]]]=some [.i (Be a b c d)]:=by
 refine aa.toEq ?_;unfold Ef;dsimp +instances only[go_sem];have h:=SX [[.i a],[.i b],[.i c],[.i d]] [] (by simp);refine aa.loop (h.to (by simp)) (by(first|rfl|assumption|(simp only[ay,sl]<;>omega))) ?_;rintro x g ⟨y,rfl⟩;have e:sr [[.i a],[.i b],[.i c],[.i d]]=Be a b c d:=by
  simp only[sr,Be];dsimp +instances only[go_sem];by_cases h1:a=0<;>by_cases k:b=0<;>by_cases q:c=0<;>by_cases v:d=0<;>simp[h1,k,q,v]
 rw[e];dsimp +instances only[go_sem];exact aa.test (fun _=>aa.some rfl) fun _=>aa.some rfl
def JQ{r s:LG}(h:c9 r)(k:c9 s):uw [.l [r],.l [s]]=some [.i (dw r s)]:=by
 obtain⟨t,m,b,c,_,_,_,_,rfl,y,hm,_⟩:=h;obtain⟨t',m',d,g,_,_,_,_,rfl,q,v,_⟩:=k;refine aa.toEq ?_;unfold uw;dsimp +instances only[go_sem];refine aa.cE (Fb t t') ?_;refine aa.cE (rfl:oP [.s c,.s g]=some [.i (eT c g)]) ?_;refine aa.cE (rfl:oP [.s b,.s d]=some [.i (eT b d)]) ?_;refine aa.cE (Fb m m') ?_;dsimp +instances only[go_sem];refine aa.cE (or_eq _ _ _ _) ?_;exact aa.some rfl
def SY:uk [.I,.I,.str,.str,.I,.I,.str,.str] r8 c9 dw:=⟨fun _ _ d g=>Fa d g,fun _ h=>h.eta⟩
def ai3:uk [.I,.I,.str,.str,.I,.I,.str,.str] uw c9 dw:=⟨fun _ _ d g=>JQ d g,fun _ h=>h.eta⟩
def er(v lo hi:Int):Bool:=bp lo v&&bp v hi
def JR(v lo hi:Int):oQ [.i v,.i lo,.i hi]=some [.t (er v lo hi)]:=by
 unfold oQ er;dsimp +instances only[go_sem];cases bp lo v<;>rfl
def Bf(v lo hi:Int):se [.i v,.i lo,.i hi]=some [.t (!er v lo hi)]:=by
 unfold se er;dsimp +instances only[go_sem];have h1:aO v lo = !bp lo v:=by rw[cK,eX,nf]; simp
 have d:aO hi v = !bp v hi:=by rw[cK,eX,nf]; simp
 rw[h1,d];cases bp lo v<;>cases bp v hi<;>rfl
def pJ(s:BY):Bool:=nM [⟨#[98,50,48]⟩,⟨#[98,52,48]⟩,⟨#[102,105,110]⟩,⟨#[117,115,97]⟩,⟨#[120]⟩,⟨#[98]⟩,⟨#[99]⟩] s
def pK(s:BY):Bool:=nM [⟨#[]⟩] s||pJ s
def jB(s:BY):Bool:=(gi ((AB [.s s]).getD []) 0).bV
def ai4{s:BY}(h:s∈kM\/s∈names):Eb [.s s]=some [.t (pJ s)]:=by
 simp only[kM,names,cq,qQ,or_false]at h;rcases h with(rfl|rfl|rfl|rfl|rfl|rfl)|(rfl|rfl|rfl|rfl|rfl|rfl)<;>kernel_rfl
def JS{s:BY}(h:s∈kM\/s∈names):AS [.s s]=some [.t (pJ s)]:=by
 simp only[kM,names,cq,qQ,or_false]at h;rcases h with(rfl|rfl|rfl|rfl|rfl|rfl)|(rfl|rfl|rfl|rfl|rfl|rfl)<;>kernel_rfl
def SZ{s:BY}(h:s∈names):Ec [.s s]=some [.t (pK s)]:=by
 simp only[names,cq,qQ,or_false]at h;rcases h with(rfl|rfl|rfl|rfl|rfl|rfl)<;>kernel_rfl
def S0{s:BY}(h:s∈calls):AB [.s s]=some [.t (jB s)]:=by
 simp only[calls,cq,qQ,or_false]at h;rcases h with(rfl|rfl|rfl|rfl|rfl|rfl|rfl|rfl|rfl|rfl|rfl|rfl|rfl|rfl|rfl)<;>kernel_rfl
def JT{s:BY}(h:s∈calls):AR [.s s]=some [.t (jB s)]:=by
 simp only[calls,cq,qQ,or_false]at h;rcases h with(rfl|rfl|rfl|rfl|rfl|rfl|rfl|rfl|rfl|rfl|rfl|rfl|rfl|rfl|rfl)<;>kernel_rfl
def iR(r:LG):Int :=
 bif !er (gi r 0).iV 0 345686399999 then 1 else bif !er (gi r 1).iV 1 3 then 4 else bif !pJ (gi r 2).sV then 5 else bif !jB (gi r 3).sV then 3 else
 bif !er (gi r 4).iV 0 99999 then 1 else bif !er (gi r 5).iV 0 99999 then 1 else bif !pK (gi r 6).sV then 5 else bif !pK (gi r 7).sV then 5 else 0
def ai5{r:LG}(d:c9 r):Ed [.l [r]]=some [.i (iR r)]:=by
 obtain⟨t,m,b,c,s,h,x,y,rfl,_,_,_,_,hb,g,k,q⟩:=d;unfold Ed Jg Jh iR;dsimp +instances only[go_sem];have v:=ai4 (.inl hb);have I:=SZ k;have M:=SZ q;have N:=S0 g;rw[Bf t,Bf m];rw[v,N,Bf s,Bf h,I,M];generalize er t 0 345686399999=O;generalize er m 1 3=U;generalize pJ b=V;generalize jB c=W;generalize er s 0 99999=b5;generalize er h 0 99999=b6;generalize pK x=b7;generalize pK y=b8;cases O<;>cases U<;>cases V<;>cases W<;>cases b5<;>cases b6<;>cases b7<;>cases b8<;>rfl
def empty_eq(s:BY):(s.toList==(⟨#[]⟩:BY).toList)=nM [⟨#[]⟩] s:=by
 rw[qR,qR];simp only[nM,wX,ta,List.any_nil,o9];rw[nf];simp only[beq_iff_eq];exact eq_comm
def ai6{r:LG}(q:c9 r):EE [.l [r]]=some [.i (iR r)]:=by
 obtain⟨t,m,b,c,s,h,x,y,rfl,_,_,_,_,hb,v,I,M⟩:=q;unfold EE Jw iR pK;dsimp +instances only[go_sem];have N:=JS (.inl hb);have O:=JS (.inr I);have U:=JS (.inr M);have V:=JT v;have d:=empty_eq x;have g:=empty_eq y;generalize (⟨#[]⟩:BY)=z at d g|-;simp only[JR,ZK rfl,N,V,O,U];dsimp +instances only[go_sem];rw[d,g];generalize er t 0 345686399999=W;generalize er m 1 3=b2;generalize pJ b=b3;generalize jB c=b4;generalize er s 0 99999=b5;generalize er h 0 99999=b6;generalize pJ x=b7;generalize pJ y=b8;generalize nM [z] x=b9;generalize nM [z] y=k;cases W<;>cases b2<;>cases b3<;>cases b4<;>cases b5<;>cases b6<;>cases b7<;>cases b8<;>cases b9<;>cases k<;>rfl
def uF(K:List Kd)(C D:LG->Option LG)(d:LG):Option (Option Nat × LG) :=
 (bif (aO (gi d 3).iV (gi d 2).iV) then (bif ((cJ (gi d 3).iV)&&(aO (gi d 3).iV (((gi d 1).rZ.length:Nat):Int))) then (aB (C [.l [(aQ K ((gi d 1).rZ.getD (((gi d 3).iV).toNat) []))]]) fun g=>(bif ((gi g 0).iV != 0) then some (some 0,[.i (gi g 0).iV]) else (bif (aO 0 (gi d 3).iV) then (bif (ay ((gi d 3).iV-1)) then (bif ((cJ ((gi d 3).iV-1))&&(aO ((gi d 3).iV-1) (((gi d 0).rZ.length:Nat):Int))) then (aB (D [.l [(aQ K ((gi d 0).rZ.getD (((gi d 3).iV-1).toNat) []))],.l [(aQ K ((gi d 1).rZ.getD (((gi d 3).iV).toNat) []))]]) fun h=>(bif (bp 0 (gi h 0).iV) then some (some 0,[.i 7]) else (bif (ay ((gi d 3).iV+1)) then some (none,[.l (gi d 0).rZ,.l (gi d 1).rZ,.i (gi d 2).iV,.i ((gi d 3).iV+1)]) else none))) else none) else none) else (bif (ay ((gi d 3).iV+1)) then some (none,[.l (gi d 0).rZ,.l (gi d 1).rZ,.i (gi d 2).iV,.i ((gi d 3).iV+1)]) else none)))) else none) else some (some 1,[]))
def S1(K:List Kd)(C D:LG->Option LG)(d:LG):Option LG :=
 (bif (aO 2000 (((gi d 0).rZ.length:Nat):Int)) then some [.i 2] else (ba true (bN (uF K C D) [.l (gi d 0).rZ,.l (gi d 0).rZ,.i (((gi d 0).rZ.length:Nat):Int),.i 0]) fun g h=>(bif aG g 0 then some [.i (gi h 0).iV] else some [.i 0])))
def jC:Option LG->LL->Int
 |_,[]=>0
 |none,x::q=>if iR x≠0 then iR x else jC (some x) q
 |some y,x::q=>if iR x≠0 then iR x else if 0<=dw y x then 7 else jC (some x) q
def l9(l:LL):Int:=if 2000<l.length then 2 else jC none l
section
variable {C D:LG->Option LG} (hC:∀ r,c9 r->C [.l [r]]=some [.i (iR r)]) (hD:∀ r s,c9 r->c9 s->D [.l [r],.l [s]]=some [.i (dw r s)])
include hC hD
theorem S2:∀(q p:LL),(∀ z∈p++q,c9 z)->p.length+q.length<100000 ->
  a6 (uF [.I,.I,.str,.str,.I,.I,.str,.str] C D) [.l (p++q),.l (p++q),.i ((p.length+q.length:Nat):Int),.i (p.length:Int)] (q.length+1) fun c g=>(c=0/\g=[.i (jC p.getLast? q)])\/c=1/\jC p.getLast? q=0
 | [],p,M,V=>by
  refine a6.stop (x:=1) (d':=[]) (aa.toEq ?_) (.inr ⟨rfl,by unfold jC; rfl⟩);unfold uF;dsimp +instances only[go_sem];(repeat first|refine aa.p ?_|refine aa.n ?_);exact aa.some rfl
 | x::q,p,M,V=>by
  simp only[cn]at V;have d:c9 x:=M x (by simp);have N:(p++x::q).getD (p.length:Int).toNat []=x:=nK _ _ _ _ _ (by simp);have v:(p++x::q).length=p.length+q.length+1:=by simp; omega
  by_cases h:iR x=0
  ·have U := S2 q (p ++ [x]) (by simpa using M) (by simp; omega)
   rw[List.getLast?_concat]at U;rcases List.eq_nil_or_concat p with rfl|⟨k,y,rfl⟩
   ·have e : jC ([] : LL).getLast? (x :: q) = jC (some x) q := by simp [jC, h]
    rw[e];refine a6.next (aa.toEq ?_) U
    unfold uF;dsimp +instances only[go_sem];simp only[N,v,cn,d.eta];(repeat first|refine aa.p ?_|refine aa.n ?_);refine aa.cE (hC x d) ?_;dsimp +instances only[go_sem];simp only[h];(repeat first|refine aa.p ?_|refine aa.n ?_);refine aa.some ?_;simp;omega
   ·rw [List.concat_eq_append] at *
    have O:c9 y:=M y (by simp);have W:((k++[y])++x::q).getD (((k++[y]).length:Int)-1).toNat []=y:=by
     have e:(k++[y])++x::q=k++y::x::q:=by simp
     rw[e]; exact nK _ _ _ _ _ (by simp)
    have hp:(k++[y]).length=k.length+1:=by simp
    have hl0:(k++[y]).getLast? = some y:=by simp
    rw[hl0];by_cases ho:0<=dw y x
    ·refine a6.stop (x := 0) (d' := [.i 7]) (aa.toEq ?_) (.inl ⟨rfl, by simp [jC, h, ho]⟩)
     unfold uF;dsimp +instances only[go_sem];simp only[N,W,v,cn,d.eta,O.eta];(repeat first|refine aa.p ?_|refine aa.n ?_);refine aa.cE (hC x d) ?_;dsimp +instances only[go_sem];simp only[h];(repeat first|refine aa.p ?_|refine aa.n ?_);refine aa.cE (hD y x O d) ?_;dsimp +instances only[go_sem];(repeat first|refine aa.p ?_|refine aa.n ?_);exact aa.some rfl
    ·have e : jC (some y) (x :: q) = jC (some x) q := by simp [jC, h, ho]
     rw[e];refine a6.next (aa.toEq ?_) U
     unfold uF;dsimp +instances only[go_sem];simp only[N,W,v,cn,d.eta,O.eta];(repeat first|refine aa.p ?_|refine aa.n ?_);refine aa.cE (hC x d) ?_;dsimp +instances only[go_sem];simp only[h];(repeat first|refine aa.p ?_|refine aa.n ?_);refine aa.cE (hD y x O d) ?_;dsimp +instances only[go_sem];(repeat first|refine aa.p ?_|refine aa.n ?_);refine aa.some ?_;simp;omega
  ·refine a6.stop (x := 0) (d' := [.i (iR x)]) (aa.toEq ?_) (.inl ⟨rfl, by cases hg : p.getLast? <;> simp [jC, h]⟩)
   unfold uF;dsimp +instances only[go_sem];simp only[N,v,cn,d.eta];(repeat first|refine aa.p ?_|refine aa.n ?_);refine aa.cE (hC x d) ?_;dsimp +instances only[go_sem];refine aa.pos (by simpa using h) (aa.some rfl)
theorem S3(l:LL)(d:∀ z∈l,c9 z)(hn:l.length<100000):S1 [.I,.I,.str,.str,.I,.I,.str,.str] C D [.l l]=some [.i (l9 l)]:=by
 refine aa.toEq ?_;unfold S1 l9;dsimp +instances only[go_sem];by_cases h:2000<l.length
 ·(repeat first|refine aa.p ?_|refine aa.n ?_)
  exact aa.some (by simp[h])
 ·(repeat first|refine aa.p ?_|refine aa.n ?_)
  have h1:=S2 hC hD l [] (by simpa using d) (by simpa using hn);have h0:((0:Nat):Int)=0:=rfl;simp only[lB,km,cP,h0]at h1;refine aa.loop (h1.to (by omega)) (by(first|rfl|assumption|(simp only[ay,sl]<;>omega))) ?_;rintro c g (⟨rfl,rfl⟩|⟨rfl,k⟩)
  ·(dsimp +instances only [go_sem])
   (repeat first|refine aa.p ?_|refine aa.n ?_);refine aa.some ?_;rw[iN h];rfl
  ·(repeat first|refine aa.p ?_|refine aa.n ?_)
   refine aa.some ?_;rw[iN h];exact congrArg (fun z=>[G.i z]) k.symm
end
def ai7(l:LL)(d:∀ z∈l,c9 z)(hn:l.length<100000):Ji [.l l]=some [.i (l9 l)] :=
 S3 (fun _ h=>ai5 h) (fun _ _ h h'=>JQ h h') l d hn
def ai8(l:LL)(d:∀ z∈l,c9 z)(hn:l.length<100000):Jy [.l l]=some [.i (l9 l)] :=
 S3 (fun _ h=>ai6 h) (fun _ _ h h'=>Fa h h') l d hn
def ai9(rZ:LL)(d:∀ y∈rZ,c9 y)(hn:rZ.length<=20):D3 [.l rZ]=some [.l (cR (bK dw) rZ)] :=
 IY SY rZ d hn
def ai_(rZ:LL)(d:∀ y∈rZ,c9 y)(hn:rZ.length<=20):Jr [.l rZ]=some [.l (cR (bK dw) rZ)] :=
 IY ai3 rZ d hn
def nN(r s:LG):Bool:=dw r s==0
def zC:LG:=[.i 0,.i 0,.s (⟨#[]⟩:BY),.s (⟨#[]⟩:BY),.i 0,.i 0,.s (⟨#[]⟩:BY),.s (⟨#[]⟩:BY)]
def S4:∀ a b:List UInt8,gI b a = - gI a b
 | [],[]=>rfl
 | [],_::_=>rfl
 |_::_,[]=>rfl
 | a::g,b::k=>by
  simp only[gI];have q:=S4 g k;by_cases h1:a<b
  ·have d : ¬ b < a := fun h => VB a (amE h1 h)
   simp[h1,d]
  ·by_cases d : b < a
   ·simp[h1,d]
   ·simp[h1,d,q]
def S5:∀{a b c:List UInt8},gI a b<0->gI b c<0->gI a c<0
 | [],[],_,h,_=>by simp[gI]at h
 | [],_::_,[],_,h=>by simp[gI]at h
 | [],_::_,_::_,_,_=>by simp[gI]
 |_::_,[],_,h,_=>by simp[gI]at h
 |_::_,_::_,[],_,h=>by simp[gI]at h
 | a::M,b::N,c::O,h1,d=>by
  simp only[gI]at h1 d|-;by_cases g:a<b
  ·by_cases k : b < c
   ·rw [iP (amE g k)]
    omega
   ·by_cases v : c < b
    ·rw [iN k, iP v] at d
     omega
    ·have e : b = c := K8 (u9.1 v) (u9.1 k)
     subst e;rw[iP g];omega
  ·by_cases y : b < a
   ·rw [iN g, iP y] at h1
    omega
   ·have e : a = b := K8 (u9.1 y) (u9.1 g)
    subst e;rw[iN (VB a),iN (VB a)]at h1;by_cases q:a<c
    ·rw [iP q]
     omega
    ·by_cases I : c < a
     ·rw [iN q, iP I] at d
      omega
     ·rw [iN q, iN I] at d |-
      exact S5 h1 d
def ai'{a b:BY}(h:(a.toList==b.toList)=true):a=b:=by
 rw[qR,qR,beq_iff_eq]at h;exact ByteArray.ext (amF.1 h)
def su{a b:BY}:eT a b=0↔a=b:=by
 have h:=JP a b;constructor
 ·intro e
  rw[dE (p:=eT a b=0) e]at h;exact ai' h
 ·rintro rfl
  have d:(a.toList==a.toList)=true:=by simp
  rw[d]at h;exact of_decide_eq_true h.symm
def aja{a b:Int}:fL a b=0↔a=b:=by
 unfold fL;constructor
 ·intro h
  split at h
  ·omega
  ·split at h<;>omega
 ·rintro rfl
  simp
def uG{a b:Int}:fL a b<0↔a<b:=by
 unfold fL;constructor
 ·intro h
  split at h
  ·assumption
  ·split at h<;>omega
 ·intro h
  rw[iP h];omega
def ls(a b:BY):(a.toList==b.toList)=decide (a=b):=by
 rw[JP,nf,dT,dT];exact su
structure xO {α:Type} (c:α->α->Int):Prop where
 flip:∀ a b,c b a = - c a b
 eq:∀ a b,c a b=0->a=b
 tr:∀ a b d,c a b<0->c b d<0->c a d<0
def S6:xO fL:=⟨fun a b=>by unfold fL; split<;>split<;>first|omega|(split<;>omega)|skip,fun a b h=>aja.1 h,fun a b d h1 g=>uG.2 (Int.lt_trans (uG.1 h1) (uG.1 g))⟩
def Fc:xO eT:=⟨fun a b=>S4 _ _,fun a b h=>su.1 h,fun a b d h1 g=>S5 h1 g⟩
def xO.le{α:Type}{c:α->α->Int}(h:xO c)(a b d:α)(h1:c a b<=0)(g:c b d<=0):c a d<=0:=by
 by_cases k:c a b=0
 ·rw [h.eq a b k]
  exact g
 ·by_cases q : c b d = 0
  ·rw [<- h.eq b d q]
   exact h1
  ·have := h.tr a b d (by omega) (by omega)
   omega
def xO.refl{α:Type}{c:α->α->Int}(h:xO c)(a:α):c a a=0:=by
 have:=h.flip a a;omega
def ajb{c:LG->LG->Int}(g:∀ a b,c b a = - c a b)(k:∀ a b d,c a b<=0->c b d<=0->c a d<=0):gP (bK c) (fun _=>True):=by
 have lt:∀ r s,bK c r s=decide (c r s<0):=fun r s=>by unfold bK; rw[cK]
 refine⟨fun a b d _ _ _ h1 q=>?_,fun a b _ _ h=>?_⟩
 ·rw [lt, dF] at *
  have:=k d b a (by have:=g d b; omega) (by have:=g b a; omega);have:=g a d;omega
 ·rw [lt, dT] at h
  rw[lt,dF];have:=g a b;omega
structure fc (F:Nat->Nat->Int) (n m:Nat) (ok:Nat->Nat->Bool) (w:Nat->Nat->Int):Prop where
 mP:∀ i k,n<=i\/m<=k->F i k=0
 step:∀ i k,i<n->k<m->F i k=if ok i k=true then max (max (F (i+1) k) (F i (k+1))) (w i k+F (i+1) (k+1)) else max (F (i+1) k) (F i (k+1))
structure Fair (n m:Nat) (ok:Nat->Nat->Bool) (w:Nat->Nat->Int):Prop where
 pos:∀ i k,i<n->k<m->ok i k=true->0<w i k
 ajc:∀ i p k q,i<p->p<n->k<q->q<m->ok i q=true->ok p k=true->ok i k=true/\ok p q=true/\w i q+w p k<=w i k+w p q
section
variable {F:Nat->Nat->Int} {n m:Nat} {ok:Nat->Nat->Bool} {w:Nat->Nat->Int}
def fc.flip(h:fc F n m ok w):fc (fun k i=>F i k) m n (fun k i=>ok i k) (fun k i=>w i k):=by
 refine⟨fun k i d=>h.mP i k d.symm,fun k i d hi=>?_⟩;have:=h.step i k hi d;rw[this];split<;>omega
def Fair.flip(h:Fair n m ok w):Fair m n (fun k i=>ok i k) (fun k i=>w i k):=by
 refine⟨fun k i v hi ho=>h.pos i k hi v ho,fun k q i p d y g I h1 M=>?_⟩;obtain⟨a,b,c⟩:=h.ajc i p k q g I d y M h1;exact⟨a,b,by omega⟩
def fc.down(h:fc F n m ok w)(i k:Nat):F (i+1) k<=F i k:=by
 by_cases he:n<=i\/m<=k
 ·rw [h.mP i k he, h.mP (i + 1) k (by omega)]
  exact yz _
 ·rw [h.step i k (by omega) (by omega)]
  split<;>omega
def fc.right(h:fc F n m ok w)(i k:Nat):F i (k+1)<=F i k:=h.flip.down k i
def fc.JU(h:fc F n m ok w)(i k:Nat):∀ d,F (i+d) k<=F i k
 |0=>yz _
 |d+1=>K_ (h.down (i+d) k) (h.JU i k d)
def fc.mono(h:fc F n m ok w){i p k q:Nat}(h1:i<=p)(g:k<=q):F p q<=F i k:=by
 obtain⟨d,rfl⟩:=amG h1;obtain⟨e,rfl⟩:=amG g;exact K_ (h.JU i (k+e) d) (h.flip.JU k i e)
def fc.take(h:fc F n m ok w){i p k q:Nat}(h1:i<=p)(d:k<=q)(g:p<n)(v:q<m)(ho:ok p q=true):w p q+F (p+1) (q+1)<=F i k:=by
 refine K_ ?_ (h.mono h1 d);rw[h.step p q g v,iP ho];omega
def fc.JV(h:fc F n m ok w)(i k:Nat):0<=F i k:=by
 have h1:=h.mono (i:=i) (p:=i+n) (k:=k) (q:=k) (by omega) (aM _);rw[h.mP (i+n) k (.inl (by omega))]at h1;exact h1
def fc.row(h:fc F n m ok w){i:Nat}(hi:i<n):∀(s k:Nat),m-k<=s->F i k=F (i+1) k\/∃ q,k<=q/\q<m/\ok i q=true/\F i k=w i q+F (i+1) (q+1)
 | s,k,U=>by
  by_cases I:k<m
  ·cases s with
   |zero=>omega
   | succ s =>
    have h0:=h.step i k hi I;have h1:=h.down i k;have V:=h.right (i+1) k;by_cases ho:ok i k=true
    ·rw [iP ho] at h0
     by_cases e:F i k=w i k+F (i+1) (k+1)
     ·exact .inr ⟨k,aM _,I,ho,e⟩
     ·by_cases d : F i k = F (i + 1) k
      ·exact .inl d
      ·have M : F i k = F i (k + 1) := by omega
       rcases h.row hi s (k+1) (by omega)with g|⟨q,N,v,y,O⟩
       ·exact .inl (by omega)
       ·exact .inr ⟨q,by omega,v,y,by omega⟩
    ·rw [iN ho] at h0
     by_cases d:F i k=F (i+1) k
     ·exact .inl d
     ·have M : F i k = F i (k + 1) := by omega
      rcases h.row hi s (k+1) (by omega)with g|⟨q,N,v,y,O⟩
      ·exact .inl (by omega)
      ·exact .inr ⟨q,by omega,v,y,by omega⟩
  ·exact .inl (by rw[h.mP i k (.inr (by omega)),h.mP (i+1) k (.inr (by omega))])
def fW(P:Nat->Bool):Nat->Nat->Option Nat
 |_,0=>none
 |q,t+1=>bif P q then some q else fW P (q+1) t
def sv{P:Nat->Bool}:∀{t q x:Nat},fW P q t=some x->q<=x/\x<q+t/\P x=true/\∀ y,q<=y->y<x->P y=false
 |0,_,_,h=>by cases h
 | t+1,q,x,h=>by
  unfold fW at h;cases g:P q with
  | true =>
   rw[g]at h;cases h;exact⟨aM _,by omega,g,fun y h1 k=>by omega⟩
  | false =>
   rw[g]at h;obtain⟨a,b,c,d⟩:=sv (t:=t) h;exact⟨by omega,by omega,c,fun y h1 k=>by
    by_cases e:y=q
    ·subst e; exact g
    ·exact d y (by omega) k⟩
def xP{P:Nat->Bool}:∀{t q:Nat},fW P q t=none->∀ y,q<=y->y<q+t->P y=false
 |0,q,_,y,h1,g=>by omega
 | t+1,q,h,y,h1,g=>by
  unfold fW at h;cases d:P q with
  |true=>rw[d]at h; cases h
  | false =>
   rw[d]at h;by_cases e:y=q
   ·subst e; exact d
   ·exact xP (t:=t) h y (by omega) (by omega)
def JW{P:Nat->Bool}{t q x:Nat}(h1:q<=x)(v:x<q+t)(k:P x=true)(I:∀ y,q<=y->y<x->P y=false):fW P q t=some x:=by
 cases h:fW P q t with
 |none=>rw[xP h x h1 v]at k; cases k
 | some z =>
  obtain⟨a,b,c,d⟩:=sv h;rcases La z x with g|g|g
  ·rw[I z a g]at c; cases c
  ·rw[g]
  ·rw[d x h1 g]at k; cases k
def ajd{P:Nat->Bool}{t q:Nat}(h:∀ y,q<=y->y<q+t->P y=false):fW P q t=none:=by
 cases d:fW P q t with
 |none=>rfl
 | some z =>
  obtain⟨a,b,c,_⟩:=sv d;rw[h z a b]at c;cases c
def gg(F:Nat->Nat->Int)(ok:Nat->Nat->Bool)(w:Nat->Nat->Int)(v:Int)(i q:Nat):Bool:=ok i q&&(w i q+F (i+1) (q+1)==v)
def uH{v:Int}{i q:Nat}:gg F ok w v i q=true↔ok i q=true/\w i q+F (i+1) (q+1)=v:=by
 unfold gg;rw[aK,beq_iff_eq]
def bA(F:Nat->Nat->Int)(m:Nat)(ok:Nat->Nat->Bool)(w:Nat->Nat->Int):Nat->Nat->Nat->List (Nat × Nat)
 |0,_,_=>[]
 | t+1,i,f=>match fW (gg F ok w (F i f) i) f (m-f) with
  |some q=>(i,q)::bA F m ok w t (i+1) (q+1)
  |none=>bA F m ok w t (i+1) f
def nO{t i f q:Nat} (h:fW (gg F ok w (F i f) i) f (m-f)=some q):bA F m ok w (t+1) i f=(i,q)::bA F m ok w t (i+1) (q+1):=by
 rw[bA,h]
def qE{t i f:Nat} (h:fW (gg F ok w (F i f) i) f (m-f)=none):bA F m ok w (t+1) i f=bA F m ok w t (i+1) f:=by
 rw[bA,h]
def qF:∀(t i f:Nat),∀ x∈bA F m ok w t i f,i<=x.1/\x.1<i+t/\f<=x.2/\x.2<m/\ok x.1 x.2=true
 |0,_,_,x,h=>by cases h
 | t+1,i,f,x,h=>by
  cases g:fW (gg F ok w (F i f) i) f (m-f)with
  | none =>
   rw[qE g]at h;obtain⟨a,b,c,d,e⟩:=qF t (i+1) f x h;exact⟨by omega,by omega,c,d,e⟩
  | some q =>
   rw[nO g]at h;obtain⟨k,y,v,_⟩:=sv g;rcases cq.1 h with rfl|h
   ·exact⟨aM _,by simp,k,by simp; omega,(uH.1 v).1⟩
   ·obtain ⟨a, b, c, d, e⟩ := qF t (i + 1) (q + 1) x h
    exact⟨by omega,by omega,by omega,d,e⟩
def JX:∀(t i f:Nat),(bA F m ok w t i f).Pairwise fun x y=>x.1<y.1/\x.2<y.2
 |0,_,_=>.nil
 | t+1,i,f=>by
  cases d:fW (gg F ok w (F i f) i) f (m-f)with
  |none=>rw[qE d]; exact JX t (i+1) f
  | some q =>
   rw[nO d];refine .cons (fun y g=>?_) (JX t (i+1) (q+1));obtain⟨a,_,c,_,_⟩:=qF t (i+1) (q+1) y g;exact⟨by simp; omega,by simp; omega⟩
def Fe(h:fc F n m ok w){i f:Nat}(hi:i<n)(hn:∀ q,f<=q->q<m->gg F ok w (F i f) i q=false):F i f=F (i+1) f:=by
 rcases h.row hi (m-f) f (aM _)with e|⟨q,d,g,k,v⟩
 ·exact e
 ·have := hn q d g
  rw[uH.2 ⟨k,v.symm⟩]at this;cases this
end
def l_(n m:Nat)(ok:Nat->Nat->Bool)(w:Nat->Nat->Int)(i k:Nat):Int :=
 if h:i<n/\k<m then
  if ok i k=true then max (max (l_ n m ok w (i+1) k) (l_ n m ok w i (k+1))) (w i k+l_ n m ok w (i+1) (k+1)) else max (l_ n m ok w (i+1) k) (l_ n m ok w i (k+1))
 else 0
termination_by (n-i)+(m-k)
def Ff(n m:Nat)(ok:Nat->Nat->Bool)(w:Nat->Nat->Int):fc (l_ n m ok w) n m ok w :=
 ⟨fun i k h => by rw [l_, dif_neg (by omega)], fun i k hi d => by
  conv=>lhs; rw[l_]
  rw[dif_pos ⟨hi,d⟩]⟩
def fc.le{F:Nat->Nat->Int}{n m:Nat}{ok:Nat->Nat->Bool}{w:Nat->Nat->Int}(h:fc F n m ok w){W:Int}(v:0<=W)(d:∀ i k,w i k<=W):∀(t i k:Nat),n-i=t->F i k<=W*(t:Int)
 |0,i,k,y=>by rw[h.mP i k (.inl (by omega))]; simp
 | t+1,i,k,y=>by
  have e:W*((t+1:Nat):Int)=W*(t:Int)+W:=by rw[Int.natCast_succ,Int.mul_add,Int.mul_one]
  rw[e];rcases h.row (i:=i) (by omega) (m-k) k (aM _)with g|⟨q,_,_,_,g⟩
  ·have := h.le v d t (i + 1) k (by omega)
   omega
  ·have := h.le v d t (i + 1) (q + 1) (by omega)
   have:=d i q;omega
def jh(r:LG):Int:=(gi r 0).iV
def mQ(r:LG):Int:=(gi r 1).iV
def jR(r:LG):BY:=(gi r 2).sV
def JY(r:LG):BY:=(gi r 3).sV
def d_(r:LG):Prop:=aQ [.I,.I,.str,.str,.I,.I,.str,.str] r=r /\ -1000000000000<=jh r/\jh r<=1000000000000
def jD(p q:LG):Int:=if jh q-jh p>jh p-jh q then jh q-jh p else jh p-jh q
def jU(oF:Int)(p q:LG):Bool:=((jR p).toList==(jR q).toList)&&((mQ p==mQ q)&&bp (jD p q) oF)
def xQ{p q:LG}(d:d_ p)(g:d_ q):0<=jD p q/\jD p q<=2000000000000:=by
 obtain⟨_,h1,h⟩:=d;obtain⟨_,k,v⟩:=g;unfold jD;split<;>omega
def JZ{p q:LG}(d:d_ p)(g:d_ q):xk [.l [p],.l [q]]=some [.i (jD p q)]:=by
 obtain⟨_,h1,h⟩:=d;obtain⟨_,k,v⟩:=g;unfold jh at h1 h k v;refine aa.toEq ?_;unfold xk jD jh;dsimp +instances only[go_sem];exact aa.pos (dH.2 ⟨by omega,by omega⟩) (aa.pos (dH.2 ⟨by omega,by omega⟩) (aa.some rfl))
def Fg(oF:Int){p q:LG}(d:d_ p)(g:d_ q):uy [.l [p],.l [q],.i oF]=some [.t (jU oF p q)]:=by
 refine aa.toEq ?_;unfold uy jU;dsimp +instances only[go_sem];refine aa.test (fun h=>?_) fun h=>?_
 ·have h : ((jR p).toList == (jR q).toList) = true := h
  rw[h];refine aa.test (fun h=>?_) fun h=>?_
  ·have h : (mQ p == mQ q) = true := h
   rw[h,d.1,g.1];refine aa.cE (JZ d g) ?_;exact aa.some rfl
  ·have h : (mQ p == mQ q) = false := h
   rw[h];exact aa.some rfl
 ·have h : ((jR p).toList == (jR q).toList) = false := h
  rw[h];exact aa.some rfl
structure JC (a b:LL) (X Y:List Nat):Prop where
 ha:∀ z∈a,d_ z
 hb:∀ z∈b,d_ z
 hX:∀ i∈X,i<a.length
 hY:∀ i∈Y,i<b.length
 na:a.length<=100000
 nb:b.length<=100000
 nX:X.length<=1000
 nY:Y.length<=1000
def bl(X:List Nat):LL:=X.map fun(i:Nat)=>[G.i (i:Int)]
def kh(X:List Nat):(bl X).length=X.length:=c8 _
def sw{X:List Nat}{i:Nat}(hi:i<X.length):(bl X).getD i []=[.i ((X.getD i 0:Nat):Int)]:=by
 unfold bl;rw[cd,bY,bZ hi,cd,bZ hi];rfl
def iu{α:Type}{l:List α}{i:Nat}{z:α}(h:i<l.length):l.getD i z∈l:=by
 rw[cd,bZ h];exact u7 h
def gh(a:LL)(X:List Nat)(i:Nat):LG:=a.getD (X.getD i 0) []
def df(a b:LL)(X Y:List Nat)(oF:Int)(i k:Nat):Bool:=jU oF (gh a X i) (gh b Y k)
def wJ(a b:LL)(X Y:List Nat)(i k:Nat):Int:=10000000000-jD (gh a X i) (gh b Y k)
def JC.xR{a b:LL}{X Y:List Nat}(J:JC a b X Y){i:Nat}(hi:i<X.length):X.getD i 0<a.length/\d_ (gh a X i):=by
 have h:=J.hX _ (iu (z:=0) hi);exact⟨h,J.ha _ (iu h)⟩
def JC.xS{a b:LL}{X Y:List Nat}(J:JC a b X Y){i:Nat}(hi:i<Y.length):Y.getD i 0<b.length/\d_ (gh b Y i):=by
 have h:=J.hY _ (iu (z:=0) hi);exact⟨h,J.hb _ (iu h)⟩
def aje{a b:LL}{X Y:List Nat}(J:JC a b X Y)(oF:Int)(h:LL){i k:Nat}(hi:i<X.length)(q:k<Y.length) :
  Ej [.l a,.l b,.l (bl X),.l (bl Y),.i oF,.l h,.i (i:Int),.i (k:Int)]=some [.l a,.l b,.l (bl X),.l (bl Y),.i oF,.l h,.i (wJ a b X Y i k),.t (df a b X Y oF i k)]:=by
 obtain⟨h1,d⟩:=J.xR hi;obtain⟨M,g⟩:=J.xS q;have I:=xQ d g;refine aa.toEq ?_;unfold Ej;dsimp +instances only[go_sem];simp only[aR,sw hi,sw q,kh];dsimp +instances only[go_sem];simp only[aR];refine aa.p (aa.p (aa.p (aa.p ?_)));have v:a.getD (X.getD i 0) []=gh a X i:=rfl;have y:b.getD (Y.getD k 0) []=gh b Y k:=rfl;rw[v,y,d.1,g.1];refine aa.cE (JZ d g) ?_;dsimp +instances only[go_sem];refine aa.pos (dH.2 ⟨by omega,by omega⟩) ?_;refine aa.cE (Fg oF d g) ?_;dsimp +instances only[go_sem];refine aa.pos ?_ (aa.some rfl);simp
def S7{a b:LL}{X Y:List Nat}(J:JC a b X Y)(oF:Int)(q:LL){i k:Nat}(hi:i<X.length)(h:k<Y.length) :
  Em [.l [[.l a,.l b,.l (bl X),.l (bl Y),.i oF,.l q]],.i (i:Int),.i (k:Int)]=some [.i (wJ a b X Y i k),.t (df a b X Y oF i k)]:=by
 obtain⟨h1,d⟩:=J.xR hi;obtain⟨M,g⟩:=J.xS h;have I:=xQ d g;refine aa.toEq ?_;unfold Em;dsimp +instances only[go_sem];simp only[aR,sw hi,sw h,kh];dsimp +instances only[go_sem];simp only[aR];refine aa.p (aa.p (aa.p (aa.p ?_)));have v:a.getD (X.getD i 0) []=gh a X i:=rfl;have y:b.getD (Y.getD k 0) []=gh b Y k:=rfl;rw[v,y,d.1,g.1];refine aa.cE (JZ d g) ?_;dsimp +instances only[go_sem];refine aa.pos (dH.2 ⟨by omega,by omega⟩) ?_;refine aa.cE (Fg oF d g) ?_;exact aa.some rfl
def fm(F:Nat->Nat->Int)(m i t:Nat):LL:=(fo (m+1)).map fun j=>[G.i (if t<=j then F i j else 0)]
def fe(F:Nat->Nat->Int)(n m i:Nat):LL:=(fo (n+1)).map fun p=>[G.l (if i<=p then fm F m p 0 else [])]
def sx(F:Nat->Nat->Int)(m i t:Nat):(fm F m i t).length=m+1:=by unfold fm; rw[c8,oZ]
def xT(F:Nat->Nat->Int)(n m i:Nat):(fe F n m i).length=n+1:=by unfold fe; rw[c8,oZ]
def Bg{F:Nat->Nat->Int}{m i t j:Nat}(d:j<=m):(fm F m i t).getD j []=[.i (if t<=j then F i j else 0)]:=by
 unfold fm;rw[cd,bY,pX (by omega)];rfl
def J0{F:Nat->Nat->Int}{n m i p:Nat}(d:p<=n):(fe F n m i).getD p []=[.l (if i<=p then fm F m p 0 else [])]:=by
 unfold fe;rw[cd,bY,pX (by omega)];rfl
def ajf{F:Nat->Nat->Int}{m i t:Nat}:(fm F m i (t+1)).set t [.i (F i t)]=fm F m i t:=by
 apply jG;intro j;unfold fm;rw[eC,bY,bY,c8,oZ];by_cases d:j<m+1
 ·rw [pX d]
  by_cases e:t=j
  ·subst e
   rw[iP rfl,iP d];simp
  ·rw [iN e]
   simp only[ff];by_cases h:t<=j
   ·rw[iP h,iP (by omega)]
   ·rw[iN h,iN (by omega)]
 ·rw [oX (by simp; omega)]
  by_cases e:t=j
  ·subst e
   rw[iP rfl,iN d];rfl
  ·rw [iN e]
   rfl
def ajg{F:Nat->Nat->Int}{m i:Nat}(h:F i m=0):fm F m i m=cB (m+1) [.i 0]:=by
 rw[Lb];refine⟨sx F m i m,fun x d=>?_⟩;unfold fm at d;obtain⟨j,g,rfl⟩:=dB.1 d;rw[gH]at g;by_cases e:m<=j
 ·rw[iP e,show j=m from by omega,h]
 ·rw[iN e]
def ajh{F:Nat->Nat->Int}{m i:Nat}(h:∀ k,F i k=0):fm F m i 0=cB (m+1) [.i 0]:=by
 rw[Lb];refine⟨sx F m i 0,fun x d=>?_⟩;unfold fm at d;obtain⟨j,g,rfl⟩:=dB.1 d;rw[iP (eV _),h]
def aji{F:Nat->Nat->Int}{n m i:Nat}:(fe F n m (i+1)).set i [.l (fm F m i 0)]=fe F n m i:=by
 apply jG;intro j;unfold fe;rw[eC,bY,bY,c8,oZ];by_cases d:j<n+1
 ·rw [pX d]
  by_cases e:i=j
  ·subst e
   rw[iP rfl,iP d];simp
  ·rw [iN e]
   simp only[ff];by_cases h:i<=j
   ·rw[iP h,iP (by omega)]
   ·rw[iN h,iN (by omega)]
 ·rw [oX (by simp; omega)]
  by_cases e:i=j
  ·subst e
   rw[iP rfl,iN d];rfl
  ·rw [iN e]
   rfl
def ajj{F:Nat->Nat->Int}{n m:Nat}(h:∀ k,F n k=0):(cB (n+1) ([.l []]:LG)).set n [.l (cB (m+1) [.i 0])]=fe F n m n:=by
 apply jG;intro j;unfold fe;rw[eC,bY,amH,sW];by_cases d:j<n+1
 ·rw [pX d]
  by_cases e:n=j
  ·subst e
   rw[iP rfl,iP d,ff,iP (aM _),ajh h]
  ·rw[iN e,iP d,ff,iN (by omega)]
 ·rw [oX (by simp; omega)]
  by_cases e:n=j
  ·subst e
   rw[iP rfl,iN d];rfl
  ·rw [iN e, iN d]
   rfl
def xU(k:Kd)(r:LG)(v:G):dV [k] r 0 [v]=[v]:=by
 simp[dV,ru]
def S8{a b x y d row:LL}{oF:Int}{i k:Nat}(g:k<=100000) :
  AE [.l a,.l b,.l x,.l y,.i oF,.l d,.l row,.i (i:Int),.i (k:Int)]=some (some 0,[.l a,.l b,.l x,.l y,.i oF,.l d,.l row,.i (i:Int),.i ((k:Int)-1)]):=by
 refine aa.toEq ?_;unfold AE;dsimp +instances only[go_sem];exact aa.pos (dH.2 ⟨by omega,by omega⟩) (aa.pos (by simp) (aa.some rfl))
def S9{a b:LL}{X Y:List Nat}(J:JC a b X Y)(oF:Int){F:Nat->Nat->Int}(d:fc F X.length Y.length (df a b X Y oF) (wJ a b X Y)){i:Nat}(hi:i<X.length):∀ t:Nat,t<=Y.length ->
  a6 AF [.l a,.l b,.l (bl X),.l (bl Y),.i oF,.l (fe F X.length Y.length (i+1)),.l (fm F Y.length i t),.i (i:Int),.i ((t:Int)-1)] (t+1) fun c g=>c=0/\g=[.l a,.l b,.l (bl X),.l (bl Y),.i oF,.l (fe F X.length Y.length (i+1)),.l (fm F Y.length i 0),.i (i:Int)]
 | 0,_=>by
  refine a6.stop (x:=0) (aa.toEq ?_) ⟨rfl,rfl⟩;unfold AF;dsimp +instances only[go_sem];exact aa.neg (by rw[eX]; decide) (aa.pos (by simp) (aa.some rfl))
 | t+1,ht=>by
  have nX:=J.nX;have nY:=J.nY;have hW:∀ i k,F i k<=10000000000*((X.length-i:Nat):Int):=fun i k=>d.le (W:=10000000000) (by omega) (fun i k=>by
   unfold wJ jD;split<;>omega) _ i k rfl
  have b1:=d.JV (i+1) t;have b2:=d.JV (i+1) (t+1);have b3:=hW (i+1) (t+1);have hwo : -2000000000000<=wJ a b X Y i t/\wJ a b X Y i t<=10000000000:=by
   have:=xQ (J.xR hi).2 (J.xS (show t<Y.length by omega)).2;unfold wJ;omega
  have ih:=S9 J oF d hi t (by omega);have e0:((t+1:Nat):Int)-1=(t:Int):=by omega
  rw[e0];refine a6.next (aa.toEq ?_) ih
  have e1:((i:Int)+1).toNat=i+1:=by omega
  have e2:((t:Int)+1).toNat=t+1:=by omega
  have hM:(fe F X.length Y.length (i+1)).getD (i+1) []=[.l (fm F Y.length (i+1) 0)]:=by rw[J0 (by omega),iP (aM _)]
  have hN0:(fm F Y.length (i+1) 0).getD t []=[.i (F (i+1) t)]:=by rw[Bg (by omega),iP (eV _)]
  have M:(fm F Y.length (i+1) 0).getD (t+1) []=[.i (F (i+1) (t+1))]:=by rw[Bg (by omega),iP (eV _)]
  have N:(fm F Y.length i (t+1)).getD (t+1) []=[.i (F i (t+1))]:=by rw[Bg (by omega),iP (aM _)]
  have q:=d.step i t hi (by omega);have y:∀ v,v=F i t->(fm F Y.length i (t+1)).set t [.i v]=fm F Y.length i t:=fun v hv=>by rw[hv,ajf]
  have I:∀ v:Int,((fm F Y.length i (t+1)).set t [.i v]).getD t []=[.i v]:=fun v=>by
   rw[cd,bB (by rw[sx]; omega)];rfl
  have O:=xT F X.length Y.length (i+1);have U:=sx F Y.length i (t+1);have V:=sx F Y.length (i+1) 0;generalize hRR:fm F Y.length i (t+1)=R at N y I U|-;unfold AF;dsimp +instances only[go_sem];simp only[aR,e1,e2,cP,hM];dsimp +instances only[go_sem];simp only[hN0,M,N,xU,O,U,V,iE,I,List.set_set];dsimp +instances only[go_sem];refine aa.p (aa.p (aa.p (aa.p (aa.p (aa.p (aa.p (aa.p (aa.p (aa.p ?_)))))))));refine aa.l4 (aa.eq (aje J oF _ hi (show t<Y.length by omega))) (by simp) ?_;rintro _ rfl;dsimp +instances only[go_sem];simp only[hM];dsimp +instances only[go_sem];simp only[M,O,V];dsimp +instances only[go_sem];refine aa.test (fun h=>?_) fun h=>?_
  ·rw [iP h] at q
   refine aa.p (aa.p (aa.p (aa.p (aa.p (aa.p (aa.p (aa.pos (dH.2 ⟨by omega,by omega⟩) (aa.p (aa.p ?_)))))))));refine aa.tail (P:=fun u g=>u=0/\g=[.l a,.l b,.l (bl X),.l (bl Y),.i oF,.l (fe F X.length Y.length (i+1)),.l (fm F Y.length i t),.i (i:Int),.i ((t:Int)-1)]) ⟨_,S8 (by omega),0,rfl,?_,?_⟩ (by simp) ?_
   ·rfl
   ·rw [y _ ?_]
    rw[q];split<;>split<;>omega
   ·rintro _ _ ⟨rfl, rfl⟩
    dsimp +instances only[go_sem];exact aa.pos (by simp) (aa.some rfl)
  ·rw [iN (by rw [h]; decide)] at q
   refine aa.tail (P:=fun u g=>u=0/\g=[.l a,.l b,.l (bl X),.l (bl Y),.i oF,.l (fe F X.length Y.length (i+1)),.l (fm F Y.length i t),.i (i:Int),.i ((t:Int)-1)]) ⟨_,S8 (by omega),0,rfl,?_,?_⟩ (by simp) ?_
   ·rfl
   ·rw [y _ ?_]
    rw[q];split<;>omega
   ·rintro _ _ ⟨rfl, rfl⟩
    dsimp +instances only[go_sem];exact aa.pos (by simp) (aa.some rfl)
def S_{a b:LL}{X Y:List Nat}(J:JC a b X Y)(oF:Int){F:Nat->Nat->Int}(d:fc F X.length Y.length (df a b X Y oF) (wJ a b X Y)):∀ t:Nat,t<=X.length ->
  a6 AG [.l a,.l b,.l (bl X),.l (bl Y),.i oF,.l (fe F X.length Y.length t),.i ((t:Int)-1)] (t+1) fun c g=>c=0/\g=[.l a,.l b,.l (bl X),.l (bl Y),.i oF,.l (fe F X.length Y.length 0)]
 | 0,_=>by
  refine a6.stop (x:=0) (aa.toEq ?_) ⟨rfl,rfl⟩;unfold AG;dsimp +instances only[go_sem];exact aa.neg (by rw[eX]; decide) (aa.pos (by simp) (aa.some rfl))
 | t+1,I=>by
  have nX:=J.nX;have nY:=J.nY;have q:=S_ J oF d t (by omega);have v:((t+1:Nat):Int)-1=(t:Int):=by omega
  rw[v];refine a6.next (aa.toEq ?_) q
  have y:((Y.length:Int)+1).toNat=Y.length+1:=by omega
  have h:(cB (Y.length+1) ([.i 0]:LG))=fm F Y.length t Y.length:=(ajg (d.mP t Y.length (.inr (aM _)))).symm;have k:=S9 J oF d (show t<X.length by omega) Y.length (aM _);unfold AG;dsimp +instances only[go_sem];simp only[kh,y,h];refine aa.p (aa.p (aa.p (aa.p ?_)));refine aa.loop (k.to (by omega)) (by simp[sx]) ?_;rintro _ _ ⟨rfl,rfl⟩;dsimp +instances only[go_sem];simp only[aR,cP,xU,xT];refine aa.p (aa.pos (by simp; omega) (aa.p (aa.pos (by simp[xT]) (aa.some ?_))));rw[aji]
def ajk{a b:LL}{X Y:List Nat}(J:JC a b X Y)(oF:Int){F:Nat->Nat->Int}(d:fc F X.length Y.length (df a b X Y oF) (wJ a b X Y)) :
  El [.l a,.l b,.l (bl X),.l (bl Y),.i oF,.l []]=some [.l a,.l b,.l (bl X),.l (bl Y),.i oF,.l (fe F X.length Y.length 0)]:=by
 have nX:=J.nX;have nY:=J.nY;have h:((X.length:Int)+1).toNat=X.length+1:=by omega
 have q:((Y.length:Int)+1).toNat=Y.length+1:=by omega
 have g:(cB (X.length+1) ([.l []]:LG)).set X.length [.l (cB (Y.length+1) [.i 0])]=fe F X.length Y.length X.length:=ajj fun k=>d.mP X.length k (.inl (aM _));refine aa.toEq ?_;unfold El;dsimp +instances only[go_sem];simp only[kh,h,q,cP,xU,g,sW,xT];refine aa.p (aa.p (aa.p (aa.p (aa.p (aa.pos (by simp) (aa.p ?_))))));refine aa.loop ((S_ J oF d X.length (aM _)).to (by omega)) (by simp) ?_;rintro _ _ ⟨rfl,rfl⟩;dsimp +instances only[go_sem];exact aa.pos (by simp) (aa.some rfl)
def eO(X Y:List Nat)(p:Nat × Nat):LG:=[.i ((X.getD p.1 0:Nat):Int),.i ((Y.getD p.2 0:Nat):Int)]
def S'(X Y:List Nat)(out:LL)(i:Nat):Option Nat->LL
 |some q=>out++[eO X Y (i,q)]
 |none=>out
def Ta(f:Nat):Option Nat->Nat
 |some q=>q+1
 |none=>f
def J1{a b d out:LL}{X Y:List Nat}(oF:Int){f i k n:Nat}(hi:i<X.length)(g:k<Y.length)(nY:Y.length<=1000)(ho:out.length<=100000)(t:Bool) :
  xl [.l a,.l b,.l (bl X),.l (bl Y),.i oF,.l d,.l out,.i (f:Int),.i (i:Int),.i (k:Int),.i (n:Int),.i (i:Int),.t t] =
   bif t then some (some 0,[.l a,.l b,.l (bl X),.l (bl Y),.i oF,.l d,.l (out++[eO X Y (i,k)]),.i ((k+1:Nat):Int),.i (n:Int),.i (i:Int)])
   else some (some 1,[.l a,.l b,.l (bl X),.l (bl Y),.i oF,.l d,.l out,.i (f:Int),.i (i:Int),.i (k:Int),.i (n:Int),.i (i:Int)]):=by
 cases t with
 | false =>
  refine aa.toEq ?_;unfold xl;dsimp +instances only[go_sem];exact aa.neg rfl (aa.pos (by simp) (aa.some rfl))
 | true =>
  refine aa.toEq ?_;unfold xl;dsimp +instances only[go_sem];simp only[aR,sw hi,sw g,kh];dsimp +instances only[go_sem];exact aa.pos rfl (aa.p (aa.p (aa.pos (by simp; omega) (aa.p (aa.pos (by simp) (aa.some rfl))))))
section
variable {a b:LL} {X Y:List Nat} {F:Nat->Nat->Int}
def Tb(J:JC a b X Y)(oF:Int)(v:fc F X.length Y.length (df a b X Y oF) (wJ a b X Y))(out:LL)(ho:out.length<=100000){f i:Nat}(hi:i<X.length)(hf:f<=Y.length):∀ t k:Nat,k+t=Y.length ->
  a6 uz [.l a,.l b,.l (bl X),.l (bl Y),.i oF,.l (fe F X.length Y.length 0),.l out,.i (f:Int),.i (i:Int),.i (k:Int),.i (X.length:Int),.i (i:Int)] (t+1)
   fun c g=>c=0/\g=[.l a,.l b,.l (bl X),.l (bl Y),.i oF,.l (fe F X.length Y.length 0),.l (S' X Y out i (fW (gg F (df a b X Y oF) (wJ a b X Y) (F i f) i) k t)),.i (Ta f (fW (gg F (df a b X Y oF) (wJ a b X Y) (F i f) i) k t):Int),.i (X.length:Int),.i (i:Int)]
 | 0,k,hk=>by
  refine a6.stop (x:=0) (aa.toEq ?_) ⟨rfl,rfl⟩;have nY:=J.nY;unfold uz;dsimp +instances only[go_sem];simp only[kh];exact aa.n (aa.pos (by simp) (aa.some rfl))
 | t+1,k,hk=>by
  have nX:=J.nX;have nY:=J.nY;have q:k<Y.length:=by omega
  have hW:∀ i k,F i k<=10000000000*((X.length-i:Nat):Int):=fun i k=>v.le (W:=10000000000) (by omega) (fun i k=>by
   unfold wJ jD;split<;>omega) _ i k rfl
  have b2:=v.JV (i+1) (k+1);have b3:=hW (i+1) (k+1);have hwo : -2000000000000<=wJ a b X Y i k/\wJ a b X Y i k<=10000000000:=by
   have:=xQ (J.xR hi).2 (J.xS q).2;unfold wJ;omega
  have V:((i:Int)+1).toNat=i+1:=by omega
  have e2:((k:Int)+1).toNat=k+1:=by omega
  have I:(fe F X.length Y.length 0).getD (i+1) []=[.l (fm F Y.length (i+1) 0)]:=by rw[J0 (by omega),iP (eV _)]
  have M:(fe F X.length Y.length 0).getD i []=[.l (fm F Y.length i 0)]:=by rw[J0 (by omega),iP (eV _)]
  have N:(fm F Y.length (i+1) 0).getD (k+1) []=[.i (F (i+1) (k+1))]:=by rw[Bg (by omega),iP (eV _)]
  have O:(fm F Y.length i 0).getD f []=[.i (F i f)]:=by rw[Bg (by omega),iP (eV _)]
  have U:∀ c:Bool,gg F (df a b X Y oF) (wJ a b X Y) (F i f) i k=c->fW (gg F (df a b X Y oF) (wJ a b X Y) (F i f) i) k (t+1)=bif c then some k else fW (gg F (df a b X Y oF) (wJ a b X Y) (F i f) i) (k+1) t:=fun c hc=>by rw[<-hc]; rfl
  have go:gg F (df a b X Y oF) (wJ a b X Y) (F i f) i k=false->aa (uz [.l a,.l b,.l (bl X),.l (bl Y),.i oF,.l (fe F X.length Y.length 0),.l out,.i (f:Int),.i (i:Int),.i (k:Int),.i (X.length:Int),.i (i:Int)])
    (fun o=>o=(none,[.l a,.l b,.l (bl X),.l (bl Y),.i oF,.l (fe F X.length Y.length 0),.l out,.i (f:Int),.i (i:Int),.i ((k+1:Nat):Int),.i (X.length:Int),.i (i:Int)])):=fun d=>by
   unfold uz;dsimp +instances only[go_sem];simp only[kh];refine aa.p ?_;refine aa.cE (S7 J oF _ hi q) ?_;dsimp +instances only[go_sem];simp only[aR,V,e2,I,M];dsimp +instances only[go_sem];simp only[N,O,xT,sx];dsimp +instances only[go_sem];refine aa.test (fun h=>?_) fun h=>?_
   ·refine aa.p (aa.p (aa.p (aa.p (aa.pos (dH.2 ⟨by omega, by omega⟩) (aa.p (aa.p ?_))))))
    have y:(wJ a b X Y i k+F (i+1) (k+1)==F i f)=false:=by
     unfold gg at d
     rwa [h,jI]at d
    rw[y];refine aa.tail (P:=fun u g=>u=1/\g=[.l a,.l b,.l (bl X),.l (bl Y),.i oF,.l (fe F X.length Y.length 0),.l out,.i (f:Int),.i (i:Int),.i (k:Int),.i (X.length:Int),.i (i:Int)]) ⟨_,J1 oF hi q nY ho false,1,rfl,rfl,rfl⟩ (by simp) ?_;rintro _ _ ⟨rfl,rfl⟩;dsimp +instances only[go_sem];exact aa.neg rfl (aa.p (aa.pos (by simp) (aa.some rfl)))
   ·refine aa.tail (P := fun u g => u = 1 /\ g = [.l a, .l b, .l (bl X), .l (bl Y), .i oF, .l (fe F X.length Y.length 0), .l out, .i (f : Int), .i (i : Int), .i (k : Int), .i (X.length : Int), .i (i : Int)]) ⟨_, J1 oF hi q nY ho false, 1, rfl, rfl, rfl⟩ (by simp) ?_
    rintro _ _ ⟨rfl,rfl⟩;dsimp +instances only[go_sem];exact aa.neg rfl (aa.p (aa.pos (by simp) (aa.some rfl)))
  cases d:gg F (df a b X Y oF) (wJ a b X Y) (F i f) i k with
  | false =>
   rw[U false d,cF];exact a6.next (aa.toEq (go d)) (Tb J oF v out ho hi hf t (k+1) (by omega))
  | true =>
   rw[U true d,cT];obtain⟨o1,o2⟩:=uH.1 d;refine a6.stop (x:=0) (aa.toEq ?_) ⟨rfl,rfl⟩;unfold uz;dsimp +instances only[go_sem];simp only[kh];refine aa.p ?_;refine aa.cE (S7 J oF _ hi q) ?_;dsimp +instances only[go_sem];simp only[aR,V,e2,I,M];dsimp +instances only[go_sem];simp only[N,O,xT,sx];dsimp +instances only[go_sem];refine aa.pos o1 ?_;refine aa.p (aa.p (aa.p (aa.p (aa.pos (dH.2 ⟨by omega,by omega⟩) (aa.p (aa.p ?_))))));have y:(wJ a b X Y i k+F (i+1) (k+1)==F i f)=true:=by rw[beq_iff_eq]; exact o2
   rw[y];refine aa.tail (P:=fun u g=>u=0/\g=[.l a,.l b,.l (bl X),.l (bl Y),.i oF,.l (fe F X.length Y.length 0),.l (out++[eO X Y (i,k)]),.i ((k+1:Nat):Int),.i (X.length:Int),.i (i:Int)]) ⟨_,J1 oF hi q nY ho true,0,rfl,rfl,rfl⟩ (by simp) ?_;rintro _ _ ⟨rfl,rfl⟩;dsimp +instances only[go_sem];exact aa.pos rfl (aa.pos (by simp) (aa.some rfl))
def J2(J:JC a b X Y)(oF:Int)(h:fc F X.length Y.length (df a b X Y oF) (wJ a b X Y)):∀(t i f:Nat) (out:LL),i+t=X.length->f<=Y.length->out.length+t<=100000 ->
  a6 xm [.l a,.l b,.l (bl X),.l (bl Y),.i oF,.l (fe F X.length Y.length 0),.l out,.i (f:Int),.i (X.length:Int),.i (i:Int)] (t+1)
   fun c g=>c=0/\g=[.l a,.l b,.l (bl X),.l (bl Y),.i oF,.l (fe F X.length Y.length 0),.l (out++(bA F Y.length (df a b X Y oF) (wJ a b X Y) t i f).map (eO X Y))]
 | 0,i,f,out,hi,k,ho=>by
  have e:out++(bA F Y.length (df a b X Y oF) (wJ a b X Y) 0 i f).map (eO X Y)=out:=by rw[bA,u6,da]
  rw[e];refine a6.stop (x:=0) (aa.toEq ?_) ⟨rfl,rfl⟩;unfold xm;dsimp +instances only[go_sem];exact aa.n (aa.pos (by simp) (aa.some rfl))
 | t+1,i,f,out,hi,k,ho=>by
  have nX:=J.nX;have nY:=J.nY;have v:=Tb J oF h out (by omega) (f:=f) (i:=i) (by omega) k (Y.length-f) f (by omega);have step:∀ q,fW (gg F (df a b X Y oF) (wJ a b X Y) (F i f) i) f (Y.length-f)=q->aa (xm [.l a,.l b,.l (bl X),.l (bl Y),.i oF,.l (fe F X.length Y.length 0),.l out,.i (f:Int),.i (X.length:Int),.i (i:Int)])
    (fun o=>o=(none,[.l a,.l b,.l (bl X),.l (bl Y),.i oF,.l (fe F X.length Y.length 0),.l (S' X Y out i q),.i (Ta f q:Int),.i (X.length:Int),.i ((i+1:Nat):Int)])):=fun q d=>by
   rw[d]at v;unfold xm;dsimp +instances only[go_sem];refine aa.p ?_;refine aa.loop (v.to (by omega)) (by simp) ?_;rintro _ _ ⟨rfl,rfl⟩;dsimp +instances only[go_sem];exact aa.p (aa.pos (by simp) (aa.some rfl))
  cases d:fW (gg F (df a b X Y oF) (wJ a b X Y) (F i f) i) f (Y.length-f)with
  | none =>
   have:=J2 J oF h t (i+1) f out (by omega) k (by omega);rw[qE d];exact a6.next (aa.toEq (step none d)) this
  | some q =>
   obtain⟨y,I,_,_⟩:=sv d;have:=J2 J oF h t (i+1) (q+1) (out++[eO X Y (i,q)]) (by omega) (by omega) (by simp; omega);rw[nO d,dC];rw[gG]at this;exact a6.next (aa.toEq (step (some q) d)) this
def ajl(J:JC a b X Y)(oF:Int)(d:fc F X.length Y.length (df a b X Y oF) (wJ a b X Y)) :
  En [.l a,.l b,.l (bl X),.l (bl Y),.i oF,.l []]=some [.l a,.l b,.l (bl X),.l (bl Y),.i oF,.l (fe F X.length Y.length 0),.l ((bA F Y.length (df a b X Y oF) (wJ a b X Y) X.length 0 0).map (eO X Y))]:=by
 have nX:=J.nX;refine aa.toEq ?_;unfold En;dsimp +instances only[go_sem];refine aa.cE (ajk J oF d) ?_;dsimp +instances only[go_sem];simp only[kh];have h:=J2 J oF d X.length 0 0 [] (by omega) (eV _) (by simp; omega);rw[lB]at h;refine aa.loop (h.to (by omega)) (by first|rfl|simp) ?_;rintro _ _ ⟨rfl,rfl⟩;dsimp +instances only[go_sem];exact aa.pos (by simp) (aa.some rfl)
end
abbrev GK:=BY × Int
def eP(k:GK):LG:=[.s k.1,.i k.2]
def ajm(k:GK):bq [.str,.I] (eP k) (eP k)=true:=by
 show ((k.1.toList==k.1.toList)&&((k.2==k.2)&&true))=true
 simp
def ajn{k d:GK}(h:k≠d):bq [.str,.I] (eP k) (eP d)=false:=by
 show ((k.1.toList==d.1.toList)&&((k.2==d.2)&&true))=false
 cases h1:k.1.toList==d.1.toList with
 |false=>rfl
 | true =>
  cases g:k.2==d.2 with
  |false=>rfl
  |true=>exact(h (Prod.ext (GR (eq_of_beq h1)) (eq_of_beq g))).elim
def ma(i:Nat)(e:GK × List Nat):LG:=[.l [eP e.1],.l [[.l (bl e.2)]],.i (i:Int),.t true]
def bO:Nat->List (GK × List Nat)->LL
 |_,[]=>[]
 |i,e::L=>ma i e::bO (i+1) L
def Bh:∀(i:Nat) (L:List (GK × List Nat)),(bO i L).length=L.length
 |_,[]=>rfl
 |i,_::L=>by simp[bO,Bh (i+1) L]
def xV:∀(i:Nat) (A B:List (GK × List Nat)),bO i (A++B)=bO i A++bO (i+A.length) B
 |i,[],B=>by simp[bO]
 | i,e::A,B=>by
  simp only[mr,bO,xV (i+1) A B,cn];rw[show i+1+A.length=i+(A.length+1) from by omega]
def nP(k:GK)(v:Nat):List (GK × List Nat)->List (GK × List Nat)
 | []=>[(k,[v])]
 |e::L=>if e.1=k then (e.1,e.2++[v])::L else e::nP k v L
def Fh(k:GK):∀ L:List (GK × List Nat),(∀ e∈L,e.1≠k)\/∃ A g B,L=A++(k,g)::B/\∀ e∈A,e.1≠k
 | []=>.inl fun e h=>by cases h
 | e::L=>by
  by_cases he:e.1=k
  ·exact .inr ⟨[],e.2,L,by rw[<-he]; rfl,fun e h=>by cases h⟩
  ·rcases Fh k L with h | ⟨A, g, B, rfl, h⟩
   ·exact .inl fun x d=>by
     rcases cq.1 d with rfl|d
     ·exact he
     ·exact h x d
   ·exact .inr ⟨e::A,g,B,rfl,fun x d=>by
     rcases cq.1 d with rfl|d
     ·exact he
     ·exact h x d⟩
def Fi{k:GK}(v:Nat):∀{L:List (GK × List Nat)},(∀ e∈L,e.1≠k)->nP k v L=L++[(k,[v])]
 | [],_=>rfl
 | e::L,h=>by
  rw[nP,iN (h e cX),Fi v fun x d=>h x (dp _ d)];rfl
def Fj{k:GK}(v:Nat)(d:List Nat)(B:List (GK × List Nat)):∀{A:List (GK × List Nat)},(∀ e∈A,e.1≠k)->nP k v (A++(k,d)::B)=A++(k,d++[v])::B
 | [],_=>by rw[lB,nP,iP rfl,lB]
 | e::A,h=>by
  rw[mr,nP,iN (h e cX),Fj v d B fun x g=>h x (dp _ g)];rfl
def J3(k:GK)(R:LL):∀(A:List (GK × List Nat)) (i j:Nat),(∀ e∈A,e.1≠k)->bW [.str,.I] (eP k) (bO i A++R) j=bW [.str,.I] (eP k) R (j+A.length)
 | [],_,_,_=>rfl
 | e::A,i,j,h=>by
  rw[bO,mr,bW,show (gi (ma i e) 0).rV=eP e.1 from rfl,ajn (Ne.symm (h e cX)),cF,J3 k R A (i+1) (j+1) fun x d=>h x (dp _ d),cn];congr 1;omega
def Tc{k:GK}{L:List (GK × List Nat)}(h:∀ e∈L,e.1≠k)(i j:Nat):bW [.str,.I] (eP k) (bO i L) j=none:=by
 have:=J3 k [] L i j h;rw[da]at this;exact this
def Td{k:GK}{A:List (GK × List Nat)}(h:∀ e∈A,e.1≠k)(i:Nat)(r:LG)(d:(gi r 0).rV=eP k)(R:LL):bW [.str,.I] (eP k) (bO i A++r::R) 0=some (A.length,r):=by
 rw[J3 k (r::R) A i 0 h,bW,d,ajm,cT,cP]
def Te(R:LL):∀(A:List (GK × List Nat)) (i j c:Nat),i+A.length<=c->gO (c:Int) (bO i A++R) j=gO (c:Int) R (j+A.length)
 | [],_,_,_,_=>rfl
 | e::A,i,j,c,h=>by
  rw[cn]at h;have hb:(((gi (ma i e) 2).iV.toNat:Int)==(c:Int))=false:=by
   show (((i:Int).toNat:Int)==(c:Int))=false
   rw[aR,beq_eq_false_iff_ne];omega
  rw[bO,mr,gO,hb,cF,Te R A (i+1) (j+1) c (by omega),cn];congr 1;omega
def Tf(A:List (GK × List Nat))(r:LG)(R:LL)(d:(gi r 2).iV=(A.length:Int)):gO (A.length:Int) (bO 0 A++r::R) 0=some (A.length,r):=by
 rw[Te (r::R) A 0 0 A.length (by omega),gO,d,aR,show ((A.length:Int)==(A.length:Int))=true from by simp,cT,cP]
def uI{α:Type}(p:List α)(x y:α)(q:List α)(n:Nat)(h:p.length=n):(p++x::q).set n y=p++y::q:=by
 subst h;rw[List.set_append_right _ _ (aM _),lF,List.set_cons_zero]
def sD(L:List (GK × List Nat)):Nat:=(L.map fun e=>e.2.length).sum
def ajo{L:List (GK × List Nat)}{e:GK × List Nat}(h:e∈L):e.2.length<=sD L:=by
 induction L with
 |nil=>cases h
 | cons x L d =>
  unfold sD at d|-;rw[dC,VC];rcases cq.1 h with rfl|h
  ·omega
  ·have := d h
   omega
def Tg(k:GK)(v:Nat):∀ L:List (GK × List Nat),sD (nP k v L)=sD L+1
 | []=>rfl
 | e::L=>by
  have d:=Tg k v L;rw[nP];split
  ·unfold sD
   simp;omega
  ·unfold sD at d |-
   rw[dC,VC,dC,VC,d];omega
def ajp(L:List (GK × List Nat))(k:GK)(v:Nat) :
  eY [.str,.I] (bO 0 L) (eP k)=true/\(fj [.str,.I] (bO 0 L) (eP k)).length<=sD L /\
   vZ (qm [.str,.I] (bO 0 L) (eP k) L.length) (ql [.str,.I] (bO 0 L) (eP k) L.length:Nat)=true /\
   vY (qm [.str,.I] (bO 0 L) (eP k) L.length) (ql [.str,.I] (bO 0 L) (eP k) L.length:Nat) (fj [.str,.I] (bO 0 L) (eP k)++[[.i (v:Int)]])=bO 0 (nP k v L) /\
   dL [.str,.I] (bO 0 L) (eP k) L.length=(nP k v L).length:=by
 rcases Fh k L with h1|⟨A,d,B,rfl,N⟩
 ·have g := Tc h1 0 0
  have h:fj [.str,.I] (bO 0 L) (eP k)=[]:=by unfold fj; rw[g]
  have q:qm [.str,.I] (bO 0 L) (eP k) L.length=bO 0 L++[[.l [eP k],.l [[.l []]],.i (L.length:Int),.t false]]:=by unfold qm; rw[g]
  have y:ql [.str,.I] (bO 0 L) (eP k) L.length=L.length:=by unfold ql; rw[g]
  have M:=Tf L [.l [eP k],.l [[.l []]],.i (L.length:Int),.t false] [] rfl;refine⟨by unfold eY; rw[g],by rw[h]; simp,?_,?_,?_⟩
  ·rw [q, y]
   unfold vZ;rw[M];rfl
  ·rw [q, y, h, Fi v h1, xV]
   unfold vY;rw[M];simp only[];rw[uI _ _ _ _ _ (Bh 0 L),cP];rfl
  ·rw [Fi v h1]
   unfold dL eM;rw[g];simp
 ·have g:bW [.str,.I] (eP k) (bO 0 (A++(k,d)::B)) 0=some (A.length,ma A.length (k,d)):=by
   rw[xV,bO,cP];exact Td N 0 (ma A.length (k,d)) rfl _
  have h:fj [.str,.I] (bO 0 (A++(k,d)::B)) (eP k)=bl d:=by unfold fj; rw[g]; rfl
  have q:qm [.str,.I] (bO 0 (A++(k,d)::B)) (eP k) (A++(k,d)::B).length=bO 0 A++[.l [eP k],.l [[.l (bl d)]],.i (A.length:Int),.t false]::bO (A.length+1) B:=by
   unfold qm;rw[g,xV,bO,cP];exact uI _ _ _ _ _ (Bh 0 A)
  have y:ql [.str,.I] (bO 0 (A++(k,d)::B)) (eP k) (A++(k,d)::B).length=A.length:=by
   unfold ql;rw[g];show ((A.length:Int).toNat)=A.length
   exact aR _
  have M:=Tf A [.l [eP k],.l [[.l (bl d)]],.i (A.length:Int),.t false] (bO (A.length+1) B) rfl;refine⟨by unfold eY; rw[g]; rfl,by rw[h,kh]; exact ajo (e:=(k,d)) (by simp),?_,?_,?_⟩
  ·rw [q, y]
   unfold vZ;rw[M];rfl
  ·rw [q, y, h, Fj v d B N, xV, bO, cP]
   unfold vY;rw[M];simp only[];rw[uI _ _ _ _ _ (Bh 0 A)];have O:bl d++[[G.i (v:Int)]]=bl (d++[v]):=by unfold bl; rw[jY]; rfl
   rw[O];rfl
  ·rw [Fj v d B N]
   unfold dL eM;rw[g];simp
def bS(r:LG):GK:=(jR r,mQ r)
def gr(l:LL)(s:BY)(i:Nat):Bool:=(JY (l.getD i [])).toList==s.toList
def qG(l:LL)(s:BY)(L:List (GK × List Nat))(i:Nat):List (GK × List Nat):=bif gr l s i then nP (bS (l.getD i [])) i L else L
def pL(l:LL)(s:BY)(n:Nat):List (GK × List Nat):=(fo n).foldl (qG l s) []
def Th(l:LL)(s:BY)(n:Nat):pL l s (n+1)=qG l s (pL l s n) n:=by
 unfold pL;rw[Vx,amI];rfl
def dM(l:LL)(s:BY)(k:GK)(n:Nat):List Nat:=(fo n).filter fun i=>gr l s i&&decide (bS (l.getD i [])=k)
def uJ(l:LL)(s:BY)(k:GK)(n:Nat):dM l s k (n+1)=dM l s k n++if gr l s n=true/\bS (l.getD n [])=k then [n] else []:=by
 unfold dM;rw[Vx,List.filter_append];congr 1;by_cases h1:gr l s n=true
 ·by_cases d : bS (l.getD n []) = k
  ·rw[iP ⟨h1,d⟩,F5,iP (by rw[h1,jI,dT]; exact d),VD]
  ·rw[iN fun e=>d e.2,F5,iN (by rw[h1,jI,dT]; exact d),VD]
 ·rw[iN fun e=>h1 e.1,F5,iN (by rw[aK]; exact fun e=>h1 e.1),VD]
structure GI (l:LL) (s:BY) (n:Nat) (L:List (GK × List Nat)):Prop where
 J4:sD L<=n
 len:L.length<=n
 nd:(L.map (·.1)).Nodup
 me:∀ e∈L,e.2=dM l s e.1 n/\e.2≠[]
 all:∀ k,dM l s k n≠[]->∃ e∈L,e.1=k
def GI.zero(l:LL)(s:BY):GI l s 0 []:=⟨aM _,aM _,by simp,by simp,fun k h=>(h rfl).elim⟩
def GI.step{l:LL}{s:BY}{n:Nat}{L:List (GK × List Nat)}(h:GI l s n L):GI l s (n+1) (qG l s L n):=by
 unfold qG;cases M:gr l s n with
 | false =>
  have e:∀ k,dM l s k (n+1)=dM l s k n:=fun k=>by rw[uJ,iN (by rw[M]; simp),da]
  exact⟨Lc h.J4,Lc h.len,h.nd,fun x d=>by rw[e]; exact h.me x d,fun k g=>by rw[e]at g; exact h.all k g⟩
 | true =>
  rw[cT];have N:dM l s (bS (l.getD n [])) (n+1)=dM l s (bS (l.getD n [])) n++[n]:=by rw[uJ,iP ⟨M,rfl⟩]
  have v:∀ k,bS (l.getD n [])≠k->dM l s k (n+1)=dM l s k n:=fun k g=>by rw[uJ,iN (fun e=>g e.2),da]
  have O:=Tg (bS (l.getD n [])) n L;have h3:=h.J4;have W:=h.len;rcases Fh (bS (l.getD n [])) L with h1|⟨A,U,B,rfl,V⟩
  ·rw [Fi n h1] at O |-
   refine⟨by omega,by simp; omega,?_,fun x d=>?_,fun k g=>?_⟩
   ·rw [jY, Ld]
    refine⟨h.nd,by simp,fun a ha b hb=>?_⟩;obtain⟨e,he,rfl⟩:=dB.1 ha;simp at hb;subst hb;exact h1 e he
   ·rcases db.1 d with d | d
    ·rw [v x.1 (Ne.symm (h1 x d))]
     exact h.me x d
    ·have d := kT.1 d
     subst d;show [n]=dM l s (bS (l.getD n [])) (n+1)/\[n]≠[]
     rw[N];have:dM l s (bS (l.getD n [])) n=[]:=by
      cases hs:dM l s (bS (l.getD n [])) n with
      |nil=>rfl
      | cons y ys =>
       obtain⟨e,he,g⟩:=h.all (bS (l.getD n [])) (by rw[hs]; simp);exact(h1 e he g).elim
     rw[this];simp
   ·by_cases e : bS (l.getD n []) = k
    ·exact⟨_,pY _ cX,e⟩
    ·rw [v k e] at g
     obtain⟨x,d,q⟩:=h.all k g;exact⟨x,oe _ d,q⟩
  ·rw [Fj n U B V] at O |-
   have I:=h.nd;rw[jY,dC]at I;have hB:∀ e∈B,e.1≠bS (l.getD n []):=fun e he g=>by
    have:=(Ld.1 I).2.1;rw[pW]at this;exact this.1 (g▸dB.2 ⟨e,he,rfl⟩)
   refine⟨by omega,by simp at W|-; omega,?_,fun x d=>?_,fun k g=>?_⟩
   ·rw [jY, dC]
    exact I
   ·rcases db.1 d with d | d
    ·rw [v x.1 (Ne.symm (V x d))]
     exact h.me x (oe _ d)
    ·rcases cq.1 d with rfl | d
     ·have := h.me (bS (l.getD n []), U) (by simp)
      simp only at this|-;rw[N,<-this.1];simp
     ·rw [v x.1 (Ne.symm (hB x d))]
      exact h.me x (pY _ (dp _ d))
   ·by_cases e : bS (l.getD n []) = k
    ·exact⟨_,pY _ cX,e⟩
    ·rw [v k e] at g
     obtain⟨x,d,q⟩:=h.all k g;rcases db.1 d with d|d
     ·exact⟨x,oe _ d,q⟩
     ·rcases cq.1 d with rfl | d
      ·exact(e q).elim
      ·exact⟨x,pY _ (dp _ d),q⟩
def GI.to(l:LL)(s:BY):∀ n,GI l s n (pL l s n)
 |0=>GI.zero l s
 | n+1=>by
  rw[Th];exact(GI.to l s n).step
def gF(l:LL)(s:BY):List (GK × List Nat):=pL l s l.length
def ajq(l:LL)(hn:l.length<=100000)(s:BY) :
  lp xh [.l [],.i 0,.s s,.l l,.i (l.length:Int),.i 0] fun c g=>c=0/\g=[.l (bO 0 (gF l s)),.i ((gF l s).length:Int)]:=by
 have r:=wQ (st:=xh) (σ:=List (GK × List Nat)) (fun L i=>[.l (bO 0 L),.i (L.length:Int),.s s,.l l,.i (l.length:Int),.i (i:Int)]) l (fun L=>(0,[.l (bO 0 L),.i (L.length:Int)]))
  (fun L i=>L=pL l s i) [] (by omega) rfl
  (fun L i z d hi q hm U => by
   have v:=GI.to l s i;rw[<-d]at v;have V:=v.J4;have k:qG l s L i=pL l s (i+1):=by rw[Th,d]
   obtain⟨y,W,I,M,N⟩:=ajp L (bS z) i;unfold xh;dsimp +instances only[go_sem];simp only[aR,q];refine aa.p (aa.p ?_);have O:([.s (gi z 2).sV,.i (gi z 1).iV]:LG)=eP (bS z):=rfl;rw[O,M,N];refine aa.test (fun h=>?_) fun h=>?_
   ·have e:qG l s L i=nP (bS z) i L:=by
     unfold qG gr;rw[q,show ((JY z).toList==s.toList)=true from h,cT]
    rw[e]at k;exact aa.pos y (aa.pos (by simp; omega) (aa.pos (by rw[I]; simp) (aa.p (aa.some ⟨_,rfl,k⟩))))
   ·have e:qG l s L i=L:=by
     unfold qG gr;rw[q,show ((JY z).toList==s.toList)=false from h,cF]
    rw[e]at k;exact aa.p (aa.some ⟨L,rfl,k⟩))
  (fun L d => by
   unfold xh;dsimp +instances only[go_sem];simp only[aR];exact aa.n (aa.some rfl))
 refine r.mono ?_;rintro c g ⟨L,d,rfl,rfl⟩;exact⟨rfl,by rw[d]; rfl⟩
def Ti:∀(i:Nat) (L:List (GK × List Nat)),rT (bO i L)=true
 |_,[]=>rfl
 | i,e::L=>by
  have:=Ti (i+1) L;unfold rT at this|-;rw[bO,oa,this];rfl
def Tj(l:LL)(hn:l.length<=100000)(s:BY):AD [.l l,.s s]=some [.l (bO 0 (gF l s)),.i ((gF l s).length:Int)]:=by
 refine aa.toEq ?_;unfold AD;dsimp +instances only[go_sem];refine aa.loop (ajq l hn s) (by first|rfl|simp) ?_;rintro _ _ ⟨rfl,rfl⟩;dsimp +instances only[go_sem];simp only[aR];exact aa.pos (by rw[Ti]; rfl) (aa.some rfl)
def ajr(l:LL)(s:BY)(k:GK):dv [.str,.I] (bO 0 (gF l s)) (eP k) [.l []]=[.l (bl (dM l s k l.length))]:=by
 have h:=GI.to l s l.length;show dv [.str,.I] (bO 0 (pL l s l.length)) (eP k) [.l []]=_
 rcases Fh k (pL l s l.length)with h1|⟨A,d,B,he,q⟩
 ·have:dM l s k l.length=[]:=by
   cases g:dM l s k l.length with
   |nil=>rfl
   | cons y N =>
    obtain⟨e,he,v⟩:=h.all k (by rw[g]; simp);exact(h1 e he v).elim
  unfold dv;rw[Tc h1,this];rfl
 ·have M:bW [.str,.I] (eP k) (bO 0 (pL l s l.length)) 0=some (A.length,ma A.length (k,d)):=by
   rw[he,xV,bO,cP];exact Td q 0 (ma A.length (k,d)) rfl _
  have g:=h.me (k,d) (by rw[he]; simp);unfold dv;rw[M];show [G.l (bl d)]=_
  rw[show d=dM l s k l.length from g.1]
def Bi(A B:LL)(oF:Int)(X Y:List Nat):List (Nat × Nat):=bA (l_ X.length Y.length (df A B X Y oF) (wJ A B X Y)) Y.length (df A B X Y oF) (wJ A B X Y) X.length 0 0
def c_(A:LL)(d:BY)(k:GK):List Nat:=dM A d k A.length
def gj(A B:LL)(ac d:BY)(oF:Int)(k:GK):LL:=(Bi A B oF (c_ A d k) (c_ B ac k)).map (eO (c_ A d k) (c_ B ac k))
def gu(A B:LL)(ac d:BY)(oF:Int):LL:=((gF A d).map fun e=>gj A B ac d oF e.1).flatten
def mf(r s:LG):Int:=fL (gi r 0).iV (gi s 0).iV
def jV(A B:LL)(ac d:BY)(oF:Int):LL:=cR (bK mf) (gu A B ac d oF)
def oT{A:LL}{s:BY}{k:GK}{i:Nat}:i∈c_ A s k↔i<A.length/\gr A s i=true/\bS (A.getD i [])=k:=by
 unfold c_ dM;rw[s9,gH,aK,dT]
def Tk(A:LL)(s:BY)(k:GK):(c_ A s k).length<=A.length:=by
 unfold c_ dM;have:=amJ (fun i=>gr A s i&&decide (bS (A.getD i [])=k)) (fo A.length)
 rwa [oZ]at this
def Fk(A:LL)(s:BY)(k:GK):(c_ A s k).Pairwise (·<·):=(List.pairwise_lt_range).filter _
structure iS (A B:LL):Prop where
 ha:∀ z∈A,d_ z
 hb:∀ z∈B,d_ z
 na:A.length<=1000
 nb:B.length<=1000
def iS.flip{A B:LL}(h:iS A B):iS B A:=⟨h.hb,h.ha,h.nb,h.na⟩
def iS.jc{A B:LL}(h:iS A B)(ac d:BY)(k:GK):JC A B (c_ A d k) (c_ B ac k):=by
 have h1:=h.na;have g:=h.nb;have q:=Tk A d k;have v:=Tk B ac k;exact⟨h.ha,h.hb,fun i hi=>(oT.1 hi).1,fun i hi=>(oT.1 hi).1,by omega,by omega,by omega,by omega⟩
def Fl{A B:LL}{oF:Int}{X Y:List Nat}{x:Nat × Nat}(h:x∈Bi A B oF X Y):x.1<X.length/\x.2<Y.length/\df A B X Y oF x.1 x.2=true:=by
 obtain⟨_,b,_,d,e⟩:=qF _ _ _ x h;exact⟨by omega,d,e⟩
def Tl(A B:LL)(oF:Int)(X Y:List Nat):(Bi A B oF X Y).length<=X.length:=by
 have key:∀(F:Nat->Nat->Int) (m:Nat) (ok:Nat->Nat->Bool) (w:Nat->Nat->Int) (t i f:Nat),(bA F m ok w t i f).length<=t:=by
  intro F m ok w t
  induction t with
  |zero=>intro i f; exact aM _
  | succ t d =>
   intro i f;rw[bA];split
   ·rw [cn]
    exact B1 (d _ _)
   ·exact Lc (d _ _)
 exact key _ _ _ _ _ _ _
def Bj(r:LG):Prop:=∃ i k:Nat,r=[.i (i:Int),.i (k:Int)]/\i<=100000/\k<=100000
def ajs:uo xn Bj mf:=by
 rintro _ _ ⟨i,k,rfl,h1,g⟩ ⟨d,h,rfl,q,v⟩;refine⟨(i:Int)-(d:Int),?_,?_⟩
 ·refine aa.toEq ?_
  unfold xn;dsimp +instances only[go_sem];exact aa.pos (dH.2 ⟨by omega,by omega⟩) (aa.some rfl)
 ·show (i : Int) - (d : Int) < 0 ↔ fL (i : Int) (d : Int) < 0
  rw[uG];omega
def Bk:gP (bK mf) (fun _=>True):=ajb (fun a b=>S6.flip _ _) fun a b d h1 g=>S6.le _ _ _ h1 g
def J5{A B:LL}(h:iS A B){ac d:BY}{oF:Int}{k:GK}{r:LG}(g:r∈gj A B ac d oF k) :
  ∃ i j:Nat,r=[.i (i:Int),.i (j:Int)]/\i∈c_ A d k/\j∈c_ B ac k/\jU oF (A.getD i []) (B.getD j [])=true:=by
 obtain⟨x,q,rfl⟩:=dB.1 g;obtain⟨a,b,c⟩:=Fl q;exact⟨_,_,rfl,iu a,iu b,c⟩
def Fm{A B:LL}(h:iS A B){ac g:BY}{oF:Int}{r:LG}(d:r∈gu A B ac g oF) :
  ∃(k:GK) (i j:Nat),r=[.i (i:Int),.i (j:Int)]/\i∈c_ A g k/\j∈c_ B ac k/\jU oF (A.getD i []) (B.getD j [])=true:=by
 obtain⟨l,q,d⟩:=KP.1 d;obtain⟨e,_,rfl⟩:=dB.1 q;obtain⟨i,j,h1⟩:=J5 h d;exact⟨_,i,j,h1⟩
def xW{A B:LL}(h:iS A B){ac d:BY}{oF:Int}:∀ r∈gu A B ac d oF,Bj r:=fun r g=>by
 obtain⟨k,i,j,rfl,h1,q,_⟩:=Fm h g;have:=(oT.1 h1).1;have:=(oT.1 q).1;have:=h.na;have:=h.nb;exact⟨i,j,rfl,by omega,by omega⟩
def Fo{A B:LL}(h:iS A B)(ac d:BY)(oF:Int):(gu A B ac d oF).Pairwise fun a b=>(gi a 0).iV≠(gi b 0).iV:=by
 have V:=GI.to A d A.length;unfold gu;rw[List.pairwise_flatten];refine⟨fun l W=>?_,?_⟩
 ·obtain ⟨e, _, rfl⟩ := dB.1 W
  unfold gj;rw[yy];refine(JX _ _ _).imp_of_mem fun {x y} g k N he=>?_;obtain⟨q,_,_⟩:=Fl (A:=A) (B:=B) (oF:=oF) g;obtain⟨v,_,_⟩:=Fl (A:=A) (B:=B) (oF:=oF) k;have he:(((c_ A d e.1).getD x.1 0:Nat):Int)=(((c_ A d e.1).getD y.1 0:Nat):Int):=he;have hr:=K5.1 (Fk A d e.1) x.1 y.1 q v N.1;rw[cd,bZ q,cd,bZ v]at he;simp only[m_]at he;omega
 ·rw [yy]
  have O:(gF A d).Pairwise fun e I=>e.1≠I.1:=by
   have:=V.nd;unfold Le at this
   rwa [yy]at this
  refine O.imp fun {e I} U x g y k he=>?_;obtain⟨i,j,rfl,h1,_⟩:=J5 h g;obtain⟨M,j',rfl,h2,_⟩:=J5 h k;have he:(i:Int)=(M:Int):=he;have he:i=M:=by omega
  subst he;exact U ((oT.1 h1).2.2.symm.trans (oT.1 h2).2.2)
def Fp{A B:LL}(h:iS A B)(ac d:BY)(oF:Int):∀ a∈gu A B ac d oF,∀ b∈gu A B ac d oF,bK mf a b=false->bK mf b a=false->a=b:=by
 intro a ha b hb h1 k;unfold bK mf at h1 k;rw[cK,dF,uG]at h1 k;have he:(gi a 0).iV=(gi b 0).iV:=by omega
 obtain⟨i,hi,rfl⟩:=pR ha;obtain⟨j,q,rfl⟩:=pR hb;have v:=K5.1 (Fo h ac d oF);rcases La i j with g|g|g
 ·exact(v i j hi q g he).elim
 ·subst g; rfl
 ·exact(v j i q hi g he.symm).elim
def ajt{A B:LL}(h:iS A B)(ac d:BY)(oF:Int){out:LL}(g:out.Perm (gu A B ac d oF))(hn:out.length<100000):Eo [.l out]=some [.l (jV A B ac d oF)]:=by
 have h1:=Px (C:=xn) (Q:=Bj) ajs (Bk.mono fun _ _=>trivial) out (fun y k=>xW h y (g.mem_iff.1 k)) hn fun a ha b hb=>Fp h ac d oF a (g.mem_iff.1 ha) b (g.mem_iff.1 hb);unfold Eo;rw[h1];have e:cR (bK mf) (gu A B ac d oF)=cR (bK mf) out:=Pu Bk g.symm (fun _ _=>trivial) (Fp h ac d oF);rw[<-e];rfl
def Fq(r:LG):GK:=((gi (gi r 0).rV 0).sV,(gi (gi r 0).rV 1).iV)
def Tm:∀(i:Nat) (L:List (GK × List Nat)) (r:LG),r∈bO i L->∃(j:Nat) (e:GK × List Nat),e∈L/\r=ma j e
 |_,[],_,h=>by cases h
 | i,e::L,r,h=>by
  rcases cq.1 h with rfl|h
  ·exact⟨i,e,cX,rfl⟩
  ·obtain ⟨j, d, h1, g⟩ := Tm (i + 1) L r h
   exact⟨j,d,dp _ h1,g⟩
def Tn{β:Type}(f:GK->β):∀(i:Nat) (L:List (GK × List Nat)),(bO i L).map (fun r=>f (Fq r))=L.map fun e=>f e.1
 |_,[]=>rfl
 | i,e::L=>by
  simp only[bO,dC,Tn f (i+1) L];rfl
def To:∀(i:Nat) (L:List (GK × List Nat)),(bO i L).map fC=(fo L.length).map (i+·)
 |_,[]=>rfl
 | i,e::L=>by
  simp only[bO,dC,To (i+1) L,cn,amK,n9];rw[show fC (ma i e)=i from by simp[fC,ma,gi,G.iV]];congr 1;refine nc fun x _=>?_;simp only[F3];omega
def J6:∀ l:List Nat,l.Nodup->nodupB l=true
 | [],_=>rfl
 | a::l,d=>by
  obtain⟨h1,g⟩:=pW.1 d;simp only[nodupB,J6 l g,gX,Bool.not_eq_true'];cases h:l.any (aG a)with
  |false=>rfl
  | true =>
   obtain⟨x,k,e⟩:=lG.1 h;rw[Nat.eq_of_beq_eq_true e]at h1;exact(h1 k).elim
def aju(L:List (GK × List Nat)):qz (bO 0 L) L.length=true:=by
 have hb:(bO 0 L).map fC=fo L.length:=by
  rw[To];simp
 unfold qz;rw[hb,aK];refine⟨J6 _ amL,?_⟩;rw[dN];intro r d;have:fC r∈(bO 0 L).map fC:=dB.2 ⟨r,d,rfl⟩;rw[hb,gH]at this;simpa using this
def Tp{st:LG->LG->Option LG}{cL:LG->Nat}{r:LG}{q:LL}{d g:LG}(h:st r d=some g)(ha:cL g=cL d):gf st cL (r::q) d=gf st cL q g:=by
 simp only[gf,h];rw[ha,show aG (cL d) (cL d)=true from i_ _,cT]
def Tq{A B:LL}(h:iS A B)(ac g:BY)(oF:Int)(k cL:Nat):∀(q out:LL),(∀ r∈q,r∈bO 0 (gF A g))->out.length+1000*q.length<=1000000 ->
  gf Ep (fun d=>(gi d 8).iV.toNat) q [.s ac,.l A,.s g,.l B,.l (bO 0 (gF B ac)),.i (k:Int),.l out,.i oF,.i (cL:Int)] =
   some [.s ac,.l A,.s g,.l B,.l (bO 0 (gF B ac)),.i (k:Int),.l (out++(q.map fun r=>gj A B ac g oF (Fq r)).flatten),.i oF,.i (cL:Int)]
 | [],out,_,_=>by simp[gf]
 | r::q,out,v,y=>by
  simp only[cn]at y;obtain⟨j,e,he,rfl⟩:=Tm 0 _ r (v r cX);have M:=(GI.to A g A.length).me e he;have N:Fq (ma j e)=e.1:=rfl;have hX:e.2=c_ A g e.1:=M.1;have J:=h.jc ac g e.1;have W:(gj A B ac g oF e.1).length<=1000:=by
   unfold gj;rw[c8];exact kR (Tl _ _ _ _ _) J.nX
  have st:Ep (ma j e) [.s ac,.l A,.s g,.l B,.l (bO 0 (gF B ac)),.i (k:Int),.l out,.i oF,.i (cL:Int)]=some [.s ac,.l A,.s g,.l B,.l (bO 0 (gF B ac)),.i (k:Int),.l (out++gj A B ac g oF e.1),.i oF,.i (cL:Int)]:=by
   have O:(gi (gi (ma j e) 1).rV 0).rZ=bl e.2:=rfl;have U:aQ [.str,.I] (gi (ma j e) 0).rV=eP e.1:=rfl;refine aa.toEq ?_;unfold Ep;rw[O,U];dsimp +instances only[go_sem];rw[ajr,hX];dsimp +instances only[go_sem];refine aa.cE (ajl J oF (Ff _ _ _ _)) ?_;dsimp +instances only[go_sem];simp only[aR];exact aa.pos (by
    show ((aG out.length out.length)&&decide (out.length+(gj A B ac g oF e.1).length<=1048576))=true
    rw[i_,jI,dT];omega) (aa.pos (by rw[i_]; rfl) (aa.some rfl))
  rw[Tp st rfl,Tq h ac g oF k cL q _ (fun x V=>v x (dp _ V)) (by rw[fu]; omega)];rw[dC,pT,N,gG]
def Bl:∀(n:Nat) (l:List Nat),l.Nodup->(∀ x∈l,x<n)->l.length<=n
 | 0,l,_,h=>by
  cases l with
  |nil=>exact aM _
  |cons x l=>exact absurd (h x cX) (by omega)
 | n+1,l,hn,h=>by
  by_cases hm:n∈l
  ·have h1:=Bl n (l.erase n) (hn.erase n) fun x d=>by
    have g:=h x (List.mem_of_mem_erase d);have k:x≠n:=fun e=>by
     subst e;exact(List.Nodup.not_mem_erase hn) d
    omega
   rw[List.length_erase_of_mem hm]at h1;omega
  ·have:=Bl n l hn fun x d=>by
    have g:=h x d;have k:x≠n:=fun e=>hm (e▸d);omega
   omega
def ajv{A B:LL}(h:iS A B)(ac d:BY)(oF:Int) :
  Jm [.s ac,.l A,.s d,.l B,.l (bO 0 (gF A d)),.i ((gF A d).length:Int),.l (bO 0 (gF B ac)),.i ((gF B ac).length:Int),.l [],.i oF]=some (some 0,[.l (jV A B ac d oF)]):=by
 have V:=GI.to A d A.length;have W:=V.len;have na:=h.na;show qA Er Es (bO 0 (gF A d)) (((gF A d).length:Int).toNat) _=_
 rw[aR];refine Pv (aju _) fun b p q=>⟨rfl,?_⟩
 have hpn:p.length<=1000:=by
  have:=q.length_eq;rw[Bh]at this;have:(gF A d).length<=A.length:=W;omega
 have I:((p.map fun r=>gj A B ac d oF (Fq r)).flatten).Perm (gu A B ac d oF):=by
  unfold gu;rw[<-Tn (fun k=>gj A B ac d oF k) 0 (gF A d)];exact(q.map _).flatten
 have hall:(gu A B ac d oF).length<=1000:=by
  have O:((gu A B ac d oF).map fun r=>(gi r 0).iV.toNat).Nodup:=by
   unfold Le;rw[yy];refine(Fo h ac d oF).imp_of_mem fun {x y} g hy U he=>U ?_;obtain⟨i,k,rfl,_⟩:=xW h x g;obtain⟨M,k',rfl,_⟩:=xW h y hy;have he:((i:Int)).toNat=((M:Int)).toNat:=he;show (i:Int)=(M:Int)
   omega
  have N:((gu A B ac d oF).map fun r=>(gi r 0).iV.toNat) ⊆ fo A.length:=by
   intro x g;obtain⟨r,v,rfl⟩:=dB.1 g;obtain⟨k,i,j,rfl,h1,_⟩:=Fm h v;rw[gH];exact(oT.1 h1).1
  have:=Bl A.length _ O fun x g=>gH.1 (N g);rw[c8]at this;omega
 refine⟨_,Tq h ac d oF (gF B ac).length b p [] (fun r v=>q.mem_iff.1 v) (by simp; omega),?_⟩;rw[lB];refine aa.toEq ?_;unfold Es;dsimp +instances only[go_sem];have hl:=I.length_eq;refine aa.l4 (aa.eq (ajt h ac d oF I (by omega))) (by simp) ?_;rintro _ rfl;dsimp +instances only[go_sem];refine aa.pos ?_ (aa.some rfl);rw[hl];unfold jV;rw[uj,i_];rfl
def ajw{A B:LL}(h:iS A B)(ac d:BY)(oF:Int):Et [.l [[.s ac,.l A]],.l [[.s d,.l B]],.i oF]=some [.l (jV A B ac d oF)]:=by
 have na:=h.na;have nb:=h.nb;refine aa.toEq ?_;unfold Et;dsimp +instances only[go_sem];refine aa.cE (Tj A (by omega) d) ?_;dsimp +instances only[go_sem];refine aa.cE (Tj B (by omega) ac) ?_;dsimp +instances only[go_sem];simp only[aR];refine aa.tail (P:=fun u g=>u=0/\g=[.l (jV A B ac d oF)]) ⟨_,ajv h ac d oF,0,rfl,rfl,rfl⟩ (by first|rfl|simp) ?_;rintro _ _ ⟨rfl,rfl⟩;dsimp +instances only[go_sem];exact aa.pos (by simp) (aa.some rfl)
def Tr{oF:Int}{p q:LG}:jU oF p q=true↔jR p=jR q/\mQ p=mQ q/\jD p q<=oF:=by
 unfold jU;rw[ls,aK,aK,eX,dT,dT,beq_iff_eq]
def ajx{A B:LL}{ac d:BY}{oF:Int}{r:LG}:r∈gu A B ac d oF↔∃ k,r∈gj A B ac d oF k:=by
 constructor
 ·intro h
  obtain⟨l,q,v⟩:=KP.1 h;obtain⟨e,_,rfl⟩:=dB.1 q;exact⟨_,v⟩
 ·rintro ⟨k, h⟩
  have h':=h;unfold gj at h';obtain⟨x,y,_⟩:=dB.1 h';have h1:=(Fl y).1;obtain⟨e,he,rfl⟩:=(GI.to A d A.length).all k (by
   intro g;have g:c_ A d k=[]:=g;rw[g]at h1;simp at h1)
  exact KP.2 ⟨_,dB.2 ⟨e,he,rfl⟩,h⟩
def J7(A B:LL)(ac d:BY)(oF:Int):(jV A B ac d oF).Perm (gu A B ac d oF):=wW (lt:=bK mf) _
def Ts{A B:LL}(h:iS A B)(ac d:BY)(oF:Int):(jV A B ac d oF).Pairwise fun a b=>(gi a 0).iV<(gi b 0).iV:=by
 have h1:=DV (lt:=bK mf) Bk (l:=gu A B ac d oF) (fun _ _=>trivial);have q:(jV A B ac d oF).Pairwise fun a b=>(gi a 0).iV≠(gi b 0).iV:=(Fo h ac d oF).perm (J7 A B ac d oF).symm (fun k e=>k e.symm);refine h1.imp₂ (fun {a b} g v=>?_) q;unfold bK mf at g;rw[cK,dF,uG]at g;omega
def qH{A B:LL}(h:iS A B){ac d:BY}{oF:Int}{r:LG}(v:r∈jV A B ac d oF) :
  ∃ i j:Nat,r=[.i (i:Int),.i (j:Int)]/\i<A.length/\j<B.length/\gr A d i=true/\gr B ac j=true/\jU oF (A.getD i []) (B.getD j [])=true:=by
 obtain⟨k,i,j,rfl,h1,y,I⟩:=Fm h ((J7 A B ac d oF).mem_iff.1 v);have g:=oT.1 h1;have q:=oT.1 y;exact⟨i,j,rfl,g.1,q.1,g.2.1,q.2.1,I⟩
def Tt{A B:LL}(h:iS A B)(ac d:BY)(oF:Int):(jV A B ac d oF).length<=A.length:=by
 have k:((jV A B ac d oF).map fun r=>(gi r 0).iV.toNat).Nodup:=by
  unfold Le;rw[yy];refine((Ts h ac d oF).imp_of_mem ?_);intro a b ha hb q e;obtain⟨i,j,rfl,_⟩:=qH h ha;obtain⟨g,M,rfl,_⟩:=qH h hb;have N:((i:Int)).toNat=((g:Int)).toNat:=e;have v:i=g:=by omega
  subst v;exact absurd q (Int.lt_irrefl _)
 have:=Bl A.length _ k fun x y=>by
  obtain⟨r,I,rfl⟩:=dB.1 y;obtain⟨i,j,rfl,hi,_⟩:=qH h I;show ((i:Int).toNat)<_
  rwa [aR]
 simpa using this
def sE(ks:List Kd)(r:LG)(rs:LL)(key:LG):fj ks (r::rs) key=bif bq ks key (gi r 0).rV then j_ r else fj ks rs key:=by
 unfold fj;simp only[bW];cases bq ks key (gi r 0).rV with
 |true=>rfl
 | false =>
  simp only[cF];rw[qC ks key rs (0+1)];cases bW ks key rs 0<;>rfl
def sF(ks:List Kd)(r:LG)(rs:LL)(key:LG):eY ks (r::rs) key=bif bq ks key (gi r 0).rV then (gi r 3).bV else eY ks rs key:=by
 unfold eY;simp only[bW];cases bq ks key (gi r 0).rV with
 |true=>rfl
 | false =>
  simp only[cF];rw[qC ks key rs (0+1)];cases bW ks key rs 0<;>rfl
def Tu(ks:List Kd)(r:LG)(rs:LL)(key:LG):gp ks (r::rs) key=bif bq ks key (gi r 0).rV then [gi r 0,gi r 1,gi r 2,.t false]::rs else r::gp ks rs key:=by
 unfold gp;simp only[bW];cases bq ks key (gi r 0).rV with
 |true=>rfl
 | false =>
  simp only[cF];rw[qC ks key rs (0+1)];cases bW ks key rs 0<;>rfl
def Tv(ks:List Kd)(r:LG)(rs:LL)(key:LG)(v:LL)(c:Nat):oH ks (r::rs) key v c=bif bq ks key (gi r 0).rV then [.l [key],.l [[.l v]],.i (gi r 2).iV,.t true]::rs else r::oH ks rs key v c:=by
 unfold oH;simp only[bW];cases bq ks key (gi r 0).rV with
 |true=>rfl
 | false =>
  simp only[cF];rw[qC ks key rs (0+1)];cases bW ks key rs 0<;>rfl
def J8(ks:List Kd)(k key:LG):∀ rZ:LL,fj ks (gp ks rZ k) key=fj ks rZ key
 | []=>rfl
 | r::rs=>by
  rw[Tu];cases h:bq ks k (gi r 0).rV with
  | true =>
   rw[cT,sE,sE];rfl
  |false=>rw[cF,sE,sE,J8 ks k key rs]
def J9(ks:List Kd){k key:LG}(d:bq ks key k=false):∀ rZ:LL,eY ks (gp ks rZ k) key=eY ks rZ key
 | []=>rfl
 | r::rs=>by
  rw[Tu];cases h:bq ks k (gi r 0).rV with
  | true =>
   have e:bq ks key (gi r 0).rV=false:=by rw[<-wS h]; exact d
   rw[cT,sF,sF,e];show (bif bq ks key (gi r 0).rV then _ else _)=_
   rw[e];rfl
  |false=>rw[cF,sF,sF,J9 ks d rs]
def Tw(ks:List Kd)(k key:LG)(v:LL)(c:Nat):∀ rZ:LL,fj ks (oH ks rZ k v c) key=bif bq ks key k then v else fj ks rZ key
 | []=>by
  show fj ks [[.l [k],.l [[.l v]],.i (c:Int),.t true]] key=_
  rw[sE];rfl
 | r::rs=>by
  rw[Tv,sE];cases h:bq ks k (gi r 0).rV with
  | true =>
   rw[cT,sE];have e:bq ks key (gi r 0).rV=bq ks key k:=(wS h).symm;rw[e];show (bif bq ks key k then _ else _)=_
   cases bq ks key k<;>rfl
  | false =>
   rw[cF,sE,Tw ks k key v c rs];cases d:bq ks key (gi r 0).rV with
   |false=>rfl
   | true =>
    cases g:bq ks key k with
    |false=>rfl
    | true =>
     have:bq ks k (gi r 0).rV=true:=wR (by rw[qB]; exact g) d;rw[this]at h;cases h
def Tx(ks:List Kd)(k key:LG)(v:LL)(c:Nat):∀ rZ:LL,eY ks (oH ks rZ k v c) key=bif bq ks key k then true else eY ks rZ key
 | []=>by
  show eY ks [[.l [k],.l [[.l v]],.i (c:Int),.t true]] key=_
  rw[sF];rfl
 | r::rs=>by
  rw[Tv,sF];cases h:bq ks k (gi r 0).rV with
  | true =>
   rw[cT,sF];have e:bq ks key (gi r 0).rV=bq ks key k:=(wS h).symm;rw[e];show (bif bq ks key k then _ else _)=_
   cases bq ks key k<;>rfl
  | false =>
   rw[cF,sF,Tx ks k key v c rs];cases d:bq ks key (gi r 0).rV with
   |false=>rfl
   | true =>
    cases g:bq ks key k with
    |false=>rfl
    | true =>
     have:bq ks k (gi r 0).rV=true:=wR (by rw[qB]; exact g) d;rw[this]at h;cases h
def Bm(s k:BY):bq [.str] [.s s] [.s k]=decide (s=k):=by
 show ((s.toList==k.toList)&&true)=_
 rw[gX,ls]
structure jE (Q:LG->Prop) (m:LL) (n:BY->Nat):Prop where
 eY:∀ k,eY [.str] m [.s k]=true
 get:∀ k,(fj [.str] m [.s k]).length<=n k/\∀ z∈fj [.str] m [.s k],Q z
def jE.nil(Q:LG->Prop):jE Q [] fun _=>0:=⟨fun _=>rfl,fun _=>⟨aM _,by intro z d; cases d⟩⟩
def jE.add{Q:LG->Prop}{m:LL}{n:BY->Nat}(h:jE Q m n)(k:BY){x:LG}(q:Q x)(c:Nat) :
  jE Q (oH [.str] (gp [.str] m [.s k]) [.s k] (fj [.str] m [.s k]++[x]) c) fun s=>if s=k then n s+1 else n s:=by
 refine⟨fun s=>?_,fun s=>?_⟩
 ·rw [Tx, Bm]
  by_cases e:s=k
  ·rw[dE e]; rfl
  ·rw [decide_eq_false e, cF, J9 _ (by rw [Bm]; exact decide_eq_false e)]
   exact h.eY s
 ·rw [Tw, Bm]
  obtain⟨h1,g⟩:=h.get s;by_cases e:s=k
  ·subst e
   rw[dE rfl,cT];simp only[if_true];refine⟨by rw[fu]; simp; omega,fun z d=>?_⟩;rcases db.1 d with d|d
   ·exact g z d
   ·rw[kT.1 d]; exact q
  ·rw [decide_eq_false e, cF, J8]
   simp only[iN e];exact⟨h1,g⟩
def jE.mono{Q:LG->Prop}{m:LL}{n d:BY->Nat}(h:jE Q m n)(hn:∀ k,n k<=d k):jE Q m d :=
 ⟨h.eY,fun k=>⟨kR (h.get k).1 (hn k),(h.get k).2⟩⟩
def nR(r:LG):Prop:=c9 r/\0<=(gi r 0).iV/\(gi r 0).iV<=1000000
def ajy{t m s h:Int}{b c x y:BY}(d:0<=t/\t<=1000000)(hm:0<=m/\m<=10)(hb:b∈kM)(g:c∈calls)(v:0<=s/\s<=1000)(I:0<=h/\h<=1000)(k:x∈names)(q:y∈names) :
  nR [.i t,.i m,.s b,.s c,.i s,.i h,.s x,.s y] :=
 ⟨⟨t,m,b,c,s,h,x,y,rfl,by unfold small; omega,by unfold small; omega,by unfold small; omega,by unfold small; omega,hb,g,k,q⟩,d⟩
def mg(m:LL)(B:Int):Prop:=∀ k,0<=(gi (dv [.str] m [.s k] [.i 0]) 0).iV/\(gi (dv [.str] m [.s k] [.i 0]) 0).iV<=B
def mg.add{m:LL}{B:Int}(h:mg m B)(k:BY)(c:Nat):mg (eG [.str] m [.s k] [.i ((gi (dv [.str] m [.s k] [.i 0]) 0).iV+1)] c) (B+1):=fun s=>by
 have h1:=h k;have d:=h s;rw[As,Bm];by_cases e:s=k
 ·rw [dE e, cT]
  show 0<=(gi (dv [.str] m [.s k] [.i 0]) 0).iV+1/\(gi (dv [.str] m [.s k] [.i 0]) 0).iV+1<=B+1
  omega
 ·rw [decide_eq_false e, cF]
  omega
def Ty{Q:LG->Prop}{l a7 ser cs:LL}{clk c2:Nat}{n:BY->Nat}(d:jE Q a7 n){a t nn i:Int}{b:BY}(hn:n b<=1000){g h q v:Int}{y I M N:BY}(V:Q [.i g,.i h,.s y,.s I,.i q,.i v,.s M,.s N])(f:Bool) :
  ∃(O:LL) (U:Nat),w8 [.l l,.i a,.l a7,.i (clk:Int),.l ser,.i (c2:Int),.l cs,.i t,.s b,.l [[.i g,.i h,.s y,.s I,.i q,.i v,.s M,.s N]],.i nn,.i i,.t f] =
   some (some 0,[.l l,.i a,.l O,.i (U:Int),.l ser,.i (c2:Int),.l cs,.i t,.i nn,.i i])/\jE Q O (fun s=>if s=b then n s+1 else n s):=by
 have W:=(d.get b).1;cases f with
 | false =>
  refine⟨a7,clk,aa.toEq ?_,d.mono fun k=>by split<;>omega⟩;unfold w8;dsimp +instances only[go_sem];simp only[aR];exact aa.neg rfl (aa.some rfl)
 | true =>
  refine⟨oH [.str] (gp [.str] a7 [.s b]) [.s b] (fj [.str] a7 [.s b]++[[.i g,.i h,.s y,.s I,.i q,.i v,.s M,.s N]]) clk,dL [.str] (gp [.str] a7 [.s b]) [.s b] clk,aa.toEq ?_,d.add b V clk⟩;unfold w8;dsimp +instances only[go_sem];simp only[aR];exact aa.pos rfl (aa.pos (d.eY b) (aa.pos (by simp; omega) (aa.pos (by simp) (aa.some rfl))))
def Tz{Q:LG->Prop}{l a7 ser cs:LL}{clk c2:Nat}{n:BY->Nat}(y:jE Q a7 n){a t nn i:Int}(ha:0<=a)(ha1:a<=100000){b:BY}(hn:n b<=1000){I M N O:Int}{U k V W:BY}(hy:Q [.i I,.i M,.s U,.s k,.i N,.i O,.s V,.s W]) :
  ∃(d:LL) (h:Nat) (q:Int),a<=q/\q<=a+1/\w9 [.l l,.i a,.l a7,.i (clk:Int),.l ser,.i (c2:Int),.l cs,.i t,.s b,.l [[.i I,.i M,.s U,.s k,.i N,.i O,.s V,.s W]],.i nn,.i i] =
   some (some 0,[.l l,.i q,.l d,.i (h:Int),.l ser,.i (c2:Int),.l cs,.i t,.i nn,.i i])/\jE Q d (fun s=>if s=b then n s+1 else n s):=by
 cases hb : !(k.toList==b.toList)with
 | false =>
  obtain⟨d,h,h1,v⟩:=Ty (l:=l) (ser:=ser) (cs:=cs) (clk:=clk) (c2:=c2) y (a:=a) (t:=t) (nn:=nn) (i:=i) (b:=b) hn hy false;refine⟨d,h,a,yz _,by omega,aa.toEq ?_,v⟩;unfold w9;dsimp +instances only[go_sem];simp only[aR];refine aa.neg hb ?_;refine aa.tail (P:=fun u g=>u=0/\g=[.l l,.i a,.l d,.i (h:Int),.l ser,.i (c2:Int),.l cs,.i t,.i nn,.i i]) ⟨_,h1,0,rfl,rfl,rfl⟩ (by first|rfl|simp) ?_;rintro _ _ ⟨rfl,rfl⟩;dsimp +instances only[go_sem];simp only[aR];exact aa.some rfl
 | true =>
  obtain⟨_,hf,f,rfl⟩:=Bd l a 8 ha (by omega) (by omega) (by omega);obtain⟨d,h,h1,v⟩:=Ty (l:=l) (ser:=ser) (cs:=cs) (clk:=clk) (c2:=c2) y (a:=a+1) (t:=t) (nn:=nn) (i:=i) (b:=b) hn hy (!f);refine⟨d,h,a+1,by omega,yz _,aa.toEq ?_,v⟩;unfold w9;dsimp +instances only[go_sem];simp only[aR];refine aa.pos hb ?_;refine aa.cE hf ?_;dsimp +instances only[go_sem];refine aa.tail (P:=fun u g=>u=0/\g=[.l l,.i (a+1),.l d,.i (h:Int),.l ser,.i (c2:Int),.l cs,.i t,.i nn,.i i]) ⟨_,h1,0,rfl,rfl,rfl⟩ (by first|rfl|simp) ?_;rintro _ _ ⟨rfl,rfl⟩;dsimp +instances only[go_sem];simp only[aR];exact aa.some rfl
def xX{Q:LG->Prop}{l a7 ser cs:LL}{clk c2:Nat}{n:Nat}(y:jE Q a7 fun _=>n){a t nn i:Int}(ha:0<=a)(V:a<=100000){q b:BY}(hab:q≠b)(hn:n<=999){W x1 x4 x5:Int}{x2 I x6 x7:BY}(hx:Q [.i W,.i x1,.s x2,.s I,.i x4,.i x5,.s x6,.s x7]){y0 y1 y4 y5:Int}{y2 y3 y6 y7:BY}(hy:Q [.i y0,.i y1,.s y2,.s y3,.i y4,.i y5,.s y6,.s y7]) :
  ∃(h:LL) (v:Nat) (d:Int),a<=d/\d<=a+1/\pF [.l l,.i a,.l a7,.i (clk:Int),.l ser,.i (c2:Int),.i W,.i x1,.s x2,.s I,.i x4,.i x5,.s x6,.s x7,.l cs,.i t,.s q,.s b,.l [[.i y0,.i y1,.s y2,.s y3,.i y4,.i y5,.s y6,.s y7]],.i nn,.i i] =
   some (some 0,[.l l,.i d,.l h,.i (v:Int),.l ser,.i (c2:Int),.l cs,.i t,.i nn,.i i])/\jE Q h (fun _=>n+1):=by
 have hl:=(y.get q).1;cases hc : !(I.toList==q.toList)with
 | false =>
  obtain⟨h,v,d,M,N,h1,O⟩:=Tz (l:=l) (ser:=ser) (cs:=cs) (clk:=clk) (c2:=c2) y (a:=a) (t:=t) (nn:=nn) (i:=i) ha V (b:=b) (by omega) hy;refine⟨h,v,d,M,N,aa.toEq ?_,O.mono fun k=>by split<;>omega⟩;unfold pF;dsimp +instances only[go_sem];simp only[aR];refine aa.neg hc ?_;refine aa.tail (P:=fun u g=>u=0/\g=[.l l,.i d,.l h,.i (v:Int),.l ser,.i (c2:Int),.l cs,.i t,.i nn,.i i]) ⟨_,h1,0,rfl,rfl,rfl⟩ (by first|rfl|simp) ?_;rintro _ _ ⟨rfl,rfl⟩;dsimp +instances only[go_sem];simp only[aR];exact aa.some rfl
 | true =>
  obtain⟨h,v,d,M,N,h1,O⟩:=Tz (l:=l) (ser:=ser) (cs:=cs) (clk:=dL [.str] (gp [.str] a7 [.s q]) [.s q] clk) (c2:=c2) (y.add q hx clk) (a:=a) (t:=t) (nn:=nn) (i:=i) ha V (b:=b) (by split<;>omega) hy;refine⟨h,v,d,M,N,aa.toEq ?_,O.mono fun k=>?_⟩
  ·unfold pF
   dsimp +instances only[go_sem];simp only[aR];refine aa.pos hc (aa.pos (y.eY q) (aa.pos (by simp; omega) (aa.pos (by simp) ?_)));refine aa.tail (P:=fun u g=>u=0/\g=[.l l,.i d,.l h,.i (v:Int),.l ser,.i (c2:Int),.l cs,.i t,.i nn,.i i]) ⟨_,h1,0,rfl,rfl,rfl⟩ (by first|rfl|simp) ?_;rintro _ _ ⟨rfl,rfl⟩;dsimp +instances only[go_sem];simp only[aR];exact aa.some rfl
  ·by_cases U : k = b
   ·rw [iP U, iN (fun e => hab (e.symm.trans U))]
    exact aM _
   ·rw [iN U]
    split<;>omega
def mg.mono{m:LL}{B d:Int}(h:mg m B)(hb:B<=d):mg m d:=fun k=>⟨(h k).1,K_ (h k).2 hb⟩
def mg.nil:mg [] 0:=fun k=>⟨yz 0,yz 0⟩
def xY{X:Option (Option Nat × LG)}{l k v cs:LL}{y t I i:Int}{q M:Nat}
  (hX:X=some (some 0,[.l l,.i y,.l k,.i (q:Int),.l v,.i (M:Int),.l cs,.i t,.i I,.i i])) (hi:ay (i+1)=true) :
  aa (ba true (cW X) fun O d=>(ba true (cW (l6 [.l (gi d 0).rZ,.i (gi d 1).iV,.l (gi d 2).rZ,.i (((gi d 3).iV.toNat:Nat):Int),.l (gi d 4).rZ,.i (((gi d 5).iV.toNat:Nat):Int),.l (gi d 6).rZ,.i (gi d 7).iV,.i (gi d 8).iV,.i (gi d 9).iV])) fun U h=>some ((none:Option Nat),([.l (gi h 0).rZ,.i (gi h 1).iV,.l (gi h 2).rZ,.i (((gi h 3).iV.toNat:Nat):Int),.l (gi h 4).rZ,.i (((gi h 5).iV.toNat:Nat):Int),.l (gi h 6).rZ,.i (gi h 7).iV,.i (gi h 8).iV,.i (gi h 9).iV]:LG))))
   fun o=>o=(none,[.l l,.i y,.l k,.i (q:Int),.l v,.i (M:Int),.l cs,.i t,.i I,.i (i+1)]):=by
 refine aa.tail (P:=fun u g=>u=0/\g=[.l l,.i y,.l k,.i (q:Int),.l v,.i (M:Int),.l cs,.i t,.i I,.i i]) ⟨_,hX,0,rfl,rfl,rfl⟩ (by first|rfl|simp) ?_;rintro _ _ ⟨rfl,rfl⟩;dsimp +instances only[go_sem];simp only[aR];have N:l6 [.l l,.i y,.l k,.i (q:Int),.l v,.i (M:Int),.l cs,.i t,.i I,.i i]=some (some 0,[.l l,.i y,.l k,.i (q:Int),.l v,.i (M:Int),.l cs,.i t,.i I,.i (i+1)]):=by
  refine aa.toEq ?_;unfold l6;dsimp +instances only[go_sem];simp only[aR];exact aa.pos hi (aa.some rfl)
 refine aa.tail (P:=fun u g=>u=0/\g=[.l l,.i y,.l k,.i (q:Int),.l v,.i (M:Int),.l cs,.i t,.i I,.i (i+1)]) ⟨_,N,0,rfl,rfl,rfl⟩ (by first|rfl|simp) ?_;rintro _ _ ⟨rfl,rfl⟩;dsimp +instances only[go_sem];simp only[aR];exact aa.some rfl
def ajz{l h q cs:LL}{v t y i:Int}{k I:Nat}(hi:ay (i+1)=true) :
  aa (ba true (cW (l6 [.l l,.i v,.l h,.i (k:Int),.l q,.i (I:Int),.l cs,.i t,.i y,.i i])) fun N d=>some ((none:Option Nat),([.l (gi d 0).rZ,.i (gi d 1).iV,.l (gi d 2).rZ,.i (((gi d 3).iV.toNat:Nat):Int),.l (gi d 4).rZ,.i (((gi d 5).iV.toNat:Nat):Int),.l (gi d 6).rZ,.i (gi d 7).iV,.i (gi d 8).iV,.i (gi d 9).iV]:LG)))
   fun o=>o=(none,[.l l,.i v,.l h,.i (k:Int),.l q,.i (I:Int),.l cs,.i t,.i y,.i (i+1)]):=by
 have M:l6 [.l l,.i v,.l h,.i (k:Int),.l q,.i (I:Int),.l cs,.i t,.i y,.i i]=some (some 0,[.l l,.i v,.l h,.i (k:Int),.l q,.i (I:Int),.l cs,.i t,.i y,.i (i+1)]):=by
  refine aa.toEq ?_;unfold l6;dsimp +instances only[go_sem];simp only[aR];exact aa.pos hi (aa.some rfl)
 refine aa.tail (P:=fun u g=>u=0/\g=[.l l,.i v,.l h,.i (k:Int),.l q,.i (I:Int),.l cs,.i t,.i y,.i (i+1)]) ⟨_,M,0,rfl,rfl,rfl⟩ (by first|rfl|simp) ?_;rintro _ _ ⟨rfl,rfl⟩;dsimp +instances only[go_sem];simp only[aR];exact aa.some rfl
def ajA{l a7 ser cs:LL}{clk c2 n:Nat}{B:Int}(U:jE nR a7 fun _=>n)(hS:mg ser B)(hc0:(dS 1 cs.length&&dS cs.length 1000000)=true) (bT:(cs.all fun x=>nM calls (gi x 0).sV)=true)
  (hB:0<=B) (hB1:B<=900) {a t nn i:Int} (ha:0<=a) (ha1:a<=90000) (ht:0<=t) (ht1:t<=900000) (hn:n<=900) (hi0:0<=i) (hi:i<nn) (hnn:nn<=100000) :
  aa (w_ [.l l,.i a,.l a7,.i (clk:Int),.l ser,.i (c2:Int),.l cs,.i t,.i nn,.i i]) fun o=>∃(b:Int) (g:LL) (N:Nat) (ser':LL) (c2':Nat) (t':Int),o=(none,[.l l,.i b,.l g,.i (N:Int),.l ser',.i (c2':Int),.l cs,.i t',.i nn,.i (i+1)]) /\
   a<=b/\b<=a+10/\jE nR g (fun _=>n+1)/\mg ser' (B+2)/\t<=t'/\t'<=t+1000:=by
 have O:ay (i+1)=true:=by simp only[ay,sl]<;>omega
 unfold w_;dsimp +instances only[go_sem];(repeat first|refine aa.p ?_|refine aa.n ?_);refine aa.call (sq 0 1000 l a _ ha (by omega) (by kernel_rfl) (by kernel_rfl)) ?_;rintro _ ⟨I,rfl,hd0,hd1⟩;dsimp +instances only[go_sem];(repeat first|refine aa.p ?_|refine aa.n ?_);refine aa.call (l8 calls l (a+1) cs (by omega) (by omega) hc0 bT) ?_;rintro _ ⟨M,rfl,hca⟩;dsimp +instances only[go_sem];refine aa.call (l8 calls l (a+1+1) _ (by omega) (by omega) (by kernel_rfl) (by kernel_rfl)) ?_;rintro _ ⟨b,rfl,hb⟩;dsimp +instances only[go_sem];simp only[aR];by_cases k:M=b
 ·refine aa.pos (by rw [k, ls]; exact dE rfl) ?_
  refine(ajz O).mono ?_;rintro _ rfl;exact⟨_,_,_,_,_,_,rfl,by omega,by omega,U.mono fun _=>by omega,hS.mono (by omega),by omega,by omega⟩
 refine aa.neg (by rw[ls]; exact decide_eq_false k) ?_;obtain⟨s1,e1⟩:∃ z,z=eG [.str] ser [.s M] [.i ((gi (dv [.str] ser [.s M] [.i 0]) 0).iV+1)] c2:=⟨_,rfl⟩
 have hS1:mg s1 (B+1):=e1▸hS.add M c2;obtain⟨k1,f1⟩:∃ z,z=dL [.str] ser [.s M] c2:=⟨_,rfl⟩
 obtain⟨s2,e2⟩:∃ z,z=eG [.str] s1 [.s b] [.i ((gi (dv [.str] s1 [.s b] [.i 0]) 0).iV+1)] k1:=⟨_,rfl⟩
 have v:mg s2 (B+2):=by
  have:=hS1.add b k1;rw[<-e2]at this;exact this.mono (by omega)
 obtain⟨k2,f2⟩:∃ z,z=dL [.str] s1 [.s b] k1:=⟨_,rfl⟩
 simp only[<-f1,<-e1];simp only[<-f2,<-e2];have v1:=hS M;have v2:=hS1 b;obtain⟨p,ep⟩:∃ p,p=(gi (dv [.str] s2 [.s M] [.i 0]) 0).iV:=⟨_,rfl⟩
 obtain⟨q,eq⟩:∃ p,p=(gi (dv [.str] s2 [.s b] [.i 0]) 0).iV:=⟨_,rfl⟩
 simp only[<-ep,<-eq];have v3:0<=p/\p<=B+2:=ep▸v M;have v4:0<=q/\q<=B+2:=eq▸v b;(repeat first|refine aa.p ?_|refine aa.n ?_);refine aa.call (l8 kM l (a+1+1+1) _ (by omega) (by omega) (by kernel_rfl) (by kernel_rfl)) ?_;rintro _ ⟨bd,rfl,V⟩;dsimp +instances only[go_sem];refine aa.call (sq 1 2 l (a+1+1+1+1) _ (by omega) (by omega) (by kernel_rfl) (by kernel_rfl)) ?_;rintro _ ⟨m,rfl,hm0,hm1⟩;dsimp +instances only[go_sem];refine aa.call (sq 0 200 l (a+1+1+1+1+1) _ (by omega) (by omega) (by kernel_rfl) (by kernel_rfl)) ?_;rintro _ ⟨d2,rfl,hd2,hd3⟩;dsimp +instances only[go_sem];(repeat first|refine aa.p ?_|refine aa.n ?_);refine aa.call (uD l (a+1+1+1+1+1+1) 8 (by omega) (by omega) (by omega) (by omega)) ?_;rintro _ ⟨cs',rfl,hc3,hc4⟩;dsimp +instances only[go_sem];have hb':b∈calls:=hb;have hx0:(⟨#[]⟩:BY)∈names:=oS (by kernel_rfl);have W:(⟨#[120]⟩:BY)∈names:=oS (by kernel_rfl);have mk:∀{t' m' s h:Int} {b' c x y:BY},0<=t'/\t'<=1000000->0<=m'/\m'<=10->b'∈kM->c∈calls->0<=s/\s<=1000->0<=h/\h<=1000->x∈names->y∈names->nR [.i t',.i m',.s b',.s c,.i s,.i h,.s x,.s y]:=fun h1 d h3 h4 h5 h6 h7 h8=>ajy h1 d h3 h4 h5 h6 h7 h8;have hx:∀{c:BY} {h:Int} {y:BY},c∈calls->0<=h/\h<=1000->y∈names->nR [.i (t+I),.i m,.s bd,.s c,.i p,.i h,.s ⟨#[]⟩,.s y]:=fun h1 d h3=>mk (by omega) (by omega) V h1 (by omega) d hx0 h3;have hy:∀{b' c:BY},b'∈kM->c∈calls->nR [.i (t+I+d2),.i m,.s b',.s c,.i q,.i p,.s ⟨#[120]⟩,.s ⟨#[]⟩]:=fun h0 h1=>mk (by omega) (by omega) h0 h1 (by omega) (by omega) W hx0;by_cases c0:cs'=0
 ·refine aa.pos (by simp [c0]) ?_
  refine aa.call (l8 calls l (a+1+1+1+1+1+1+1) _ (by omega) (by omega) (by kernel_rfl) (by kernel_rfl)) ?_;rintro _ ⟨w,rfl,hw⟩;dsimp +instances only[go_sem];obtain⟨g,N,a',g1,g2,h1,d⟩:=xX (l:=l) (ser:=s2) (cs:=cs) (clk:=clk) (c2:=k2) U (a:=a+1+1+1+1+1+1+1+1) (t:=t+I) (nn:=nn) (i:=i) (by omega) (by omega) k (by omega) (hx hw (h:=q) (by omega) W) (hy V hca);refine(xY h1 O).mono ?_;rintro _ rfl;exact⟨_,_,_,_,_,_,rfl,by omega,by omega,d,v,by omega,by omega⟩
 refine aa.neg (by simp[c0]) ?_;by_cases c1:cs'=1
 ·refine aa.pos (by simp [c1]) ?_
  refine aa.call (l8 calls l (a+1+1+1+1+1+1+1) _ (by omega) (by omega) (by kernel_rfl) (by kernel_rfl)) ?_;rintro _ ⟨w,rfl,hw⟩;dsimp +instances only[go_sem];obtain⟨g,N,a',g1,g2,h1,d⟩:=xX (l:=l) (ser:=s2) (cs:=cs) (clk:=clk) (c2:=k2) U (a:=a+1+1+1+1+1+1+1+1) (t:=t+I) (nn:=nn) (i:=i) (by omega) (by omega) k (by omega) (hx hb (h:=q) (by omega) W) (hy V hw);refine(xY h1 O).mono ?_;rintro _ rfl;exact⟨_,_,_,_,_,_,rfl,by omega,by omega,d,v,by omega,by omega⟩
 refine aa.neg (by simp[c1]) ?_;by_cases c2':cs'=2
 ·refine aa.pos (by simp [c2']) ?_
  (repeat first|refine aa.p ?_|refine aa.n ?_);obtain⟨g,N,a',g1,g2,h1,d⟩:=xX (l:=l) (ser:=s2) (cs:=cs) (clk:=clk) (c2:=k2) U (a:=a+1+1+1+1+1+1+1) (t:=t+I) (nn:=nn) (i:=i) (by omega) (by omega) k (by omega) (hx hb (h:=q+1) (by omega) W) (hy V hca);refine(xY h1 O).mono ?_;rintro _ rfl;exact⟨_,_,_,_,_,_,rfl,by omega,by omega,d,v,by omega,by omega⟩
 refine aa.neg (by simp[c2']) ?_;by_cases c3:cs'=3
 ·refine aa.pos (by simp [c3]) ?_
  obtain⟨g,N,a',g1,g2,h1,d⟩:=xX (l:=l) (ser:=s2) (cs:=cs) (clk:=clk) (c2:=k2) U (a:=a+1+1+1+1+1+1+1) (t:=t+I) (nn:=nn) (i:=i) (by omega) (by omega) k (by omega) (hx hb (h:=q) (by omega) hx0) (hy V hca);refine(xY h1 O).mono ?_;rintro _ rfl;exact⟨_,_,_,_,_,_,rfl,by omega,by omega,d,v,by omega,by omega⟩
 refine aa.neg (by simp[c3]) ?_;by_cases c4:cs'=4
 ·refine aa.pos (by simp [c4]) ?_
  refine aa.call (l8 kM l (a+1+1+1+1+1+1+1) _ (by omega) (by omega) (by kernel_rfl) (by kernel_rfl)) ?_;rintro _ ⟨w,rfl,hw⟩;dsimp +instances only[go_sem];obtain⟨g,N,a',g1,g2,h1,d⟩:=xX (l:=l) (ser:=s2) (cs:=cs) (clk:=clk) (c2:=k2) U (a:=a+1+1+1+1+1+1+1+1) (t:=t+I) (nn:=nn) (i:=i) (by omega) (by omega) k (by omega) (hx hb (h:=q) (by omega) W) (hy hw hca);refine(xY h1 O).mono ?_;rintro _ rfl;exact⟨_,_,_,_,_,_,rfl,by omega,by omega,d,v,by omega,by omega⟩
 refine aa.neg (by simp[c4]) ?_;obtain⟨g,N,a',g1,g2,h1,d⟩:=xX (l:=l) (ser:=s2) (cs:=cs) (clk:=clk) (c2:=k2) U (a:=a+1+1+1+1+1+1+1) (t:=t+I) (nn:=nn) (i:=i) (by omega) (by omega) k (by omega) (hx hb (h:=q) (by omega) W) (hy V hca);refine(xY h1 O).mono ?_;rintro _ rfl;exact⟨_,_,_,_,_,_,rfl,by omega,by omega,d,v,by omega,by omega⟩
def TA{l cs:LL}(N:(dS 1 cs.length&&dS cs.length 1000000)=true) (bT:(cs.all fun x=>nM calls (gi x 0).sV)=true) {n:Nat} (hn:n<=14):∀(k i:Nat) (a7 v:LL) (d y:Nat) (a t:Int),i+k=n->0<=a->a<=1000+10*i->0<=t->t<=1000*i->jE nR a7 (fun _=>i)->mg v (2*i) ->
  a6 w_ [.l l,.i a,.l a7,.i (d:Int),.l v,.i (y:Int),.l cs,.i t,.i (n:Int),.i (i:Int)] (k+1) fun c g=>c=0/\∃(b:Int) (q:LL) (I:Nat),g=[.l l,.i b,.l q,.i (I:Int),.l cs]/\a<=b/\b<=a+10*k/\jE nR q (fun _=>n)
 | 0,i,a7,v,d,y,a,t,hi,ha,ha1,O,ht1,M,U=>by
  refine a6.stop (x:=0) (aa.toEq ?_) ⟨rfl,a,a7,d,rfl,by omega,by omega,M.mono fun _=>by omega⟩;unfold w_;dsimp +instances only[go_sem];simp only[aR];(repeat first|refine aa.p ?_|refine aa.n ?_);exact aa.some rfl
 | k+1,i,a7,v,d,y,a,t,hi,ha,ha1,O,ht1,M,U=>by
  obtain⟨_,h,b,q,I,V,c2',t',rfl,g1,g2,g3,g4,g5,g6⟩:=ajA (l:=l) (clk:=d) (c2:=y) M U N bT (by omega) (by omega) (a:=a) (t:=t) (nn:=n) (i:=i) ha (by omega) O (by omega) (by omega) (by omega) (by omega) (by omega);have ih:=TA (l:=l) N bT hn k (i+1) q V I c2' b t' (by omega) (by omega) (by omega) (by omega) (by omega) g3 (g4.mono (by omega));refine a6.next h (ih.mono ?_)
  rintro c g ⟨rfl,b',bJ,W,rfl,q1,q2,q3⟩;exact⟨rfl,b',bJ,W,rfl,by omega,by omega,q3⟩
def sG(r s:LG):Bool:=dw r s==0
def ajB:wV [.I,.I,.str,.str,.I,.I,.str,.str] Az c9 sG:=⟨fun r s d g=>by
 refine aa.toEq ?_;unfold Az;dsimp +instances only[go_sem];simp only[d.eta,g.eta];refine aa.cE (Fa d g) ?_;exact aa.some rfl,fun _ h=>h.eta⟩
def zS:LG:=[.i 0,.i 0,.s (⟨#[]⟩:BY),.s (⟨#[]⟩:BY),.i 0,.i 0,.s (⟨#[]⟩:BY),.s (⟨#[]⟩:BY)]
def TB(c:BY)(r:LG):Prop:=∃ L:LL,r=[.s c,.l L]/\(∀ z∈L,nR z)/\L.length<=14
def nS(c:BY):LG:=[.s c]
def TC{l:LL}{a:Int}:∀(q p:List BY) (a7 d:LL) (k:Nat),(∀ c∈q,eY [.str] a7 [.s c]=true/\(fj [.str] a7 [.s c]).length<=14/\∀ z∈fj [.str] a7 [.s c],nR z)->q.Pairwise (·≠·)->d.length=p.length->p.length+q.length<=100 ->
  a6 xa [.l l,.i a,.l a7,.i (k:Int),.l d,.l ((p++q).map nS),.i ((p.length+q.length:Nat):Int),.i (p.length:Int)] (q.length+1) fun c g=>c=0/\∃ L:LL,g=[.l l,.i a,.l (d++L)]/\L.length=q.length/\∀ i,i<q.length->TB (q.getD i ⟨#[]⟩) (L.getD i [])
 | [],p,a7,d,k,y,I,V,hn=>by
  refine a6.stop (x:=0) (aa.toEq ?_) ⟨rfl,[],rfl,rfl,fun i hi=>by cases hi⟩;unfold xa;dsimp +instances only[go_sem];(repeat first|refine aa.p ?_|refine aa.n ?_);exact aa.some (by simp)
 | c::q,p,a7,d,k,y,I,V,hn=>by
  simp only[cn]at hn;obtain⟨h1,h2,N⟩:=y c (by simp);have g1:((p++c::q).map nS).getD (p.length:Int).toNat []=nS c:=by
   rw[jY,dC];exact nK _ _ _ _ _ (by simp)
  have hc:((p++c::q).map nS).length=p.length+(q.length+1):=by simp
  obtain⟨M,W⟩:∃ M,M=fj [.str] a7 [.s c]:=⟨_,rfl⟩
  rw[<-W]at h2 N;have hs:=IX (lt:=bK dw) N;have hsl:=uj (bK dw) M;have hle:(fV sG (cR (bK dw) M)).length<=(cR (bK dw) M).length:=DS _ _;have ih:=TC (l:=l) (a:=a) q (p++[c]) (gp [.str] a7 [.s c]) (d++[[.s c,.l (fV sG (cR (bK dw) M))]]) k (by
   intro x hx;obtain⟨O,U,q3⟩:=y x (dp _ hx);have hne:x≠c:=fun e=>(s_.1 I).1 x hx e.symm;rw[J8,J9 _ (by rw[Bm]; exact decide_eq_false hne)];exact⟨O,U,q3⟩) (s_.1 I).2 (by simp[V]) (by simp; omega)
  have key:aa (xa [.l l,.i a,.l a7,.i (k:Int),.l d,.l ((p++c::q).map nS),.i ((p.length+(c::q).length:Nat):Int),.i (p.length:Int)]) fun o=>o=(none,[.l l,.i a,.l (gp [.str] a7 [.s c]),.i (k:Int),.l (d++[[.s c,.l (fV sG (cR (bK dw) M))]]),.l ((p++c::q).map nS),.i ((p.length+(c::q).length:Nat):Int),.i ((p.length:Int)+1)]):=by
   unfold xa;dsimp +instances only[go_sem];simp only[g1,hc,nS,cn];dsimp +instances only[go_sem];simp only[aR,<-W];(repeat first|refine aa.p ?_|refine aa.n ?_);refine aa.l4 (aa.eq (IY SY M (fun z v=>(N z v).1) (by omega))) (by simp) ?_;rintro _ rfl;dsimp +instances only[go_sem];refine aa.l4 (P:=fun g=>∃ J,g=[.l (fV sG (cR (bK dw) M)++J),.i ((fV sG (cR (bK dw) M)).length:Int)]/\(fV sG (cR (bK dw) M)++J).length=(cR (bK dw) M).length)
    (I1 (Z:=zS) ajB (cR (bK dw) M) (fun z v=>(hs z v).1) (by omega)) (by simp[hsl]) ?_
   rintro _ ⟨J,rfl,hJ⟩;dsimp +instances only[go_sem];simp only[aR,List.take_left'];refine aa.pos (by simp) (aa.pos (by simp; omega) (aa.p (aa.pos (by simp) (aa.some ?_))));rfl
  obtain⟨_,h,rfl⟩:=key;have e:((p++[c])++q).map nS=(p++c::q).map nS:=by simp
  have e2:(((p++[c]).length+q.length:Nat):Int)=((p.length+(c::q).length:Nat):Int):=by simp; omega
  have e3:(((p++[c]).length:Nat):Int)=(p.length:Int)+1:=by simp
  rw[e,e2,e3]at ih;refine a6.next h (ih.mono ?_)
  rintro x g ⟨rfl,L,rfl,O,U⟩;refine⟨rfl,[.s c,.l (fV sG (cR (bK dw) M))]::L,by simp,by simp[O],fun i hi=>?_⟩;cases i with
  |zero=>exact⟨_,rfl,fun z v=>hs z (aaM v),by omega⟩
  |succ i=>exact U i (by simpa using hi)
def C4:List BY:=[⟨#[107,49,97,98]⟩,⟨#[111,104,50,97,98,99]⟩,⟨#[111,104,50,97,98,100]⟩,⟨#[119,49,97,119]⟩]
def ajC(l:LL):aa (D4 [.l l,.i 0]) fun g=>∃(b:Int) (L:LL) (m:Nat),g=[.l l,.i b,.l L]/\0<=b/\b<=1000/\1<=m/\m<=4/\L.length=m/\∀ i,i<m->TB (C4.getD i ⟨#[]⟩) (L.getD i []):=by
 unfold D4;dsimp +instances only[go_sem];refine aa.call (JM l 0 1 4 (by omega) (by omega) (by omega) (by omega) (by omega)) ?_;rintro _ ⟨m,rfl,W,hm1⟩;obtain⟨m,rfl⟩:=Lf (by omega:0<=m);dsimp +instances only[go_sem];(repeat first|refine aa.p ?_|refine aa.n ?_);refine aa.call (JM l (0+1) 0 14 (by omega) (by omega) (by omega) (by omega) (by omega)) ?_;rintro _ ⟨n,rfl,v,hn1⟩;obtain⟨n,rfl⟩:=Lf v;dsimp +instances only[go_sem];obtain⟨cs,bT⟩:∃ cs,cs=C4.take m:=⟨_,rfl⟩
 have y:cs.length=m:=by
  rw[bT,List.length_take];show min m 4=m
  omega
 have M:([[.s (⟨#[107,49,97,98]⟩:BY)],[.s (⟨#[111,104,50,97,98,99]⟩:BY)],[.s (⟨#[111,104,50,97,98,100]⟩:BY)],[.s (⟨#[119,49,97,119]⟩:BY)]]:LL).take ((m:Int).toNat)=cs.map nS:=by
  rw[bT,List.map_take];rfl
 simp only[M];have N:=TA (l:=l) (cs:=cs.map nS) (by rw[c8,y]; simp; omega) (by
  rw[List.all_map,dN];intro c k;rw[bT]at k;have:c∈C4:=List.mem_of_mem_take k;have d:C4.all (fun c=>nM calls c)=true:=by kernel_rfl
  exact dN.1 d c this) (by omega:n<=14) n 0 [] [] 0 0 (0+1+1) 0 (by omega) (by omega) (by omega) (by omega) (by omega) (jE.nil _) (by exact mg.nil)
 refine aa.loop (N.to (by omega)) (by(first|rfl|assumption|(simp only[ay,sl]<;>omega))) ?_;rintro c g ⟨rfl,b,a7,I,rfl,h2,h3,d⟩;dsimp +instances only[go_sem];simp only[aR];have O:cs.Pairwise (·≠·):=by
  rw[bT];refine ane ?_;have d:(decide (C4.Pairwise fun a b=>a.data.toList≠b.data.toList))=true:=by kernel_rfl
  exact(of_decide_eq_true d).imp fun h e=>h (by rw[e])
 have q:=TC (l:=l) (a:=b) cs [] a7 [] I (fun c _=>⟨d.eY c,kR (d.get c).1 (by omega),(d.get c).2⟩) O rfl (by simp; omega);simp only[lB,km,cP]at q;have U:((cs.map nS).length:Int)=(cs.length:Int):=by rw[c8]
 simp only[U];refine aa.loop (q.to (by omega)) (by(first|rfl|assumption|(simp only[ay,sl]<;>omega))) ?_;rintro c g ⟨rfl,L,rfl,q1,V⟩;dsimp +instances only[go_sem];refine aa.pos (by simp) (aa.some ⟨b,L,m,rfl,by omega,by omega,by omega,by omega,by omega,fun i hi=>?_⟩);have:=V i (by omega)
 rwa [bT,cd,List.getElem?_take,iP hi,<-cd]at this
def Bn(K:List Kd)(C:LG->Option LG)(d:LG):Option (Option Nat × LG) :=
 (bif (aO (gi d 3).iV (gi d 2).iV) then (bif ((cJ (gi d 3).iV)&&(aO (gi d 3).iV (((gi d 0).rZ.length:Nat):Int))) then (aB (C [.l [(aQ K ((gi d 0).rZ.getD (((gi d 3).iV).toNat) []))],.l [(aQ [.str,.list K] (gi d 1).rV)]]) fun g=>(bif (gi g 0).bV then some (some 0,[.i (gi d 3).iV]) else (bif (ay ((gi d 3).iV+1)) then some (none,[.l (gi d 0).rZ,.l [(aQ [.str,.list K] (gi d 1).rV)],.i (gi d 2).iV,.i ((gi d 3).iV+1)]) else none))) else none) else some (some 1,[]))
def TD(K:List Kd)(C:LG->Option LG)(d:LG):Option LG :=
 (aB (ba true (bN (Bn K C) [.l (gi d 0).rZ,.l [(aQ [.str,.list K] (aQ [.str,.list K] (gi d 1).rV))],.i (((gi d 0).rZ.length:Nat):Int),.i 0]) fun g h=>(bif aG g 0 then some [.i (gi h 0).iV] else some [.i (-1)])) fun k=>some [.t (bp 0 (gi k 0).iV)])
def mR(c:BY)(L:LL):Bool:=L.any fun z=>(gi z 3).sV.toList==c.toList
section
variable {C:LG->Option LG} {c:BY} {A:LL} (hC:∀ z,c9 z->C [.l [z],.l [[.s c,.l A]]]=some [.t ((gi z 3).sV.toList==c.toList)])
include hC
theorem TE:∀(q p:LL),(∀ z∈p++q,c9 z)->p.length+q.length<100000 ->
  a6 (Bn [.I,.I,.str,.str,.I,.I,.str,.str] C) [.l (p++q),.l [[.s c,.l A]],.i ((p.length+q.length:Nat):Int),.i (p.length:Int)] (q.length+1) fun x g=>(x=0/\mR c q=true/\∃ v:Int,0<=v/\g=[.i v])\/x=1/\mR c q=false
 | [],p,k,M=>by
  refine a6.stop (x:=1) (d':=[]) (aa.toEq ?_) (.inr ⟨rfl,rfl⟩);unfold Bn;dsimp +instances only[go_sem];(repeat first|refine aa.p ?_|refine aa.n ?_);exact aa.some rfl
 | x::q,p,k,M=>by
  simp only[cn]at M;have d:c9 x:=k x (by simp);have N:(p++x::q).getD (p.length:Int).toNat []=x:=nK _ _ _ _ _ (by simp);have y:(p++x::q).length=p.length+q.length+1:=by simp; omega
  cases h:(gi x 3).sV.toList==c.toList with
  | true =>
   refine a6.stop (x:=0) (d':=[.i (p.length:Int)]) (aa.toEq ?_) (.inl ⟨rfl,by simp only[mR,ta,h,Bool.true_or],_,by omega,rfl⟩);unfold Bn;dsimp +instances only[go_sem];simp only[N,y,cn,d.eta];(repeat first|refine aa.p ?_|refine aa.n ?_);refine aa.cE (hC x d) ?_;dsimp +instances only[go_sem];exact aa.pos h (aa.some rfl)
  | false =>
   have O:=TE q (p++[x]) (by simpa using k) (by simp; omega);have U:(p++[x])++q=p++x::q:=by simp
   have V:(((p++[x]).length+q.length:Nat):Int)=((p.length+(x::q).length:Nat):Int):=by simp; omega
   have W:(((p++[x]).length:Nat):Int)=(p.length:Int)+1:=by simp
   rw[U,V,W]at O;have e4:mR c (x::q)=mR c q:=by simp only[mR,ta,h,Bool.false_or]
   rw[e4];refine a6.next (aa.toEq ?_) O
   unfold Bn;dsimp +instances only[go_sem];simp only[N,y,cn,d.eta];(repeat first|refine aa.p ?_|refine aa.n ?_);refine aa.cE (hC x d) ?_;dsimp +instances only[go_sem];refine aa.neg h (aa.p (aa.some rfl))
theorem TF(L:LL)(h:∀ z∈L,c9 z)(k:L.length<100000):TD [.I,.I,.str,.str,.I,.I,.str,.str] C [.l L,.l [[.s c,.l A]]]=some [.t (mR c L)]:=by
 refine aa.toEq ?_;unfold TD;dsimp +instances only[go_sem];have h1:=TE hC L [] (by simpa using h) (by simpa using k);have h0:((0:Nat):Int)=0:=rfl;simp only[lB,km,cP,h0]at h1;refine aa.call (P:=fun g=>∃ v:Int,g=[.i v]/\bp 0 v=mR c L) ?_ ?_
 ·refine aa.loop (h1.to (by omega)) (by (first|rfl|assumption|(simp only [ay,sl]<;>omega))) ?_
  rintro x g (⟨rfl,d,v,q,rfl⟩|⟨rfl,d⟩)
  ·exact aa.some ⟨v,rfl,by rw[d,eX]; exact dE q⟩
  ·exact aa.some ⟨-1,rfl,by rw[d]; rfl⟩
 ·rintro _ ⟨v, rfl, d⟩
  exact aa.some (congrArg (fun b=>[G.t b]) d)
end
def ki(c:BY)(L:LL):Int:=bif !jB c then 3 else bif l9 L != 0 then l9 L else bif mR c L then 6 else 0
def J_{c:BY}{L:LL}(h:ki c L=0):l9 L=0:=by
 unfold ki at h;cases h1:jB c with
 |false=>rw[h1]at h; cases h
 | true =>
  rw[h1]at h;cases d:l9 L != 0 with
  |false=>simpa using d
  | true =>
   rw[d]at h;simp only[Bool.not_true,cF,cT]at h;exact h
def TG{c:BY}(g:c∈calls){L:LL}(d:∀ z∈L,c9 z)(hn:L.length<100000):EG [.l [[.s c,.l L]]]=some [.i (ki c L)]:=by
 refine aa.toEq ?_;unfold EG ki;dsimp +instances only[go_sem];refine aa.cE (JT g) ?_;dsimp +instances only[go_sem];cases jB c with
 |false=>exact aa.some rfl
 | true =>
  refine aa.neg rfl ?_;refine aa.cE (ai8 L d hn) ?_;dsimp +instances only[go_sem];cases l9 L != 0 with
  |true=>exact aa.some rfl
  | false =>
   refine aa.neg rfl ?_;refine aa.call (aa.eq (TF (C:=EF) (c:=c) (A:=L) (fun z h=>by
    refine aa.toEq ?_;unfold EF;dsimp +instances only[go_sem];exact aa.some rfl) L d hn)) ?_
   rintro _ rfl;dsimp +instances only[go_sem];cases mR c L<;>exact aa.some rfl
def nR.m{z:LG}(h:nR z):d_ z:=by
 obtain⟨h,h0,h1⟩:=h;exact⟨h.eta,by unfold jh; omega,by unfold jh; omega⟩
def iT(k:Nat):List Nat->Option Nat
 | []=>none
 |a::l=>bif a==k then some 0 else (iT k l).map (·+1)
def J'{k:Nat}:∀{l:List Nat},iT k l=none↔k∉l
 | []=>by simp[iT]
 | a::l=>by
  unfold iT;cases h:a==k with
  |true=>simp at h; simp[h]
  | false =>
   simp at h;simp only[cF,Option.map_eq_none_iff,J',cq,not_or];exact⟨fun g=>⟨fun e=>h e.symm,g⟩,fun g=>g.2⟩
def Fs{k:Nat}:∀{l:List Nat} {n:Nat},iT k l=some n->n<l.length/\l.getD n 0=k
 | [],n,h=>by cases h
 | a::l,n,h=>by
  unfold iT at h;cases e:a==k with
  | true =>
   rw[e]at h;cases h;simp at e;exact⟨by simp,by simpa using e⟩
  | false =>
   rw[e]at h;simp only[cF,Option.map_eq_some_iff]at h;obtain⟨m,h1,rfl⟩:=h;obtain⟨g,d⟩:=Fs h1;exact⟨by simp; omega,by simpa using d⟩
def Ka{k:Nat}:∀{l:List Nat},k∉l->iT k (l++[k])=some l.length
 | [],_=>by simp[iT]
 | a::l,h=>by
  simp only[cq,not_or]at h;have e:(a==k)=false:=by simp; exact fun e=>h.1 e.symm
  show (bif a==k then some 0 else (iT k (l++[k])).map (·+1))=_
  rw[e,Ka h.2];rfl
def Bo(a b:Int):bq [.I] [.i a] [.i b]=decide (a=b):=by
 show ((a==b)&&true)=decide (a=b)
 rw[gX];exact Bool.beq_eq_decide_eq a b
def bC:Nat->List Nat->LL
 |_,[]=>[]
 |i,k::ks=>[.l [[.i (k:Int)]],.i (i:Int),.i (i:Int)]::bC (i+1) ks
def TH:∀(i:Nat) (A B:List Nat),bC i (A++B)=bC i A++bC (i+A.length) B
 |i,[],B=>by simp[bC]
 | i,a::A,B=>by
  show _::bC (i+1) (A++B)=_::(bC (i+1) A++bC (i+(A.length+1)) B)
  rw[TH (i+1) A B,show i+1+A.length=i+(A.length+1) by omega]
def Kb(k:Nat):∀(ks:List Nat) (i j:Nat),bW [.I] [.i (k:Int)] (bC i ks) j=(iT k ks).map fun n=>(j+n,([.l [[.i (k:Int)]],.i ((i+n:Nat):Int),.i ((i+n:Nat):Int)]:LG))
 | [],_,_=>rfl
 | a::ks,i,j=>by
  have d:=Kb k ks (i+1) (j+1);have e:bq [.I] [.i (k:Int)] ((gi [.l [[.i (a:Int)]],.i (i:Int),.i (i:Int)] 0).rV)=(a==k):=by
   show bq [.I] [.i (k:Int)] [.i (a:Int)]=_
   rw[Bo];by_cases h:a=k
   ·subst h; simp
   ·have g : ¬ (k : Int) = (a : Int) := fun e => h (by omega)
    simp[h,g]
  show (bif _ then some (j,_) else bW _ _ (bC (i+1) ks) (j+1))=_
  rw[e,d];show _=Option.map _ (bif a==k then some 0 else (iT k ks).map (·+1))
  cases h:a==k with
  | true =>
   simp at h;subst h;rfl
  | false =>
   simp only[cF,Option.map_map];congr 1
   funext n
   simp only[F3];rw[show j+1+n=j+(n+1) by omega,show i+1+n=i+(n+1) by omega]
def ajD(k:Nat)(ks:List Nat):eM [.I] (bC 0 ks) [.i (k:Int)]=(iT k ks).isSome:=by
 unfold eM;rw[Kb,Option.isSome_map]
def Ft(k:Nat)(ks:List Nat):nC [.I] (bC 0 ks) [.i (k:Int)]=iT k ks:=by
 unfold nC;rw[Kb];cases h:iT k ks with
 |none=>rfl
 | some n =>
  show (bif bp 0 ((0+n:Nat):Int) then some ((0+n:Nat):Int).toNat else none)=some n
  rw[eX,dE (by omega:(0:Int)<=((0+n:Nat):Int))];simp
def Kc(r:LG):∀(ks:List Nat) (i j c:Nat),i+ks.length<=c->gO (c:Int) (bC i ks++[r]) j=gO (c:Int) [r] (j+ks.length)
 | [],i,j,c,_=>rfl
 | a::ks,i,j,c,h=>by
  simp only[cn]at h;have d:=Kc r ks (i+1) (j+1) c (by omega);show (bif ((i:Int).toNat:Int)==(c:Int) then _ else gO (c:Int) (bC (i+1) ks++[r]) (j+1))=_
  have e:(((i:Int).toNat:Int)==(c:Int))=false:=by
   rw[aR];simp;omega
  rw[e,d,show j+1+ks.length=j+(ks.length+1) by omega];rfl
def TI:∀(i:Nat) (ks:List Nat),(bC i ks).length=ks.length
 |_,[]=>rfl
 |i,_::ks=>by simp[bC,TI (i+1) ks]
def xZ(k c:Nat):LG:=[.l [[.i (k:Int)]],.i (-1),.i (c:Int)]
def TJ(k c j:Nat):gO (c:Int) [xZ k c] j=some (j,xZ k c):=by
 show (bif ((c:Int).toNat:Int)==(c:Int) then _ else _)=_
 rw[aR];simp
def ajE(k:Nat)(ks:List Nat):we (bC 0 ks++[xZ k ks.length]) (ks.length:Int)=true:=by
 unfold we;rw[Kc _ _ _ _ _ (by omega),TJ];rfl
def ajF(k:Nat)(ks:List Nat):wg (bC 0 ks++[xZ k ks.length]) (ks.length:Int) ks.length=bC 0 (ks++[k]):=by
 unfold wg;rw[Kc _ _ _ _ _ (by omega),TJ,TH];show (bC 0 ks++[xZ k ks.length]).set (0+ks.length) _=_
 rw[uI (bC 0 ks) _ _ [] _ (by rw[TI,cP])];rw[cP];rfl
def iU(d:LG->LG × LG)(q:LL)(a:LL × Nat):LL × Nat :=
 q.foldl (fun a r=>(eG [.I] a.1 (d r).1 (d r).2 a.2,dL [.I] a.1 (d r).1 a.2)) a
def pM(a:LL × Nat):LG:=[.l a.1,.i (a.2:Int)]
def x8(r:LG):LG × LG:=([.i (gi r 0).iV],[.i (gi r 1).iV])
def Bp(r:LG):LG × LG:=([.i (gi r 1).iV],[.t true])
def eJ(p:LL):LG:=pM (iU x8 p ([],0))
def ew(p:LL):LG:=pM (iU Bp p ([],0))
def TK(d:LG->LG × LG)(p:LL)(r:LG)(a:LL × Nat) :
  iU d (p++[r]) a=(eG [.I] (iU d p a).1 (d r).1 (d r).2 (iU d p a).2,dL [.I] (iU d p a).1 (d r).1 (iU d p a).2):=by
 unfold iU;rw[amI];rfl
def TL(M:LL)(a:LL × Nat)(key val:LG) :
  wb (M++[pM a]) (some M.length) [.I] key val=M++[pM (eG [.I] a.1 key val a.2,dL [.I] a.1 key a.2)]:=by
 unfold wb;have e:lh (M++[pM a]) (some M.length)=pM a:=by
  show (M++[pM a]).getD M.length []=_
  rw[cd];simp
 rw[e];show (M++[pM a]).set M.length _=_
 rw[uI M _ _ [] _ rfl];show M++[[.l (eG [.I] a.1 key val (a.2:Int).toNat),.i ((dL [.I] a.1 key (a.2:Int).toNat:Nat):Int)]]=_
 rw[aR];rfl
def TM(M:LL)(x:LG):oI (M++[x]) (some M.length)=true:=by
 show Nat.blt M.length (M++[x]).length=true
 simp
def TN(d:LG->LG × LG)(key:LG):∀(q:LL) (a:LL × Nat),eM [.I] (iU d q a).1 key=(q.any (fun r=>bq [.I] key (d r).1)||eM [.I] a.1 key)
 | [],a=>rfl
 | r::q,a=>by
  show eM [.I] (iU d q (_,_)).1 key=_
  rw[TN d key q];simp only[ta];rw[IU];cases bq [.I] key (d r).1<;>cases eM [.I] a.1 key<;>simp
def Ke(d:LG->LG × LG)(key z:LG):∀(q:LL) (a:LL × Nat),(∃ r∈q,bq [.I] key (d r).1=true/\dv [.I] (iU d q a).1 key z=(d r).2) \/
  (∀ r∈q,bq [.I] key (d r).1=false)/\dv [.I] (iU d q a).1 key z=dv [.I] a.1 key z
 | [],a=>.inr ⟨fun _ h=>(by cases h),rfl⟩
 | r::q,a=>by
  show (∃ _,_/\_/\dv [.I] (iU d q (eG [.I] a.1 (d r).1 (d r).2 a.2,_)).1 key z=_)\/_/\dv [.I] (iU d q (eG [.I] a.1 (d r).1 (d r).2 a.2,_)).1 key z=_
  rcases Ke d key z q (eG [.I] a.1 (d r).1 (d r).2 a.2,dL [.I] a.1 (d r).1 a.2)with⟨s,h1,g,v⟩|⟨h1,g⟩
  ·exact .inl ⟨s,dp _ h1,g,v⟩
  ·rw [g, As]
   cases e:bq [.I] key (d r).1 with
   |true=>exact .inl ⟨r,by simp,e,rfl⟩
   | false =>
    refine .inr ⟨fun s k=>?_,rfl⟩;rcases cq.1 k with rfl|k
    ·exact e
    ·exact h1 s k
structure Bq (m i:Nat) (r:LL):Prop where
 len:r.length=m
 val:∀ j,j<m->∃ v:Int,r.getD j []=[.i v]/\0<=v/\v<=(i:Int)+(j:Int)
def Bq.set{m i k:Nat}{r:LL}(h:Bq m i r){v:Int}(h0:0<=v)(h1:v<=(i:Int)+(k:Int)):Bq m i (r.set k [.i v]):=by
 refine⟨by rw[iE,h.len],fun j d=>?_⟩;by_cases e:k=j
 ·subst e
  refine⟨v,?_,h0,h1⟩;rw[cd,bB (by rw[h.len]; exact d)];rfl
 ·obtain ⟨w, g, q⟩ := h.val j d
  refine⟨w,?_,q⟩;rw[cd,List.getElem?_set_ne e,<-cd,g]
def Bq.zero(m i:Nat):Bq m i (cB m [.i 0]):=by
 refine⟨sW ..,fun j d=>⟨0,?_,yz 0,by omega⟩⟩;rw[cd,amH,iP d];rfl
def ajG(r:LG)(x:Nat)(g:LG):Prop:=x=0/\g=r
structure lu (L:LL) (C:Nat->BY) (A:Nat->LL):Prop where
 get:∀ i,i<L.length->L.getD i []=[.s (C i),.l (A i)]
 n:L.length<=40
 iv:∀ i,i<L.length->∀ z∈A i,d_ z/\(gi z 3).sV.size<=100
 na:∀ i,i<L.length->(A i).length<=40
 cs:∀ i,i<L.length->(C i).size<=100
 uK:∀ i j,i<j->j<L.length->eT (C i) (C j)<0
def ajH:((fo 80).all fun n=>vj .u64 (IntKind.u64.wrap ((n:Nat):Int)) 1==((n / 2:Nat):Int))=true:=by kernel_rfl
def ajI(i j:Nat)(h:i+j<80):vj .u64 (IntKind.u64.wrap ((i:Int)+(j:Int))) 1=(((i+j) / 2:Nat):Int):=by
 have:=dN.1 ajH (i+j) (gH.2 h);rw[beq_iff_eq]at this;rw[<-this];congr 2
section
variable {L:LL} {C:Nat->BY} {A:Nat->LL} (S:lu L C A)
include S
theorem lu.two{i k:Nat}(hi:i<L.length)(g:k<L.length):iS (A i) (A k) :=
 ⟨fun z d=>(S.iv i hi z d).1,fun z d=>(S.iv k g z d).1,by have:=S.na i hi; omega,by have:=S.na k g; omega⟩
theorem lu.mem{i j:Nat}(hi:i<L.length)(d:j<(A i).length):d_ ((A i).getD j [])/\(gi ((A i).getD j []) 3).sV.size<=100 :=
 S.iv i hi _ (by rw[cd,bZ d]; exact u7 d)
theorem lu.key{i:Nat}(hi:i<L.length):(gi (L.getD i []) 0).sV=C i:=by rw[S.get i hi]; rfl
theorem Kf(s:BY):∀(m i j:Nat),j<=i+m->i<=j->j<=L.length->(∀ t,t<i->eT (C t) s<0)->(∀ t,j<=t->t<L.length->¬ eT (C t) s<0) ->
  a6 xg [.l L,.s s,.i (L.length:Int),.i (i:Int),.i (j:Int)] (m+1) fun x g=>x=0/\∃ p:Nat,g=[.l L,.s s,.i (L.length:Int),.i (p:Int)]/\p<=L.length/\(∀ t,t<p->eT (C t) s<0)/\(∀ t,p<=t->t<L.length->¬ eT (C t) s<0)
 | m,i,j,hm,U,v,h1,y=>by
  have V:=S.n;by_cases he:i=j
  ·subst he
   refine a6.stop (x:=0) (aa.toEq ?_) ⟨rfl,i,rfl,v,h1,y⟩;unfold xg;dsimp +instances only[go_sem];exact aa.n (aa.some rfl)
  ·obtain ⟨m', rfl⟩ : ∃ m', m = m' + 1 := ⟨m - 1, by omega⟩
   have N:=ajI i j (by omega);have q:(i+j) / 2<L.length:=by omega
   have I:=S.get _ q;have step:∀ o,(bif aO (eT (C ((i+j) / 2)) s) 0 then some ((none:Option Nat),[G.l L,.s s,.i (L.length:Int),.i (((i+j) / 2+1:Nat):Int),.i (j:Int)]) else some (none,[.l L,.s s,.i (L.length:Int),.i (i:Int),.i (((i+j) / 2:Nat):Int)]))=some o ->
     xg [.l L,.s s,.i (L.length:Int),.i (i:Int),.i (j:Int)]=some o:=fun o ho=>by
    refine aa.toEq ?_;unfold xg;dsimp +instances only[go_sem];simp only[N,aR,I];refine aa.p (aa.p (aa.p (aa.p ?_)));refine aa.call (P:=fun g=>g=[.i (eT (C ((i+j) / 2)) s)]) (aa.eq rfl) ?_;rintro _ rfl;dsimp +instances only[go_sem];refine aa.test (fun h=>?_) fun h=>?_
    ·rw [h, cT] at ho
     refine aa.p (aa.some ?_);cases ho;rfl
    ·rw [h, cF] at ho
     refine aa.some ?_;cases ho;rfl
   by_cases d:eT (C ((i+j) / 2)) s<0
   ·refine a6.next (step _ (by rw [cK, dE d]; rfl)) (Kf s m' _ j (by omega) (by omega) v (fun t O => ?_) y)
    rcases mo t ((i+j) / 2)with h|h
    ·exact Fc.tr _ _ _ (S.uK t _ h q) d
    ·rw [show t = (i + j) / 2 by omega]
     exact d
   ·refine a6.next (step _ (by rw [cK, decide_eq_false d]; rfl)) (Kf s m' i _ (by omega) (by omega) (by omega) h1 (fun t O M k => ?_))
    rcases mo ((i+j) / 2) t with h|h
    ·exact d (Fc.tr _ _ _ (S.uK _ t h M) k)
    ·rw [show t = (i + j) / 2 by omega] at k
     exact d k
theorem Br(s:BY):aa (ux [.l L,.s s]) fun g=>∃(p:Nat) (b:Bool),g=[.i (p:Int),.t b]/\(b=true->p<L.length/\C p=s)/\(b=false->∀ k,k<L.length->C k≠s):=by
 have O:=S.n;unfold ux;dsimp +instances only[go_sem];refine aa.call (P:=fun g=>∃(p:Nat) (b:Bool),g=[.i (p:Int),.t b]/\(b=true->p<L.length/\C p=s)/\(b=false->∀ k,k<L.length->C k≠s)) ?_ ?_
 ·unfold Jl
  dsimp +instances only[go_sem];refine aa.loop ((Kf S s L.length 0 L.length (by omega) (by omega) (aM _) (fun t I=>by omega) (fun t h1 d=>by omega)).to (by omega)) rfl ?_;rintro _ _ ⟨rfl,p,rfl,U,M,N⟩;dsimp +instances only[go_sem];have v:∀ t,t<L.length->C t=s->t=p:=fun t I e=>by
   have h0:eT (C t) s=0:=su.2 e;have h1:p<=t:=amM fun h=>by have:=M t h; omega
   refine Nat.le_antisymm (amM fun h=>?_) h1;have d:=S.uK p t h I;rw[e]at d;exact N p (aM _) (by omega) d
  refine aa.test (fun h=>?_) fun h=>?_
  ·simp only [cK, dT] at h
   have y:p<L.length:=by omega
   simp only[aR,S.get p y];refine aa.p ?_;refine aa.call (P:=fun g=>g=[.i (eT (C p) s)]) (aa.eq rfl) ?_;rintro _ rfl;refine aa.some ⟨p,_,rfl,fun hb=>⟨y,?_⟩,fun hb k q e=>?_⟩
   ·have hb : (eT (C p) s == 0) = true := hb
    rw[beq_iff_eq]at hb;exact su.1 hb
   ·have := v k q e
    subst this;have hb:(eT (C k) s==0)=false:=hb;rw[su.2 e]at hb;cases hb
  ·simp only [cK, dF] at h
   exact aa.some ⟨p,false,rfl,fun hb=>(by cases hb),fun _ k q e=>by have:=v k q e; omega⟩
 ·rintro _ ⟨p, b, rfl, h⟩
  exact aa.some ⟨p,b,rfl,h⟩
end
def bt(A:Nat->LL)(C:Nat->BY)(ab:Nat)(oF:Int)(k:Nat):LL:=jV (A ab) (A k) (C ab) (C k) oF
def mh(k:Nat)(ks:List Nat):List Nat:=match iT k ks with
 |some _=>ks
 |none=>ks++[k]
def TO(k:Nat)(ks:List Nat):∃ n,iT k (mh k ks)=some n:=by
 unfold mh;cases h:iT k ks with
 |some n=>exact⟨n,h⟩
 |none=>exact⟨_,Ka (J'.1 h)⟩
def TP{L R1 R2 M T:LL}{ab oF k:Int}{c1 c2:Nat}(h1:nC [.I] R1 [.i k]=some M.length)(d:nC [.I] R2 [.i k]=some T.length):∀(q p:LL),p.length+q.length<=100000 ->
  a6 AI [.l L,.i ab,.i oF,.l R1,.l (M++[pM (iU x8 p ([],0))]),.i (c1:Int),.l R2,.l (T++[pM (iU Bp p ([],0))]),.i (c2:Int),.i k,.l (p++q),.i ((p.length+q.length:Nat):Int),.i (p.length:Int)] (q.length+1) fun x g =>
   x=0/\g=[.l L,.i ab,.i oF,.l R1,.l (M++[eJ (p++q)]),.i (c1:Int),.l R2,.l (T++[ew (p++q)]),.i (c2:Int)]
 | [],p,h=>by
  refine a6.stop (x:=0) (aa.toEq ?_) ⟨rfl,rfl⟩;unfold AI;dsimp +instances only[go_sem];refine aa.n (aa.some ?_);rw[da];rfl
 | r::q,p,h=>by
  simp only[cn]at h;have v:=TP (L:=L) (ab:=ab) (oF:=oF) (c1:=c1) (c2:=c2) h1 d q (p++[r]) (by simp; omega);have y:(p++r::q).getD (p.length:Int).toNat []=r:=nK _ _ _ _ _ (by simp);rw[aR]at y;have N:(p++r::q).length=p.length+q.length+1:=by simp; omega
  have O:(p++[r])++q=p++r::q:=by simp
  have U:(((p++[r]).length+q.length:Nat):Int)=((p.length+(r::q).length:Nat):Int):=by simp; omega
  have V:(((p++[r]).length:Nat):Int)=(p.length:Int)+1:=by simp
  rw[O,U,V]at v;refine a6.next (aa.toEq ?_) v
  unfold AI;dsimp +instances only[go_sem];simp only[y,N,cn,aR,h1,d];refine aa.p (aa.p (aa.pos rfl (aa.pos (TM _ _) (aa.pos rfl (aa.pos (TM _ _) (aa.p (aa.some ?_)))))));rw[TL,TL,TK,TK];rfl
section
variable {L:LL} {C:Nat->BY} {A:Nat->LL} (S:lu L C A) {ab:Nat} (ho:ab<L.length) (oF:Int)
include S ho
theorem TQ{k:Nat}(d:k<L.length)(ks:List Nat):AJ [G.l L,.i (ab:Int),.i oF,.l (bC 0 ks),.l (ks.map fun k=>eJ (bt A C ab oF k)),.i ((ks.length:Nat):Int),.l (bC 0 ks),.l (ks.map fun k=>ew (bt A C ab oF k)),.i ((ks.length:Nat):Int),.i (k:Int)]=some [G.l L,.i (ab:Int),.i oF,.l (bC 0 (mh k ks)),.l ((mh k ks).map fun k=>eJ (bt A C ab oF k)),.i (((mh k ks).length:Nat):Int),.l (bC 0 (mh k ks)),.l ((mh k ks).map fun k=>ew (bt A C ab oF k)),.i (((mh k ks).length:Nat):Int)]:=by
 refine aa.toEq ?_;unfold AJ;dsimp +instances only[go_sem];simp only[Ft,ajD,aR];unfold mh;cases h:iT k ks with
 |some n=>exact aa.pos rfl (aa.some rfl)
 | none =>
  have g:=ajE k ks;have q:=ajF k ks;unfold xZ at g q;refine aa.pos rfl (aa.neg rfl (aa.pos rfl (aa.pos g (aa.pos rfl (aa.pos g (aa.p (aa.p ?_)))))));simp only[S.get ab ho,S.get k d];refine aa.cE (ajw (S.two ho d) (C ab) (C k) oF) ?_;dsimp +instances only[go_sem];simp only[c8];rw[q];have hb:=Tt (S.two ho d) (C ab) (C k) oF;have hn:=S.na ab ho;have v:nC [.I] (bC 0 (ks++[k])) [.i (k:Int)]=some ks.length:=by rw[Ft]; exact Ka (J'.1 h)
  have y:=TP (L:=L) (ab:=(ab:Int)) (oF:=oF) (k:=(k:Int)) (R1:=bC 0 (ks++[k])) (R2:=bC 0 (ks++[k])) (M:=ks.map fun k=>eJ (bt A C ab oF k)) (T:=ks.map fun k=>ew (bt A C ab oF k)) (c1:=ks.length+1) (c2:=ks.length+1)
   (by rw[c8]; exact v) (by rw[c8]; exact v) (bt A C ab oF k) [] (by unfold bt; simp; omega)
  simp only[lB,km,cP]at y;refine aa.loop (y.to (by unfold bt; omega)) rfl ?_;rintro _ _ ⟨rfl,rfl⟩;dsimp +instances only[go_sem];refine aa.some ?_;simp only[aR,jY,dC,u6,fu,List.length_singleton]
def ji(x y:LG):Bool:=(gi x 4).iV==(gi y 5).iV&&(gi x 6).sV.toList==(gi y 7).sV.toList
omit S ho in
theorem TR(x y:LG):AK [.l [x],.l [y]]=some [.t (ji x y)]:=by
 refine aa.toEq ?_;unfold AK ji;dsimp +instances only[go_sem];refine aa.test (fun h=>aa.some ?_) fun h=>aa.some ?_<;>rw[h]<;>rfl
end
def TS(f:Nat->LG){ks:List Nat}{n k:Nat}(h:iT k ks=some n):lh (ks.map f) (some n)=f k:=by
 obtain⟨h1,d⟩:=Fs h;show (ks.map f).getD n []=_
 rw[cd,bY];rw[cd]at d;rw[bZ h1]at d|-;simp only[m_]at d;simp only[ff,m_,d]
def ajJ(f:Nat->LG){ks:List Nat}{n k:Nat}(h:iT k ks=some n):oI (ks.map f) (some n)=true:=by
 obtain⟨h1,d⟩:=Fs h;show Nat.blt n (ks.map f).length=true
 rw[c8];simpa using h1
section
variable {L:LL} {C:Nat->BY} {A:Nat->LL} (S:lu L C A)
include S
theorem lu.inj{i j:Nat}(hi:i<L.length)(g:j<L.length)(h:C i=C j):i=j:=by
 rcases La i j with d|d|d
 ·have := S.uK i j d g
  rw[su.2 h]at this;omega
 ·exact d
 ·have := S.uK j i d hi
  rw[su.2 h.symm]at this;omega
end
section
variable {L:LL} {C:Nat->BY} {A:Nat->LL} (S:lu L C A) {ab:Nat} (ho:ab<L.length) (oF:Int)
include S ho
theorem ajK{k:Nat}(q:k<L.length)(i:Nat):(eM [.I] (iU x8 (bt A C ab oF k) ([],0)).1 [.i (i:Int)]=true->∃ j:Nat,j<(A k).length/\[G.i (i:Int),.i (j:Int)]∈bt A C ab oF k/\dv [.I] (iU x8 (bt A C ab oF k) ([],0)).1 [.i (i:Int)] [.i 0]=[.i (j:Int)]) /\
  (eM [.I] (iU x8 (bt A C ab oF k) ([],0)).1 [.i (i:Int)]=false->∀ j:Nat,[G.i (i:Int),.i (j:Int)]∉bt A C ab oF k):=by
 have v:∀ r∈bt A C ab oF k,∃ a b:Nat,r=[.i (a:Int),.i (b:Int)]/\b<(A k).length:=fun r y=>by
  obtain⟨a,b,h1,_,d,_⟩:=qH (S.two ho q) y;exact⟨a,b,h1,d⟩
 rw[TN,Pd,o9];constructor
 ·intro h
  rcases Ke x8 [.i (i:Int)] [.i 0] (bt A C ab oF k) ([],0)with⟨r,h1,d,g⟩|⟨h1,_⟩
  ·obtain ⟨a, b, rfl, hb⟩ := v r h1
   have d:bq [.I] [.i (i:Int)] [.i (a:Int)]=true:=d;rw[Bo,dT]at d;have:i=a:=by omega
   subst this;exact⟨b,hb,h1,g⟩
  ·obtain ⟨r, d, g⟩ := lG.1 h
   rw[h1 r d]at g;cases g
 ·intro h j M
  have:=List.any_eq_false.1 h _ M;apply this;show bq [.I] [.i (i:Int)] [.i (i:Int)]=true
  rw[Bo];simp
end
def TT{r:LG}:iR r=0↔er (gi r 0).iV 0 345686399999=true/\er (gi r 1).iV 1 3=true/\pJ (gi r 2).sV=true/\jB (gi r 3).sV=true/\er (gi r 4).iV 0 99999=true/\er (gi r 5).iV 0 99999=true /\
  pK (gi r 6).sV=true/\pK (gi r 7).sV=true:=by
 unfold iR;generalize er (gi r 0).iV 0 345686399999=d;generalize er (gi r 1).iV 1 3=g;generalize pJ (gi r 2).sV=h;generalize jB (gi r 3).sV=k;generalize er (gi r 4).iV 0 99999=q;generalize er (gi r 5).iV 0 99999=v;generalize pK (gi r 6).sV=y;generalize pK (gi r 7).sV=I;cases d<;>cases g<;>cases h<;>cases k<;>cases q<;>cases v<;>cases y<;>cases I<;>simp
def TU:∀{l:LL} {o:Option LG},jC o l=0->∀ x∈l,iR x=0
 | [],_,_,_,h=>by cases h
 | y::q,o,h,x,d=>by
  have key:iR y=0/\jC (some y) q=0:=by
   cases o with
   | none =>
    simp only[jC]at h;split at h
    ·contradiction
    ·rename_i h1
     exact⟨by simpa using h1,h⟩
   | some z =>
    simp only[jC]at h;split at h
    ·contradiction
    ·rename_i h1
     split at h
     ·cases h
     ·exact⟨by simpa using h1,h⟩
  rcases cq.1 d with rfl|d
  ·exact key.1
  ·exact TU key.2 x d
def Kg{l:LL}(h:l9 l=0):∀ x∈l,iR x=0:=by
 unfold l9 at h;split at h
 ·cases h
 ·exact TU h
structure ml (L:LL) (C:Nat->BY) (A:Nat->LL):Prop where
 get:∀ i,i<L.length->L.getD i []=[.s (C i),.l (A i)]
 n:L.length<=40
 iv:∀ i,i<L.length->∀ z∈A i,c9 z
 na:∀ i,i<L.length->(A i).length<=40
 call:∀ i,i<L.length->C i∈calls
 uK:∀ i j,i<j->j<L.length->eT (C i) (C j)<0
 less:∀ i,0<i->i<L.length->(Op.bytesLess (C i).toList (C (i-1)).toList||((C i).toList==(C (i-1)).toList))=false
 fault:∀ i,i<L.length->ki (C i) (A i)=0
def Kh{c:BY}(h:c∈calls):c.size<=100:=by
 have d:calls.all (fun c=>dS c.size 100)=true:=by kernel_rfl
 simpa using dN.1 d c h
section
variable {L:LL} {C:Nat->BY} {A:Nat->LL} (R:ml L C A)
include R
theorem ml.ajL{i:Nat}(hi:i<L.length):∀ z∈A i,c9 z/\iR z=0:=fun z d=>⟨R.iv i hi z d,Kg (J_ (R.fault i hi)) z d⟩
theorem ml.jk:lu L C A:=by
 refine⟨R.get,R.n,fun i hi z g=>?_,R.na,fun i hi=>Kh (R.call i hi),R.uK⟩;obtain⟨h1,k⟩:=R.ajL hi z g;have d:=(TT.1 k).1;unfold er at d;simp only[eX,aK,dT]at d;refine⟨⟨h1.eta,?_,?_⟩,?_⟩
 ·unfold jh; omega
 ·unfold jh; omega
 ·obtain ⟨t, m, b, c, s, h, x, y, rfl, _, _, _, _, _, q, _⟩ := h1
  exact Kh q
end
def jl:List (Nat × Nat)->List (Nat × Nat)->Int
 | [],[]=>0
 | [],_::_ => -1
 |_::_,[]=>1
 |a::l,b::l'=>if a.1<b.1 then -1 else if b.1<a.1 then 1 else if a.2<b.2 then -1 else if b.2<a.2 then 1 else jl l l'
def TV:∀ l,jl l l=0
 | []=>rfl
 |a::l=>by simp[jl,TV l]
def TW{a b:Nat × Nat}{l l':List (Nat × Nat)}(h:a.1<b.1):jl (a::l) (b::l') = -1:=by rw[jl,iP h]
def TX{a b:Nat × Nat}{l l':List (Nat × Nat)}(h:a.1<b.1\/a.1=b.1/\a.2<b.2):jl (a::l) (b::l') = -1:=by
 rcases h with h|⟨h1,d⟩
 ·exact TW h
 ·rw[jl,iN (by omega),iN (by omega),iP d]
abbrev Jn:=List (Nat × Nat) × Int
def jm(x y:Jn):Bool:=if x.1.length=y.1.length then (if x.2=y.2 then decide (jl x.1 y.1<0) else decide (x.2<y.2)) else decide (y.1.length<x.1.length)
def iw(n m:Nat)(ok:Nat->Nat->Bool)(ap:Nat->Nat->Int)(i k:Nat):Jn :=
 if h:i<n/\k<m then
  let one:=if jm (iw n m ok ap i (k+1)) (iw n m ok ap (i+1) k)=true then iw n m ok ap i (k+1) else iw n m ok ap (i+1) k
  let o:Jn:=((i,k)::(iw n m ok ap (i+1) (k+1)).1,(iw n m ok ap (i+1) (k+1)).2+ap i k)
  if ok i k=true then (if jm o one=true then o else one) else one
 else ([],0)
termination_by (n-i)+(m-k)
def Ki{n m:Nat}{ok:Nat->Nat->Bool}{ap:Nat->Nat->Int}{i k:Nat}(h:n<=i\/m<=k):iw n m ok ap i k=([],0):=by
 rw[iw,dif_neg (by omega)]
def TY{n m:Nat}{ok:Nat->Nat->Bool}{ap:Nat->Nat->Int}{i k:Nat}(hi:i<n)(d:k<m) :
  iw n m ok ap i k=(let one:=if jm (iw n m ok ap i (k+1)) (iw n m ok ap (i+1) k)=true then iw n m ok ap i (k+1) else iw n m ok ap (i+1) k
   let o:Jn:=((i,k)::(iw n m ok ap (i+1) (k+1)).1,(iw n m ok ap (i+1) (k+1)).2+ap i k)
   if ok i k=true then (if jm o one=true then o else one) else one):=by
 rw[iw,dif_pos ⟨hi,d⟩]
def oU(x:Jn):Int:=10000000000*(x.1.length:Int)-x.2
def Fu{x y:Jn}(k:0<=x.2/\x.2<10000000000)(q:0<=y.2/\y.2<10000000000):jm x y=true↔oU y<oU x\/oU y=oU x/\jl x.1 y.1<0:=by
 unfold jm oU;split
 ·rename_i h
  rw[h];split
  ·rename_i g
   rw[g,dT];constructor
   ·intro d; exact .inr ⟨rfl,d⟩
   ·rintro (d | d)
    ·omega
    ·exact d.2
  ·rw [dT]
   constructor
   ·intro d; left; omega
   ·rintro(d|⟨d,_⟩)<;>omega
 ·rw [dT]
  constructor
  ·intro d; left; omega
  ·rintro(d|⟨d,_⟩)<;>omega
def eZ(ap:Nat->Nat->Int):List (Nat × Nat)->Int
 | []=>0
 |x::l=>eZ ap l+ap x.1 x.2
structure x9 (n m:Nat) (ok:Nat->Nat->Bool) (w ap:Nat->Nat->Int):Prop where
 sH:n<=1000
 wo:∀ i k,i<n->k<m->ok i k=true->w i k=10000000000-ap i k/\0<=ap i k/\ap i k<=3600000
section
variable {F:Nat->Nat->Int} {n m:Nat} {ok:Nat->Nat->Bool} {w ap:Nat->Nat->Int}
def Bs:∀(t i f:Nat),(bA F m ok w t i f).length<=t
 |0,_,_=>aM _
 | t+1,i,f=>by
  rw[bA];split
  ·rw[cn]; exact B1 (Bs t _ _)
  ·exact Lc (Bs t _ _)
def sI(h:fc F n m ok w)(W:x9 n m ok w ap):∀(t i f:Nat),n-i=t ->
  F i f=10000000000*((bA F m ok w t i f).length:Int)-eZ ap (bA F m ok w t i f)/\0<=eZ ap (bA F m ok w t i f)/\eZ ap (bA F m ok w t i f)<=3600000*((bA F m ok w t i f).length:Int)
 | 0,i,f,g=>by
  rw[h.mP i f (.inl (by omega)),bA];simp[eZ]
 | t+1,i,f,g=>by
  have hi:i<n:=by omega
  cases d:fW (gg F ok w (F i f) i) f (m-f)with
  | none =>
   have e:=Fe h hi fun q h1 y=>xP d q h1 (by omega);rw[qE d,e];exact sI h W t (i+1) f (by omega)
  | some q =>
   obtain⟨I,M,k,_⟩:=sv d;obtain⟨o1,o2⟩:=uH.1 k;obtain⟨v,N,O⟩:=W.wo i q hi (by omega) o1;obtain⟨r1,r2,r3⟩:=sI h W t (i+1) (q+1) (by omega);rw[nO d,<-o2,r1,v,cn];simp only[eZ];refine⟨?_,?_,?_⟩<;>omega
def x_(h:fc F n m ok w)(W:x9 n m ok w ap){t i f:Nat}(d:n-i=t):0<=eZ ap (bA F m ok w t i f)/\eZ ap (bA F m ok w t i f)<10000000000:=by
 obtain⟨_,g,k⟩:=sI h W t i f d;have q:=Bs (F:=F) (m:=m) (ok:=ok) (w:=w) t i f;have:=W.sH;exact⟨g,by omega⟩
def TZ(h:fc F n m ok w)(W:x9 n m ok w ap){t i f t' d f':Nat}(k:n-i=t)(g:n-d=t')(e:F i f=F d f'):(bA F m ok w t i f).length=(bA F m ok w t' d f').length:=by
 obtain⟨h1,_⟩:=sI h W t i f k;obtain⟨q,_⟩:=sI h W t' d f' g;have v:=x_ h W (f:=f) k;have y:=x_ h W (f:=f') g;omega
def T0(h:fc F n m ok w)(W:x9 n m ok w ap):∀(t i k:Nat),n-i=t->k<m->F i k=F i (k+1)->¬ jl (bA F m ok w t i (k+1)) (bA F m ok w t i k)<0
 |0,i,k,_,_,_=>by rw[bA,bA]; simp[jl]
 | t+1,i,k,N,O,he=>by
  have hi:i<n:=by omega
  obtain⟨r,hr⟩:∃ r,m-k=r+1:=⟨m-k-1,by omega⟩
  have hr2:m-(k+1)=r:=by omega
  have I:=TZ h W N N he;cases d:fW (gg F ok w (F i k) i) k (m-k)with
  | some q =>
   obtain⟨q1,q2,U,V⟩:=sv d;by_cases e:q=k
   ·subst e
    rw[nO d]at I|-;cases M:bA F m ok w (t+1) i (q+1)with
    |nil=>rw[M]at I; simp at I
    | cons b l' =>
     obtain⟨b1,_,b3,_,_⟩:=qF (F:=F) (m:=m) (ok:=ok) (w:=w) (t+1) i (q+1) b (by rw[M]; exact cX);rw[jl];simp only[];by_cases hb:i<b.1
     ·rw [iN (by omega), iP hb]
      decide
     ·rw [iN (by omega), iN hb, iN (by omega), iP (by omega)]
      decide
   ·have g:fW (gg F ok w (F i (k+1)) i) (k+1) (m-(k+1))=some q:=by
     rw[<-he];exact JW (by omega) (by omega) U fun y h1 v=>V y (by omega) v
    rw[nO d,nO g,TV]
    decide
  | none =>
   have hn:=xP d;have g:fW (gg F ok w (F i (k+1)) i) (k+1) (m-(k+1))=none:=by
    rw[<-he];exact ajd fun y h1 v=>hn y (by omega) (by omega)
   have e1:=Fe h hi fun q h1 v=>hn q h1 (by omega);have e2:=Fe h hi fun q h1 v=>xP g q h1 (by omega);rw[qE d,qE g];exact T0 h W t (i+1) k (by omega) O (by omega)
def Fv(h:fc F n m ok w)(W:x9 n m ok w ap):∀(s i k:Nat),(n-i)+(m-k)<=s->iw n m ok ap i k=(bA F m ok w (n-i) i k,eZ ap (bA F m ok w (n-i) i k))
 | s,i,k,hs=>by
  by_cases hik:i<n/\k<m
  case neg =>
   rw[Ki (by omega)];have:bA F m ok w (n-i) i k=[]:=by
    by_cases hi:i<n
    ·have U : m <= k := by omega
     have key:∀ t i,bA F m ok w t i k=[]:=by
      intro t
      induction t with
      |zero=>intro i; rfl
      | succ t ih =>
       intro i;rw[qE (by rw[show m-k=0 from by omega]; rfl)];exact ih (i+1)
     exact key _ _
    ·rw [show n - i = 0 from by omega]
     rfl
   rw[this];rfl
  case pos =>
   obtain⟨hi,U⟩:=hik;cases s with
   |zero=>omega
   | succ s =>
    obtain⟨t,V⟩:∃ t,n-i=t+1:=⟨n-i-1,by omega⟩
    have M:n-(i+1)=t:=by omega
    have iA:=Fv h W s (i+1) k (by omega);have iB:=Fv h W s i (k+1) (by omega);have iC:=Fv h W s (i+1) (k+1) (by omega);rw[M]at iA iC;rw[V]at iB|-;rw[TY hi U,iA,iB,iC];simp only[];have vA:=sI h W t (i+1) k M;have vB:=sI h W (t+1) i (k+1) V;have vC:=sI h W t (i+1) (k+1) M;have sA:=x_ h W (f:=k) M;have sB:=x_ h W (f:=k+1) V;have sC:=x_ h W (f:=k+1) M;have mA:=h.down i k;have mB:=h.right i k;have hone:∀ one:Jn,one=(if jm (bA F m ok w (t+1) i (k+1),eZ ap (bA F m ok w (t+1) i (k+1))) (bA F m ok w t (i+1) k,eZ ap (bA F m ok w t (i+1) k))=true then (bA F m ok w (t+1) i (k+1),eZ ap (bA F m ok w (t+1) i (k+1))) else (bA F m ok w t (i+1) k,eZ ap (bA F m ok w t (i+1) k))) ->
      (one=(bA F m ok w (t+1) i (k+1),eZ ap (bA F m ok w (t+1) i (k+1)))\/one=(bA F m ok w t (i+1) k,eZ ap (bA F m ok w t (i+1) k)))/\oU one=max (F (i+1) k) (F i (k+1)):=by
     intro one he;have hb:=Fu (x:=(bA F m ok w (t+1) i (k+1),eZ ap (bA F m ok w (t+1) i (k+1)))) (y:=(bA F m ok w t (i+1) k,eZ ap (bA F m ok w t (i+1) k))) sB sA;unfold oU at hb|-;simp only[<-vA.1,<-vB.1]at hb;rw[he];split
     ·rename_i h1
      refine⟨.inl rfl,?_⟩;simp only[<-vB.1];rcases hb.1 h1 with v|v<;>omega
     ·rename_i h1
      refine⟨.inr rfl,?_⟩;simp only[<-vA.1];have:¬ F (i+1) k<F i (k+1):=fun v=>h1 (hb.2 (.inl v));omega
    generalize hO:(if jm (bA F m ok w (t+1) i (k+1),eZ ap (bA F m ok w (t+1) i (k+1))) (bA F m ok w t (i+1) k,eZ ap (bA F m ok w t (i+1) k))=true then (bA F m ok w (t+1) i (k+1),eZ ap (bA F m ok w (t+1) i (k+1))) else (bA F m ok w t (i+1) k,eZ ap (bA F m ok w t (i+1) k)):Jn)=one;obtain⟨ho,hv⟩:=hone one hO.symm;have so:0<=one.2/\one.2<10000000000:=by rcases ho with rfl|rfl<;>assumption
    have hst:=h.step i k hi U;have hl:=Bs (F:=F) (m:=m) (ok:=ok) (w:=w) t (i+1) (k+1);have hn0:=W.sH;have hvC:ok i k=true->oU ((i,k)::bA F m ok w t (i+1) (k+1),eZ ap (bA F m ok w t (i+1) (k+1))+ap i k)=w i k+F (i+1) (k+1)/\0<=eZ ap (bA F m ok w t (i+1) (k+1))+ap i k/\eZ ap (bA F m ok w t (i+1) (k+1))+ap i k<10000000000:=fun O=>by
     obtain⟨w1,w2,w3⟩:=W.wo i k hi U O;refine⟨?_,by omega,by omega⟩;unfold oU;simp only[cn];omega
    have hC:gg F ok w (F i k) i k=false->(if ok i k=true then (if jm ((i,k)::bA F m ok w t (i+1) (k+1),eZ ap (bA F m ok w t (i+1) (k+1))+ap i k) one=true then ((i,k)::bA F m ok w t (i+1) (k+1),eZ ap (bA F m ok w t (i+1) (k+1))+ap i k) else one) else one)=one:=fun hk0=>by
     split
     ·rename_i O
      obtain⟨c1,c2,c3⟩:=hvC O;rw[iP O]at hst;have hne:w i k+F (i+1) (k+1)≠F i k:=fun e=>by rw[uH.2 ⟨O,e⟩]at hk0; cases hk0
      rw[iN];intro hb;have hb:=(Fu (x:=((i,k)::bA F m ok w t (i+1) (k+1),eZ ap (bA F m ok w t (i+1) (k+1))+ap i k)) (y:=one) ⟨c2,c3⟩ so).1 hb;rw[c1,hv]at hb;rcases hb with hb|⟨hb,_⟩<;>omega
     ·rfl
    have N:=Fu (x:=(bA F m ok w (t+1) i (k+1),eZ ap (bA F m ok w (t+1) i (k+1)))) (y:=(bA F m ok w t (i+1) k,eZ ap (bA F m ok w t (i+1) k))) sB sA;unfold oU at N;simp only[<-vA.1,<-vB.1]at N;cases I:fW (gg F ok w (F i k) i) k (m-k)with
    | none =>
     have hn:=xP I;have eA:=Fe h hi fun q h1 v=>hn q h1 (by omega);rw[hC (hn k (aM _) (by omega)),qE I];by_cases hb:jm (bA F m ok w (t+1) i (k+1),eZ ap (bA F m ok w (t+1) i (k+1))) (bA F m ok w t (i+1) k,eZ ap (bA F m ok w t (i+1) k))=true
     ·exfalso
      rcases N.1 hb with h1|⟨h1,v⟩
      ·omega
      ·have := T0 h W (t + 1) i k V U (by omega)
       rw[qE I]at this;exact this v
     ·rw [iN hb] at hO
      exact hO.symm
    | some q =>
     obtain⟨q1,q2,q3,q4⟩:=sv I;obtain⟨o1,o2⟩:=uH.1 q3;by_cases e:q=k
     ·subst e
      obtain⟨c1,c2,c3⟩:=hvC o1;rw[iP o1,nO I,iP]
      ·rfl
      ·refine (Fu (x := ((i, q) :: bA F m ok w t (i + 1) (q + 1), eZ ap (bA F m ok w t (i + 1) (q + 1)) + ap i q)) (y := one) ⟨c2, c3⟩ so).2 ?_
       rw[c1,hv];by_cases hlt:max (F (i+1) q) (F i (q+1))<w i q+F (i+1) (q+1)
       ·exact .inl hlt
       ·right
        have hval:max (F (i+1) q) (F i (q+1))=w i q+F (i+1) (q+1):=by omega
        refine⟨hval,?_⟩;have d:one.1.length=(bA F m ok w t (i+1) (q+1)).length+1:=by
         rw[<-hv]at hval;unfold oU at hval c1;simp only[cn]at c1;omega
        rcases ho with e|e
        ·rw [e] at d |-
         simp only[]at d|-;cases g:bA F m ok w (t+1) i (q+1)with
         |nil=>rw[g]at d; simp at d
         | cons b l' =>
          obtain⟨b1,_,b3,_,_⟩:=qF (F:=F) (m:=m) (ok:=ok) (w:=w) (t+1) i (q+1) b (by rw[g]; exact cX);rw[TX (by simp only[]; omega)]
          decide
        ·rw [e] at d |-
         simp only[]at d|-;cases g:bA F m ok w t (i+1) q with
         |nil=>rw[g]at d; simp at d
         | cons b l' =>
          obtain⟨b1,_,b3,_,_⟩:=qF (F:=F) (m:=m) (ok:=ok) (w:=w) t (i+1) q b (by rw[g]; exact cX);rw[TX (by simp only[]; omega)]
          decide
     ·have hk0 := q4 k (aM _) (by omega)
      rw[hC hk0];have tk:=h.take (i:=i) (k:=k+1) (aM i) (show k+1<=q by omega) hi (by omega) o1;have eB:F i k=F i (k+1):=by omega
      have hq2:fW (gg F ok w (F i (k+1)) i) (k+1) (m-(k+1))=some q:=by
       rw[<-eB];exact JW (by omega) (by omega) q3 fun y h1 v=>q4 y (by omega) v
      rw[nO I] ;rw[nO hq2]at hO N;rw[<-hO,iP];refine N.2 ?_;by_cases hlt:F (i+1) k<F i (k+1)
      ·exact .inl hlt
      ·right
       refine⟨by omega,?_⟩;have d:=TZ h W (f:=k) (f':=k) M V (by omega);rw[nO I]at d;cases g:bA F m ok w t (i+1) k with
       |nil=>rw[g]at d; simp at d
       | cons b l' =>
        obtain⟨b1,_,_,_,_⟩:=qF (F:=F) (m:=m) (ok:=ok) (w:=w) t (i+1) k b (by rw[g]; exact cX);rw[TW (by simp only[]; omega)]
        decide
end
def T3{p q:LG}(d:d_ p)(g:d_ q):AU [.i (gi p 0).iV,.i (gi q 0).iV]=some [.i (jD p q)]:=by
 obtain⟨_,h1,h⟩:=d;obtain⟨_,k,v⟩:=g;unfold jh at h1 h k v;refine aa.toEq ?_;unfold AU jD jh;dsimp +instances only[go_sem];exact aa.pos (dH.2 ⟨by omega,by omega⟩) (aa.pos (dH.2 ⟨by omega,by omega⟩) (aa.some rfl))
def Kj(oF:Int){p q:LG}(d:d_ p)(g:d_ q):xG [.l [p],.l [q],.i oF]=some [.t (jU oF p q)]:=by
 refine aa.toEq ?_;unfold xG jU;dsimp +instances only[go_sem];refine aa.test (fun h=>?_) fun h=>?_
 ·have h : ((jR p).toList == (jR q).toList) = true := h
  rw[h];refine aa.test (fun h=>?_) fun h=>?_
  ·have h : (mQ p == mQ q) = true := h
   rw[h];refine aa.cE (T3 d g) ?_;exact aa.some rfl
  ·have h : (mQ p == mQ q) = false := h
   rw[h];exact aa.some rfl
 ·have h : ((jR p).toList == (jR q).toList) = false := h
  rw[h];exact aa.some rfl
def qI(a b c d:Int):Int:=if fL a c=0 then fL b d else fL a c
def ajM(a b c d:Int):EP [.l [[.i a],[.i b]],.l [[.i c],[.i d]]]=some [.i (qI a b c d)]:=by
 have s0:∀ x,fL a c=x->aa (qD [.l [[.i a],[.i b]],.l [[.i c],[.i d]],.l [[.i a],[.i b]],.i 2,.i 0]) fun o=>o=if x=0 then (none,[.l [[.i a],[.i b]],.l [[.i c],[.i d]],.l [[.i a],[.i b]],.i 2,.i 1]) else (some 0,[.i x]):=fun x k=>by
  unfold qD;dsimp +instances only[go_sem];refine aa.pos rfl (aa.pos rfl (aa.neg rfl (aa.pos rfl ?_)));refine aa.cE (Fb a c) ?_;dsimp +instances only[go_sem];rw[k];by_cases e:x=0
  ·rw [iP e]
   exact aa.neg (by simp[e]) (aa.pos rfl (aa.some rfl))
  ·rw [iN e]
   exact aa.pos (by simpa using e) (aa.some rfl)
 have s1:∀ x,fL b d=x->aa (qD [.l [[.i a],[.i b]],.l [[.i c],[.i d]],.l [[.i a],[.i b]],.i 2,.i 1]) fun o=>o=if x=0 then (none,[.l [[.i a],[.i b]],.l [[.i c],[.i d]],.l [[.i a],[.i b]],.i 2,.i 2]) else (some 0,[.i x]):=fun x k=>by
  unfold qD;dsimp +instances only[go_sem];refine aa.pos rfl (aa.pos rfl (aa.neg rfl (aa.pos rfl ?_)));refine aa.cE (Fb b d) ?_;dsimp +instances only[go_sem];rw[k];by_cases e:x=0
  ·rw [iP e]
   exact aa.neg (by simp[e]) (aa.pos rfl (aa.some rfl))
  ·rw [iN e]
   exact aa.pos (by simpa using e) (aa.some rfl)
 have s2:qD [.l [[.i a],[.i b]],.l [[.i c],[.i d]],.l [[.i a],[.i b]],.i 2,.i 2]=some (some 1,[.l [[.i a],[.i b]],.l [[.i c],[.i d]]]):=by
  refine aa.toEq ?_;unfold qD;dsimp +instances only[go_sem];exact aa.neg rfl (aa.some rfl)
 have key:a6 qD [.l [[.i a],[.i b]],.l [[.i c],[.i d]],.l [[.i a],[.i b]],.i 2,.i 0] 3 fun x g=>(x=0/\g=[.i (qI a b c d)])\/(x=1/\g=[.l [[.i a],[.i b]],.l [[.i c],[.i d]]]/\qI a b c d=0):=by
  obtain⟨o,h,rfl⟩:=s0 _ rfl;by_cases e:fL a c=0
  ·rw [iP e] at h
   refine a6.next h ?_
   obtain⟨o,h,rfl⟩:=s1 _ rfl;by_cases q:fL b d=0
   ·rw [iP q] at h
    refine a6.next h (a6.stop s2 (.inr ⟨rfl,rfl,by unfold qI; rw[iP e,q]⟩))
   ·rw [iN q] at h
    exact a6.stop h (.inl ⟨rfl,by unfold qI; rw[iP e]⟩)
  ·rw [iN e] at h
   exact a6.stop h (.inl ⟨rfl,by unfold qI; rw[iN e]⟩)
 refine aa.toEq ?_;unfold EP;dsimp +instances only[go_sem];refine aa.loop (key.to (by omega)) rfl ?_;rintro x g (⟨rfl,rfl⟩|⟨rfl,rfl,v⟩)
 ·exact aa.pos rfl (aa.some rfl)
 ·(dsimp +instances only [go_sem])
  refine aa.neg rfl (aa.neg rfl (aa.some ?_));rw[v]
section
variable {X Y:List Nat}
structure sJ (X Y:List Nat):Prop where
 x:X.Pairwise (·<·)
 y:Y.Pairwise (·<·)
def Fw{X:List Nat}(h:X.Pairwise (·<·)){i j:Nat}(hi:i<X.length)(d:j<X.length):X.getD i 0<X.getD j 0↔i<j:=by
 have e:∀ k (q:k<X.length),X.getD k 0=X[k]:=fun k q=>by rw[cd,bZ q]; rfl
 rw[e i hi,e j d];have key:=K5.1 h;constructor
 ·intro v
  rcases La i j with g|g|g
  ·exact g
  ·subst g; omega
  ·have := key j i d hi g
   omega
 ·exact key i j hi d
def T4(a b:Nat):fL (a:Int) (b:Int)=if a<b then -1 else if b<a then 1 else 0:=by
 unfold fL;by_cases h:a<b
 ·rw[iP h,iP (by omega)]
 ·rw [iN h, iN (by omega)]
  by_cases d:b<a
  ·rw[iP d,iP (by omega)]
  ·rw[iN d,iN (by omega)]
def ajN(R:sJ X Y){p q:Nat × Nat}(d:p.1<X.length/\p.2<Y.length)(g:q.1<X.length/\q.2<Y.length) :
  qI ((X.getD p.1 0:Nat):Int) ((Y.getD p.2 0:Nat):Int) ((X.getD q.1 0:Nat):Int) ((Y.getD q.2 0:Nat):Int)=if p.1<q.1 then -1 else if q.1<p.1 then 1 else if p.2<q.2 then -1 else if q.2<p.2 then 1 else 0:=by
 unfold qI;rw[T4,T4];have h1:=Fw R.x d.1 g.1;have h:=Fw R.x g.1 d.1;have k:=Fw R.y d.2 g.2;have v:=Fw R.y g.2 d.2;simp only[h1,h,k,v];by_cases a:p.1<q.1
 ·simp[a]
 ·by_cases b : q.1 < p.1
  ·simp[a,b]
  ·simp[a,b]
def ajO(p:Nat × Nat):aQ [.I,.I] (eO X Y p)=eO X Y p:=rfl
def T5(R:sJ X Y):∀(q d p y:List (Nat × Nat)),p.length=y.length->(∀ x∈q,x.1<X.length/\x.2<Y.length)->(∀ x∈d,x.1<X.length/\x.2<Y.length)->p.length+q.length<=100000 ->
  a6 uB [.l ((p++q).map (eO X Y)),.l ((y++d).map (eO X Y)),.l ((p++q).map (eO X Y)),.i ((p.length+q.length:Nat):Int),.i (p.length:Int)] (q.length+1)
   fun x g=>(x=0/\g=[.i (jl q d)])\/(x=1/\g=[.l ((p++q).map (eO X Y)),.l ((y++d).map (eO X Y))]/\q.length<=d.length/\jl q d=if q.length<d.length then -1 else 0)
 | [],d,p,y,I,_,_,M=>by
  refine a6.stop (x:=1) (d':=[.l ((p++[]).map (eO X Y)),.l ((y++d).map (eO X Y))]) (aa.toEq ?_) (.inr ⟨rfl,rfl,eV _,?_⟩)
  ·unfold uB
   dsimp +instances only[go_sem];exact aa.neg (by rw[cK]; exact decide_eq_false (by simp)) (aa.some rfl)
  ·cases d with
   |nil=>rfl
   |cons b d=>simp[jl]
 | a::q,[],p,y,I,_,_,M=>by
  simp only[cn]at M;refine a6.stop (x:=0) (d':=[.i 1]) (aa.toEq ?_) (.inl ⟨rfl,rfl⟩);unfold uB;dsimp +instances only[go_sem];simp only[c8,fu,cn,km];exact aa.p (aa.p (aa.p (aa.some rfl)))
 | a::q,b::d,p,y,I,hq,hq',M=>by
  simp only[cn]at M;have ga:((p++a::q).map (eO X Y)).getD p.length []=eO X Y a:=by
   rw[cd,bY,iY (aM _),lF];rfl
  have gb:((y++b::d).map (eO X Y)).getD p.length []=eO X Y b:=by
   rw[I,cd,bY,iY (aM _),lF];rfl
  have hc:=ajN R (hq a cX) (hq' b cX);have step:∀ v,qI ((X.getD a.1 0:Nat):Int) ((Y.getD a.2 0:Nat):Int) ((X.getD b.1 0:Nat):Int) ((Y.getD b.2 0:Nat):Int)=v ->
    uB [.l ((p++a::q).map (eO X Y)),.l ((y++b::d).map (eO X Y)),.l ((p++a::q).map (eO X Y)),.i ((p.length+(a::q).length:Nat):Int),.i (p.length:Int)] =
     some (if v=0 then (none,[.l ((p++a::q).map (eO X Y)),.l ((y++b::d).map (eO X Y)),.l ((p++a::q).map (eO X Y)),.i ((p.length+(a::q).length:Nat):Int),.i ((p.length:Int)+1)]) else (some 0,[.i v])):=fun v hv=>by
   refine aa.toEq ?_;unfold uB;dsimp +instances only[go_sem];simp only[aR,ga,gb,ajO,c8,fu,cn];refine aa.p (aa.p (aa.n (aa.p ?_)));refine aa.call (P:=fun g=>g=[.i v]) ?_ ?_
   ·unfold JA eO
    dsimp +instances only[go_sem];refine aa.cE (ajM _ _ _ _) ?_;dsimp +instances only[go_sem];rw[hv];exact aa.some rfl
   ·rintro _ rfl
    dsimp +instances only[go_sem];by_cases e:v=0
    ·rw [iP e]
     exact aa.neg (by simp[e]) (aa.p (aa.some rfl))
    ·rw [iN e]
     exact aa.pos (by simpa using e) (aa.some rfl)
  have h:=step _ rfl;rw[hc]at h;have hlex:jl (a::q) (b::d)=(if a.1<b.1 then -1 else if b.1<a.1 then 1 else if a.2<b.2 then -1 else if b.2<a.2 then 1 else jl q d):=rfl;have e1:p++a::q=(p++[a])++q:=by simp
  have e2:y++b::d=(y++[b])++d:=by simp
  by_cases k:(if a.1<b.1 then (-1:Int) else if b.1<a.1 then 1 else if a.2<b.2 then -1 else if b.2<a.2 then 1 else 0)=0
  ·rw [iP k] at h
   refine a6.next h ?_
   have hlex2:jl (a::q) (b::d)=jl q d:=by
    rw[hlex];split at k
    ·cases k
    ·rename_i N
     rw[iN N];split at k
     ·cases k
     ·rename_i O
      rw[iN O];split at k
      ·cases k
      ·rename_i U
       rw[iN U];split at k
       ·cases k
       ·rename_i V
        rw[iN V]
   have ih:=T5 R q d (p++[a]) (y++[b]) (by simp[I]) (fun x W=>hq x (dp _ W)) (fun x W=>hq' x (dp _ W)) (by simp; omega);have e3:(((p++[a]).length+q.length:Nat):Int)=((p.length+(a::q).length:Nat):Int):=by simp; omega
   have e4:(((p++[a]).length:Nat):Int)=(p.length:Int)+1:=by simp
   rw[<-e1,<-e2,e3,e4]at ih;refine ih.mono ?_;rintro x g (⟨rfl,rfl⟩|⟨rfl,rfl,h1,h2⟩)
   ·exact .inl ⟨rfl,by rw[hlex2]⟩
   ·refine .inr ⟨rfl, rfl, by simpa using h1, ?_⟩
    rw[hlex2,h2];simp only[cn,Nat.add_lt_add_iff_right]
  ·rw [iN k] at h
   refine a6.stop h (.inl ⟨rfl,?_⟩);rw[hlex];split
   ·rfl
   ·rename_i N
    rw[iN N]at k;split
    ·rfl
    ·rename_i O
     rw[iN O]at k;split
     ·rfl
     ·rename_i U
      rw[iN U]at k;split
      ·rfl
      ·rename_i V
       rw[iN V]at k;exact absurd rfl k
def ajP(R:sJ X Y)(l l':List (Nat × Nat))(h1:∀ x∈l,x.1<X.length/\x.2<Y.length)(k:∀ x∈l',x.1<X.length/\x.2<Y.length)(hn:l.length<=100000) :
  ER [.l (l.map (eO X Y)),.l (l'.map (eO X Y))]=some [.i (jl l l')]:=by
 have h:=T5 R l l' [] [] rfl h1 k (by simpa using hn);simp only[lB,km,cP]at h;refine aa.toEq ?_;unfold ER;dsimp +instances only[go_sem];simp only[c8];refine aa.loop (h.to (by omega)) rfl ?_;rintro x g (⟨rfl,rfl⟩|⟨rfl,rfl,q,d⟩)
 ·exact aa.pos rfl (aa.some rfl)
 ·(dsimp +instances only [go_sem])
  simp only[c8];refine aa.neg rfl ?_;by_cases e:l.length<l'.length
  ·rw [d, iP e]
   exact aa.p (aa.some rfl)
  ·rw [d, iN e]
   exact aa.n (aa.some rfl)
def jn(X Y:List Nat)(x:Jn):LG:=[.l (x.1.map (eO X Y)),.i x.2]
def Kk(R:sJ X Y)(x y:Jn)(h1:∀ p∈x.1,p.1<X.length/\p.2<Y.length)(g:∀ p∈y.1,p.1<X.length/\p.2<Y.length)(hn:x.1.length<=100000) :
  xF [.l [jn X Y x],.l [jn X Y y]]=some [.t (jm x y)]:=by
 refine aa.toEq ?_;unfold xF jn jm;dsimp +instances only[go_sem];simp only[c8];by_cases e:x.1.length=y.1.length
 ·rw [iP e]
  refine aa.neg (by rw[e]; simp) ?_;by_cases d:x.2=y.2
  ·rw [iP d]
   refine aa.neg (by rw[d]; simp) ?_;refine aa.cE (ajP R x.1 y.1 h1 g hn) ?_;refine aa.some ?_;dsimp +instances only[go_sem];rw[cK]
  ·rw [iN d]
   refine aa.pos (by simpa using d) (aa.some ?_);rw[cK]
 ·rw [iN e]
  refine aa.pos ?_ (aa.some ?_)
  ·have : ((x.1.length : Nat) : Int) ≠ ((y.1.length : Nat) : Int) := by omega
   simpa using this
  ·rw [cK]
   congr 2;rw[nf,dT,dT];omega
end
section
variable (J:Nat->Nat->Jn) (X Y:List Nat)
def sK(i t p j:Nat):LG:=if i<p\/(p=i/\t<=j) then jn X Y (J p j) else [.l [],.i 0]
def fX(m i t p:Nat):LL:=(fo (m+1)).map (sK J X Y i t p)
def gR(n m i t:Nat):LL:=(fo (n+1)).map fun p=>[G.l (fX J X Y m i t p)]
variable {J X Y}
def Fx(m i t p:Nat):(fX J X Y m i t p).length=m+1:=by unfold fX; rw[c8,oZ]
def Kl(n m i t:Nat):(gR J X Y n m i t).length=n+1:=by unfold gR; rw[c8,oZ]
def Fy{m i t p j:Nat}(d:j<=m):(fX J X Y m i t p).getD j []=sK J X Y i t p j:=by
 unfold fX;rw[cd,bY,pX (by omega)];rfl
def Km{n m i t p:Nat}(d:p<=n):kA (gR J X Y n m i t) p=fX J X Y m i t p:=by
 unfold kA gR;rw[cd,bY,pX (by omega)];rfl
def Bt{i t p j:Nat}(h:i<p\/(p=i/\t<=j)):sK J X Y i t p j=jn X Y (J p j):=by unfold sK; rw[iP h]
def ajQ{m i t:Nat}:(fX J X Y m i (t+1) i).set t (jn X Y (J i t))=fX J X Y m i t i:=by
 apply jG;intro j;unfold fX;rw[eC,bY,bY,c8,oZ];by_cases d:j<m+1
 ·rw [pX d]
  by_cases e:t=j
  ·subst e
   rw[iP rfl,iP d,ff,Bt (.inr ⟨rfl,aM _⟩)]
  ·rw [iN e]
   simp only[ff];unfold sK;by_cases h:t<=j
   ·rw[iP (.inr ⟨rfl,by omega⟩),iP (.inr ⟨rfl,h⟩)]
   ·rw[iN (by omega),iN (by omega)]
 ·rw [oX (by simp; omega)]
  by_cases e:t=j
  ·subst e
   rw[iP rfl,iN d];rfl
  ·rw [iN e]
   rfl
def ajR{n m i t:Nat}:(gR J X Y n m i (t+1)).set i [.l (fX J X Y m i t i)]=gR J X Y n m i t:=by
 apply jG;intro p;unfold gR;rw[eC,bY,bY,c8,oZ];by_cases d:p<n+1
 ·rw [pX d]
  by_cases e:i=p
  ·subst e
   rw[iP rfl,iP d];rfl
  ·rw [iN e]
   simp only[ff];have:fX J X Y m i (t+1) p=fX J X Y m i t p:=by
    unfold fX;refine nc fun j _=>?_;unfold sK;by_cases h:i<p
    ·rw[iP (.inl h),iP (.inl h)]
    ·rw[iN (by omega),iN (by omega)]
   rw[this]
 ·rw [oX (by simp; omega)]
  by_cases e:i=p
  ·subst e
   rw[iP rfl,iN d];rfl
  ·rw [iN e]
   rfl
def ajS{n m i:Nat}(h:J i m=([],0)):gR J X Y n m (i+1) 0=gR J X Y n m i m:=by
 unfold gR;refine nc fun p _=>?_;have:fX J X Y m (i+1) 0 p=fX J X Y m i m p:=by
  unfold fX;refine nc fun j g=>?_;rw[gH]at g;unfold sK;by_cases h1:i<p
  ·rw[iP (by omega),iP (.inl h1)]
  ·rw [iN (by omega)]
   by_cases d:p=i/\m<=j
   ·rw [iP (.inr d), d.1, show j = m from by omega, h]
    rfl
   ·rw[iN (by omega)]
 rw[this]
def ajT{n m:Nat}(h:∀ j,J n j=([],0)):cB (n+1) ([.l (cB (m+1) ([.l [],.i 0]:LG))]:LG)=gR J X Y n m n 0:=by
 symm;rw[Lb];refine⟨Kl n m n 0,fun x d=>?_⟩;unfold gR at d;obtain⟨p,k,rfl⟩:=dB.1 d;rw[gH]at k;have:fX J X Y m n 0 p=cB (m+1) ([.l [],.i 0]:LG):=by
  rw[Lb];refine⟨Fx m n 0 p,fun y g=>?_⟩;unfold fX at g;obtain⟨j,_,rfl⟩:=dB.1 g;unfold sK;by_cases e:p=n
  ·rw [iP (.inr ⟨e, eV _⟩), e, h]
   rfl
  ·rw[iN (by omega)]
 rw[this]
end
def sL(a b:LL)(X Y:List Nat)(i k:Nat):Int:=jD (gh a X i) (gh b Y k)
def cu(a b:LL)(X Y:List Nat)(oF:Int):Nat->Nat->Jn:=iw X.length Y.length (df a b X Y oF) (sL a b X Y)
structure JnP (X Y:List Nat) (x:Jn):Prop where
 mem:∀ p∈x.1,p.1<X.length/\p.2<Y.length
 sH:x.1.length<=1000
 s0:0<=x.2
 s1:x.2<10000000000
section
variable {a b:LL} {X Y:List Nat} {oF:Int}
def T6(J:JC a b X Y)(h1:oF<=3600000):x9 X.length Y.length (df a b X Y oF) (wJ a b X Y) (sL a b X Y) :=
 ⟨J.nX, fun i k hi d ho => by
  have h:=xQ (J.xR hi).2 (J.xS d).2;obtain⟨_,_,g⟩:=Tr.1 ho;refine⟨rfl,h.1,?_⟩;show jD (gh a X i) (gh b Y k)<=3600000
  omega⟩
def T7(J:JC a b X Y)(h1:oF<=3600000)(i k:Nat):cu a b X Y oF i k=(bA (l_ X.length Y.length (df a b X Y oF) (wJ a b X Y)) Y.length (df a b X Y oF) (wJ a b X Y) (X.length-i) i k,eZ (sL a b X Y) (bA (l_ X.length Y.length (df a b X Y oF) (wJ a b X Y)) Y.length (df a b X Y oF) (wJ a b X Y) (X.length-i) i k)) :=
 Fv (Ff _ _ _ _) (T6 J h1) _ i k (aM _)
def Kn(J:JC a b X Y)(h1:oF<=3600000)(i k:Nat):JnP X Y (cu a b X Y oF i k):=by
 rw[T7 J h1];have d:=x_ (Ff X.length Y.length (df a b X Y oF) (wJ a b X Y)) (T6 J h1) (t:=X.length-i) (i:=i) (f:=k) rfl;have q:=Bs (F:=l_ X.length Y.length (df a b X Y oF) (wJ a b X Y)) (m:=Y.length) (ok:=df a b X Y oF) (w:=wJ a b X Y) (X.length-i) i k;have:=J.nX;refine⟨fun p g=>?_,by simp only[]; omega,d.1,d.2⟩;obtain⟨v,y,_,h,_⟩:=qF _ i k p g;exact⟨by omega,h⟩
def nT(a b:LL)(X Y:List Nat)(oF:Int)(i t:Nat):Jn:=((i,t)::(cu a b X Y oF (i+1) (t+1)).1,(cu a b X Y oF (i+1) (t+1)).2+jD (gh a X i) (gh b Y t))
def T8(J:JC a b X Y)(R:sJ X Y)(h1:oF<=3600000)(ac M:BY){i:Nat}(hi:i<X.length):∀ t:Nat,t<=Y.length ->
  a6 AY [.s ac,.l a,.s M,.l b,.l [],.i 0,.l (gR (cu a b X Y oF) X Y X.length Y.length i t),.i ((X.length+1:Nat):Int),.l (bl X),.l (bl Y),.i oF,.i ((X.length+1:Nat):Int),.i (i:Int),.i ((t:Int)-1)] (t+1)
   fun c g=>c=0/\g=[.s ac,.l a,.s M,.l b,.l [],.i 0,.l (gR (cu a b X Y oF) X Y X.length Y.length i 0),.i ((X.length+1:Nat):Int),.l (bl X),.l (bl Y),.i oF,.i ((X.length+1:Nat):Int),.i (i:Int)]
 | 0,_=>by
  refine a6.stop (x:=0) (aa.toEq ?_) ⟨rfl,rfl⟩;unfold AY;dsimp +instances only[go_sem];refine aa.neg (by rw[eX]; decide) ?_;simp only[aR];exact aa.some rfl
 | t+1,ht=>by
  have nX:=J.nX;have nY:=J.nY;have ih:=T8 J R h1 ac M hi t (by omega);have e0:((t+1:Nat):Int)-1=(t:Int):=by omega
  rw[e0];refine a6.next (aa.toEq ?_) ih
  have e1:(0+((i:Int)+1).toNat)=i+1:=by omega
  have e2:((t:Int)+1).toNat=t+1:=by omega
  have e3:(0+(i:Int).toNat)=i:=by omega
  have pA:=Kn J h1 (i+1) t;have U:=Kn J h1 i (t+1);have q:=Kn J h1 (i+1) (t+1);have hstep:cu a b X Y oF i t=_:=TY (ap:=sL a b X Y) hi (show t<Y.length by omega);have hA:(fX (cu a b X Y oF) X Y Y.length i (t+1) (i+1)).getD t []=jn X Y (cu a b X Y oF (i+1) t):=by rw[Fy (by omega),Bt (.inl (by omega))]
  have hB:(fX (cu a b X Y oF) X Y Y.length i (t+1) i).getD (t+1) []=jn X Y (cu a b X Y oF i (t+1)):=by rw[Fy (by omega),Bt (.inr ⟨rfl,aM _⟩)]
  have hC:(fX (cu a b X Y oF) X Y Y.length i (t+1) (i+1)).getD (t+1) []=jn X Y (cu a b X Y oF (i+1) (t+1)):=by rw[Fy (by omega),Bt (.inl (by omega))]
  have hR1:kA (gR (cu a b X Y oF) X Y X.length Y.length i (t+1)) (i+1)=fX (cu a b X Y oF) X Y Y.length i (t+1) (i+1):=Km (by omega);have hR0:kA (gR (cu a b X Y oF) X Y X.length Y.length i (t+1)) i=fX (cu a b X Y oF) X Y Y.length i (t+1) i:=Km (by omega);have hset:∀ v:Jn,v=cu a b X Y oF i t->(gR (cu a b X Y oF) X Y X.length Y.length i (t+1)).set i [.l ((fX (cu a b X Y oF) X Y Y.length i (t+1) i).set t (jn X Y v))]=gR (cu a b X Y oF) X Y X.length Y.length i t:=fun v V=>by
   rw[V,ajQ,ajR]
  have hl1:=Fx (J:=cu a b X Y oF) (X:=X) (Y:=Y) Y.length i (t+1) (i+1);have hl0:=Fx (J:=cu a b X Y oF) (X:=X) (Y:=Y) Y.length i (t+1) i;have hlt:=Kl (J:=cu a b X Y oF) (X:=X) (Y:=Y) X.length Y.length i (t+1);obtain⟨c1,N⟩:=J.xR hi;obtain⟨c3,O⟩:=J.xS (show t<Y.length by omega);have hin:=xQ N O;have hb1:=Kk R (cu a b X Y oF i (t+1)) (cu a b X Y oF (i+1) t) U.mem pA.mem (by have:=U.sH; omega);have ea:a.getD (X.getD i 0) []=gh a X i:=rfl;have eb:b.getD (Y.getD t 0) []=gh b Y t:=rfl;have ep:∀ x:Jn,[G.l (x.1.map (eO X Y)),.i x.2]=jn X Y x:=fun _=>rfl;have hput:∀ r:LG,∀ x:Jn,dV [.list [.I,.I],.I] r 0 (jn X Y x)=jn X Y x:=fun r x=>DR rfl;have y:∀ v:Jn,v=cu a b X Y oF i t->aa (some ((none:Option Nat),(([.s ac,.l a,.s M,.l b,.l [],.i 0,.l ((gR (cu a b X Y oF) X Y X.length Y.length i (t+1)).set i [G.l ((fX (cu a b X Y oF) X Y Y.length i (t+1) i).set t (jn X Y v))]),.i ((X.length+1:Nat):Int),.l (bl X),.l (bl Y),.i oF,.i ((X.length+1:Nat):Int),.i (i:Int),.i ((t:Int)-1)]):LG))) fun o=>o=(none,(([.s ac,.l a,.s M,.l b,.l [],.i 0,.l (gR (cu a b X Y oF) X Y X.length Y.length i t),.i ((X.length+1:Nat):Int),.l (bl X),.l (bl Y),.i oF,.i ((X.length+1:Nat):Int),.i (i:Int),.i ((t:Int)-1)]):LG)):=fun v V=>by
   rw[hset v V];exact aa.some rfl
  unfold AY;dsimp +instances only[go_sem];simp only[aR,cP,e2,show ((i:Int)+1).toNat=i+1 from by omega,hR1,hR0,hl1,hl0,hlt,hA,hB,hC,kh,sw hi,sw (show t<Y.length by omega)];have q0:∀ x:Jn,(gi (jn X Y x) 0).rZ=x.1.map (eO X Y):=fun _=>rfl;have q1:∀ x:Jn,(gi (jn X Y x) 1).iV=x.2:=fun _=>rfl;simp only[q0,q1,ep];dsimp +instances only[go_sem];simp only[aR,ea,eb,N.1,O.1,hb1];have hcan:=Kj oF N O;have hap:=T3 N O;have hO:∀ p∈(i,t)::(cu a b X Y oF (i+1) (t+1)).1,p.1<X.length/\p.2<Y.length:=fun p W=>by
   rcases cq.1 W with rfl|W
   ·exact⟨hi,ht⟩
   ·exact q.mem p W
  have nA:=J.na;have nB:=J.nb;refine aa.p (aa.p (aa.p (aa.p (aa.p (aa.p (aa.p (aa.p (aa.p (aa.p (aa.p ?_))))))))));refine aa.cE rfl ?_;refine aa.test (fun h=>?_) fun h=>?_
  ·have d:cu a b X Y oF i t=if df a b X Y oF i t=true then (if jm (nT a b X Y oF i t) (cu a b X Y oF i (t+1))=true then (nT a b X Y oF i t) else (cu a b X Y oF i (t+1))) else (cu a b X Y oF i (t+1)):=by
    rw[hstep];have h:jm (iw X.length Y.length (df a b X Y oF) (sL a b X Y) i (t+1)) (iw X.length Y.length (df a b X Y oF) (sL a b X Y) (i+1) t)=true:=h;simp only[h,if_true,lz,if_false];rfl
   refine aa.p (aa.p (aa.p (aa.p ?_)));refine aa.cE hcan ?_;refine aa.test (fun k=>?_) fun k=>?_
   ·have k : df a b X Y oF i t = true := k
    rw[iP k]at d;refine aa.p (aa.p (aa.p (aa.p (aa.p (aa.p (aa.p (aa.p (aa.pos (by have:=q.sH; simp only[c8]; (first|rfl|assumption|(simp only[ay,sl]<;>omega))) ?_))))))));refine aa.cE hap ?_;refine aa.pos (dH.2 ⟨by have:=q.s0; show -9223372036854775808<=(cu a b X Y oF (i+1) (t+1)).2+jD (gh a X i) (gh b Y t); omega,by have:=q.s1; show (cu a b X Y oF (i+1) (t+1)).2+jD (gh a X i) (gh b Y t)<=9223372036854775807; omega⟩) (aa.pos (by simp) ?_);refine aa.cE (Kk R (nT a b X Y oF i t) (cu a b X Y oF i (t+1)) hO (U).mem (by have:=q.sH; show (cu a b X Y oF (i+1) (t+1)).1.length+1<=100000; omega)) ?_;refine aa.test (fun hb=>?_) fun hb=>?_
    ·have hb : jm (nT a b X Y oF i t) (cu a b X Y oF i (t + 1)) = true := hb
     rw[iP hb]at d;refine aa.p (aa.p (aa.p (aa.p (aa.p ?_))));exact y (nT a b X Y oF i t) d.symm
    ·have hb : jm (nT a b X Y oF i t) (cu a b X Y oF i (t + 1)) = false := hb
     rw[iN (by rw[hb]; simp)]at d;refine aa.p (aa.p (aa.p (aa.p (aa.p ?_))));exact y _ d.symm
   ·have k : df a b X Y oF i t = false := k
    rw[iN (by rw[k]; simp)]at d;refine aa.p (aa.p (aa.p (aa.p (aa.p ?_))));exact y _ d.symm
  ·have d:cu a b X Y oF i t=if df a b X Y oF i t=true then (if jm (nT a b X Y oF i t) (cu a b X Y oF (i+1) t)=true then (nT a b X Y oF i t) else (cu a b X Y oF (i+1) t)) else (cu a b X Y oF (i+1) t):=by
    rw[hstep];have h:jm (iw X.length Y.length (df a b X Y oF) (sL a b X Y) i (t+1)) (iw X.length Y.length (df a b X Y oF) (sL a b X Y) (i+1) t)=false:=h;simp only[h,if_true,lz,if_false];rfl
   refine aa.p (aa.p (aa.p (aa.p ?_)));refine aa.cE hcan ?_;refine aa.test (fun k=>?_) fun k=>?_
   ·have k : df a b X Y oF i t = true := k
    rw[iP k]at d;refine aa.p (aa.p (aa.p (aa.p (aa.p (aa.p (aa.p (aa.p (aa.pos (by have:=q.sH; simp only[c8]; (first|rfl|assumption|(simp only[ay,sl]<;>omega))) ?_))))))));refine aa.cE hap ?_;refine aa.pos (dH.2 ⟨by have:=q.s0; show -9223372036854775808<=(cu a b X Y oF (i+1) (t+1)).2+jD (gh a X i) (gh b Y t); omega,by have:=q.s1; show (cu a b X Y oF (i+1) (t+1)).2+jD (gh a X i) (gh b Y t)<=9223372036854775807; omega⟩) (aa.pos (by simp) ?_);refine aa.cE (Kk R (nT a b X Y oF i t) (cu a b X Y oF (i+1) t) hO (pA).mem (by have:=q.sH; show (cu a b X Y oF (i+1) (t+1)).1.length+1<=100000; omega)) ?_;refine aa.test (fun hb=>?_) fun hb=>?_
    ·have hb : jm (nT a b X Y oF i t) (cu a b X Y oF (i + 1) t) = true := hb
     rw[iP hb]at d;refine aa.p (aa.p (aa.p (aa.p (aa.p ?_))));exact y (nT a b X Y oF i t) d.symm
    ·have hb : jm (nT a b X Y oF i t) (cu a b X Y oF (i + 1) t) = false := hb
     rw[iN (by rw[hb]; simp)]at d;refine aa.p (aa.p (aa.p (aa.p (aa.p ?_))));exact y _ d.symm
   ·have k : df a b X Y oF i t = false := k
    rw[iN (by rw[k]; simp)]at d;refine aa.p (aa.p (aa.p (aa.p (aa.p ?_))));exact y _ d.symm
def T9(J:JC a b X Y)(R:sJ X Y)(h1:oF<=3600000)(ac d:BY):∀ t:Nat,t<=X.length ->
  a6 AZ [.s ac,.l a,.s d,.l b,.l [],.i 0,.l (gR (cu a b X Y oF) X Y X.length Y.length t 0),.i ((X.length+1:Nat):Int),.l (bl X),.l (bl Y),.i oF,.i ((X.length+1:Nat):Int),.i ((t:Int)-1)] (t+1)
   fun c g=>c=0/\g=[.l [],.i 0,.l (gR (cu a b X Y oF) X Y X.length Y.length 0 0),.i ((X.length+1:Nat):Int),.i ((X.length+1:Nat):Int)]
 | 0,_=>by
  refine a6.stop (x:=0) (aa.toEq ?_) ⟨rfl,rfl⟩;unfold AZ;dsimp +instances only[go_sem];refine aa.neg (by rw[eX]; decide) ?_;simp only[aR];exact aa.some rfl
 | t+1,q=>by
  have nX:=J.nX;have nY:=J.nY;have h:=T9 J R h1 ac d t (by omega);have k:((t+1:Nat):Int)-1=(t:Int):=by omega
  rw[k];refine a6.next (aa.toEq ?_) h
  unfold AZ;dsimp +instances only[go_sem];simp only[aR,kh];refine aa.p (aa.pos (dH.2 ⟨by omega,by omega⟩) ?_);rw[ajS (show cu a b X Y oF t Y.length=([],0) from Ki (.inr (aM _)))];refine aa.loop ((T8 J R h1 ac d (show t<X.length by omega) Y.length (aM _)).to (by omega)) rfl ?_;rintro x g ⟨rfl,rfl⟩;dsimp +instances only[go_sem];simp only[aR];exact aa.pos (dH.2 ⟨by omega,by omega⟩) (aa.some rfl)
def T_(X Y:List Nat)(nX:X.length<=1000)(nY:Y.length<=1000)(A B:LL)(ac d:BY)(oF:Int):∀ r t:Nat,t+r=X.length+1 ->
  a6 AX [.s ac,.l A,.s d,.l B,.l [],.i 0,.l (cB t ([.l (cB (Y.length+1) ([.l [],.i 0]:LG))]:LG)),.i ((X.length+1:Nat):Int),.l (bl X),.l (bl Y),.i oF,.i ((X.length+1:Nat):Int),.i ((X.length+1:Nat):Int),.i (t:Int)] (r+1)
   fun c g=>c=0/\g=[.s ac,.l A,.s d,.l B,.l [],.i 0,.l (cB (X.length+1) ([.l (cB (Y.length+1) ([.l [],.i 0]:LG))]:LG)),.i ((X.length+1:Nat):Int),.l (bl X),.l (bl Y),.i oF,.i ((X.length+1:Nat):Int)]
 | 0,t,h=>by
  refine a6.stop (x:=0) (aa.toEq ?_) ⟨rfl,rfl⟩;have:t=X.length+1:=by omega
  subst this;unfold AX;dsimp +instances only[go_sem];simp only[aR];refine aa.n ?_;exact aa.some rfl
 | r+1,t,h=>by
  have k:=T_ X Y nX nY A B ac d oF r (t+1) (by omega);rw[List.replicate_succ',Int.natCast_add]at k;refine a6.next (aa.toEq ?_) k
  unfold AX;dsimp +instances only[go_sem];simp only[aR,kh,sW,cP,show ((Y.length:Int)+1).toNat=Y.length+1 from by omega];refine aa.p (aa.p (aa.p (aa.p (aa.p (aa.p ?_)))));exact aa.some rfl
def ajV(J:JC a b X Y)(R:sJ X Y)(h1:oF<=3600000)(ac d:BY) :
  ES [.l [[.s ac,.l a]],.l [[.s d,.l b]],.l (bl X),.l (bl Y),.i oF]=some [.l [jn X Y (cu a b X Y oF 0 0)]]:=by
 have nX:=J.nX;have nY:=J.nY;have h:=T9 J R h1 ac d X.length (aM _);rw[<-ajT (fun j=>show cu a b X Y oF X.length j=([],0) from Ki (.inl (aM _)))]at h;refine aa.toEq ?_;unfold ES;dsimp +instances only[go_sem];simp only[kh,sW,show ((X.length:Int)+1).toNat=X.length+1 from by omega];refine aa.p (aa.p (aa.p ?_));have hi:=T_ X Y nX nY a b ac d oF (X.length+1) 0 (by omega);refine aa.loop (hi.to (by omega)) rfl ?_;rintro x g ⟨rfl,rfl⟩;dsimp +instances only[go_sem];simp only[aR,kh];refine aa.p ?_;refine aa.loop (h.to (by omega)) rfl ?_;rintro x g ⟨rfl,rfl⟩;dsimp +instances only[go_sem];have q:(kA (gR (cu a b X Y oF) X Y X.length Y.length 0 0) 0)=fX (cu a b X Y oF) X Y Y.length 0 0 0:=Km (eV _);have k:(fX (cu a b X Y oF) X Y Y.length 0 0 0).getD 0 []=jn X Y (cu a b X Y oF 0 0):=by rw[Fy (by omega),Bt (.inr ⟨rfl,aM _⟩)]
 have v:=Kl (J:=cu a b X Y oF) (X:=X) (Y:=Y) X.length Y.length 0 0;have y:=Fx (J:=cu a b X Y oF) (X:=X) (Y:=Y) Y.length 0 0 0;simp only[aR,q,k,v,y];refine aa.p (aa.p (aa.p (aa.p ?_)));exact aa.some rfl
end
def Fz:BY:=⟨#[32]⟩
def pN(k:GK):BY:=(k.1++Fz)++kf k.2
def gv(k:GK):LG:=[.s (pN k)]
structure Sm (k:GK):Prop where
 lo:0<=k.2
 hi:k.2<=9
 size:k.1.size<=1000
def ajW:((fo 10).all fun a=>decide ((kf (a:Nat)).data.toList=[Lg (48+a)]))=true:=by kernel_rfl
def Ko{n:Int}(h0:0<=n)(h1:n<=9):(kf n).data.toList=[Lg (48+n.toNat)]:=by
 obtain⟨k,rfl⟩:=Lf h0;exact of_decide_eq_true (dN.1 ajW k (gH.2 (by omega)))
def Ua{n:Int}(h0:0<=n)(h1:n<=9):(kf n).size=1:=by
 have h:=congrArg List.length (Ko h0 h1);rw[Array.length_toList]at h;exact h
def Ub{n:Int}(h0:0<=n)(h1:n<=9):mN [.i n]=some [.s (kf n)]:=by
 refine aa.toEq ?_;unfold mN;dsimp +instances only[go_sem];exact aa.pos (by simp only[jM,cK,aK,dT]; omega) (aa.some rfl)
def ajX{k d:GK}(h:Sm k)(h':Sm d)(e:pN k=pN d):k=d:=by
 have g:=congrArg (fun b:BY=>b.data.toList) e;unfold pN at g;simp only[ByteArray.data_append,Array.toList_append,Ko h.lo h.hi,Ko h'.lo h'.hi]at g;obtain⟨q,v⟩:=amN g rfl;obtain⟨y,_⟩:=amN q rfl;refine Prod.ext (ByteArray.ext (amF.1 y)) ?_;have I:Lg (48+k.2.toNat)=Lg (48+d.2.toNat):=by simpa using v
 have M:=congrArg UInt8.toNat I;simp only[UInt8.toNat_ofNat']at M;have:=h.lo;have:=h.hi;have:=h'.lo;have:=h'.hi;omega
def ajY(k:GK):bq [.str] (gv k) (gv k)=true:=by
 show ((pN k).toList==(pN k).toList&&true)=true
 simp
def ajZ{k d:GK}(h1:Sm k)(g:Sm d)(h:k≠d):bq [.str] (gv k) (gv d)=false:=by
 show ((pN k).toList==(pN d).toList&&true)=false
 cases he:(pN k).toList==(pN d).toList with
 |false=>rfl
 |true=>exact(h (ajX h1 g (GR (eq_of_beq he)))).elim
abbrev EV:=GK × List Nat × List Nat
def oV(i:Nat)(e:EV):LG:=[.l [gv e.1],.l [[.l (bl e.2.1),.l (bl e.2.2)]],.i (i:Int),.t true]
def cO:Nat->List EV->LL
 |_,[]=>[]
 |i,e::L=>oV i e::cO (i+1) L
def FA:∀(i:Nat) (L:List EV),(cO i L).length=L.length
 |_,[]=>rfl
 |i,_::L=>by simp[cO,FA (i+1) L]
def Bu:∀(i:Nat) (A B:List EV),cO i (A++B)=cO i A++cO (i+A.length) B
 |i,[],B=>by simp[cO]
 | i,e::A,B=>by
  simp only[mr,cO,Bu (i+1) A B,cn];rw[show i+1+A.length=i+(A.length+1) from by omega]
def nU(k:GK)(p:List Nat × List Nat):List EV->List EV
 | []=>[(k,p)]
 |e::L=>if e.1=k then (k,p)::L else e::nU k p L
def FB(k:GK):∀ L:List EV,(∀ e∈L,e.1≠k)\/∃ A p B,L=A++(k,p)::B/\∀ e∈A,e.1≠k
 | []=>.inl fun e h=>by cases h
 | e::L=>by
  by_cases he:e.1=k
  ·exact .inr ⟨[],e.2,L,by rw[<-he]; rfl,fun e h=>by cases h⟩
  ·rcases FB k L with h | ⟨A, g, B, rfl, h⟩
   ·exact .inl fun x d=>by
     rcases cq.1 d with rfl|d
     ·exact he
     ·exact h x d
   ·exact .inr ⟨e::A,g,B,rfl,fun x d=>by
     rcases cq.1 d with rfl|d
     ·exact he
     ·exact h x d⟩
def Bv{k:GK}(p:List Nat × List Nat):∀{L:List EV},(∀ e∈L,e.1≠k)->nU k p L=L++[(k,p)]
 | [],_=>rfl
 | e::L,h=>by
  rw[nU,iN (h e cX),Bv p fun x d=>h x (dp _ d)];rfl
def Bw{k:GK}(p q:List Nat × List Nat)(B:List EV):∀{A:List EV},(∀ e∈A,e.1≠k)->nU k p (A++(k,q)::B)=A++(k,p)::B
 | [],_=>by rw[lB,nU,iP rfl,lB]
 | e::A,h=>by
  rw[mr,nU,iN (h e cX),Bw p q B fun x d=>h x (dp _ d)];rfl
def Kp{k:GK}(g:Sm k)(R:LL):∀(A:List EV) (i j:Nat),(∀ e∈A,e.1≠k)->(∀ e∈A,Sm e.1)->bW [.str] (gv k) (cO i A++R) j=bW [.str] (gv k) R (j+A.length)
 | [],_,_,_,_=>rfl
 | e::A,i,j,h,q=>by
  rw[cO,mr,bW,show (gi (oV i e) 0).rV=gv e.1 from rfl,ajZ g (q e cX) (Ne.symm (h e cX)),cF,Kp g R A (i+1) (j+1) (fun x d=>h x (dp _ d)) (fun x d=>q x (dp _ d)),cn];congr 1;omega
def aj0{k:GK}(d:Sm k){L:List EV}(h:∀ e∈L,e.1≠k)(g:∀ e∈L,Sm e.1)(i j:Nat):bW [.str] (gv k) (cO i L) j=none:=by
 have:=Kp d [] L i j h g;rw[da]at this;exact this
def Uc{k:GK}(d:Sm k){A:List EV}(h:∀ e∈A,e.1≠k)(g:∀ e∈A,Sm e.1)(i:Nat)(r:LG)(q:(gi r 0).rV=gv k)(R:LL):bW [.str] (gv k) (cO i A++r::R) 0=some (A.length,r):=by
 rw[Kp d (r::R) A i 0 h g,bW,q,ajY,cT,cP]
structure HI (F:GK->List Nat × List Nat) (L:List EV):Prop where
 nd:(L.map (·.1)).Nodup
 sm:∀ e∈L,Sm e.1
 me:∀ e∈L,e.2=F e.1
 all:∀ k,F k≠([],[])->∃ e∈L,e.1=k
def HI.zero:HI (fun _=>([],[])) []:=⟨by simp,by simp,by simp,fun k h=>(h rfl).elim⟩
def HI.congr{F d:GK->List Nat × List Nat}{L:List EV}(h:HI F L)(e:∀ k,F k=d k):HI d L:=by
 rw[<-show F=d from funext e];exact h
def HI.out{F:GK->List Nat × List Nat}{L:List EV}(h:HI F L){k:GK}(h1:∀ e∈L,e.1≠k):F k=([],[]):=by
 by_cases e:F k=([],[])
 ·exact e
 ·obtain ⟨x, d, he⟩ := h.all k e
  exact(h1 x d he).elim
def HI.set{F:GK->List Nat × List Nat}{L:List EV}(h:HI F L){k:GK}(I:Sm k)(p:List Nat × List Nat):HI (fun g=>if g=k then p else F g) (nU k p L):=by
 rcases FB k L with h1|⟨A,q,B,rfl,N⟩
 ·rw [Bv p h1]
  refine⟨?_,fun x d=>?_,fun x d=>?_,fun g v=>?_⟩
  ·rw [jY, Ld]
   refine⟨h.nd,by simp,fun a ha b hb=>?_⟩;obtain⟨e,he,rfl⟩:=dB.1 ha;simp at hb;subst hb;exact h1 e he
  ·rcases db.1 d with d | d
   ·exact h.sm x d
   ·rw [kT.1 d]
    exact I
  ·rcases db.1 d with d | d
   ·rw [iN (h1 x d)]
    exact h.me x d
   ·rw[kT.1 d,iP rfl]
  ·by_cases e : g = k
   ·exact⟨_,pY _ cX,e.symm⟩
   ·rw [iN e] at v
    obtain⟨x,d,y⟩:=h.all g v;exact⟨x,oe _ d,y⟩
 ·rw [Bw p q B N]
  have M:=h.nd;rw[jY,dC]at M;have hB:∀ e∈B,e.1≠k:=fun e he I=>by
   have:=(Ld.1 M).2.1;rw[pW]at this;exact this.1 (I▸dB.2 ⟨e,he,rfl⟩)
  refine⟨?_,fun x d=>?_,fun x d=>?_,fun g v=>?_⟩
  ·rw [jY, dC]
   exact M
  ·rcases db.1 d with d | d
   ·exact h.sm x (oe _ d)
   ·rcases cq.1 d with rfl | d
    ·exact I
    ·exact h.sm x (pY _ (dp _ d))
  ·rcases db.1 d with d | d
   ·rw [iN (N x d)]
    exact h.me x (oe _ d)
   ·rcases cq.1 d with rfl | d
    ·rw[iP rfl]
    ·rw [iN (hB x d)]
     exact h.me x (pY _ (dp _ d))
  ·by_cases e : g = k
   ·exact⟨(k,p),pY _ cX,e.symm⟩
   ·rw [iN e] at v
    obtain⟨x,d,y⟩:=h.all g v;rcases db.1 d with d|d
    ·exact⟨x,oe _ d,y⟩
    ·rcases cq.1 d with rfl | d
     ·exact(e y.symm).elim
     ·exact⟨x,pY _ (dp _ d),y⟩
def Ud{L:List EV}(k:GK)(p:List Nat × List Nat):(nU k p L).length<=L.length+1:=by
 rcases FB k L with h1|⟨A,q,B,rfl,d⟩
 ·rw [Bv p h1]
  simp
 ·rw [Bw p q B d]
  simp
def Ue{F:GK->List Nat × List Nat}{L:List EV}(h:HI F L){k:GK}(N:Sm k) :
  eY [.str] (cO 0 L) (gv k)=true/\mF [.str] (cO 0 L) (gv k) 0=bl (F k).1/\mF [.str] (cO 0 L) (gv k) 1=bl (F k).2 /\
   (∀ y I,tO [.str] (gp [.str] (cO 0 L) (gv k)) (gv k) (bl y) (bl I) L.length=cO 0 (nU k (y,I) L)) /\
   (∀ p,dL [.str] (gp [.str] (cO 0 L) (gv k)) (gv k) L.length=(nU k p L).length):=by
 rcases FB k L with h1|⟨A,d,B,rfl,M⟩
 ·have g := aj0 N h1 h.sm 0 0
  have q:=h.out h1;have v:gp [.str] (cO 0 L) (gv k)=cO 0 L:=by unfold gp; rw[g]
  refine⟨by unfold eY; rw[g],by unfold mF; rw[g,q]; rfl,by unfold mF; rw[g,q]; rfl,fun y I=>?_,fun p=>?_⟩
  ·rw [v, Bv _ h1, Bu, cP]
   unfold tO;rw[g];rfl
  ·rw [v, Bv _ h1]
   unfold dL eM;rw[g];simp
 ·have O : ∀ e ∈ A, Sm e.1 := fun e he => h.sm e (oe _ he)
  have q:d=F k:=h.me (k,d) (by simp);have g:bW [.str] (gv k) (cO 0 (A++(k,d)::B)) 0=some (A.length,oV A.length (k,d)):=by
   rw[Bu,cO,cP];exact Uc N M O 0 (oV A.length (k,d)) rfl _
  have v:gp [.str] (cO 0 (A++(k,d)::B)) (gv k)=cO 0 A++[.l [gv k],.l [[.l (bl d.1),.l (bl d.2)]],.i (A.length:Int),.t false]::cO (A.length+1) B:=by
   unfold gp;rw[g,Bu,cO,cP];exact uI _ _ _ _ _ (FA 0 A)
  have U:=Uc N M O 0 [.l [gv k],.l [[.l (bl d.1),.l (bl d.2)]],.i (A.length:Int),.t false] rfl (cO (A.length+1) B);refine⟨by unfold eY; rw[g]; rfl,by unfold mF; rw[g,<-q]; rfl,by unfold mF; rw[g,<-q]; rfl,fun y I=>?_,fun p=>?_⟩
  ·rw [v, Bw _ d B M, Bu, cO, cP]
   unfold tO;rw[U];simp only[];rw[uI _ _ _ _ _ (FA 0 A)];rfl
  ·rw [v, Bw _ d B M]
   unfold dL eM;rw[U];simp
structure uL (A B:LL):Prop where
 two:iS A B
 sa:∀ z∈A,Sm (bS z)
 sb:∀ z∈B,Sm (bS z)
 la:A.length<=500
 lb:B.length<=500
def Uf(l:LL)(s:BY)(k:GK)(n:Nat):(dM l s k n).length<=n:=by
 unfold dM;have:=amJ (fun i=>gr l s i&&decide (bS (l.getD i [])=k)) (fo n)
 rwa [oZ]at this
def Ug:Fz.size=1:=rfl
def aj1{F:GK->List Nat × List Nat}{L:List EV}(X:LL)(w:BY)(i:Nat) (h:HI (fun k=>(dM X w k i,(F k).2)) L) (g:Sm (bS (X.getD i []))) :
  HI (fun k=>(dM X w k (i+1),(F k).2)) (bif gr X w i then nU (bS (X.getD i [])) (dM X w (bS (X.getD i [])) i++[i],(F (bS (X.getD i []))).2) L else L):=by
 cases d:gr X w i with
 | false =>
  rw[cF];exact h.congr fun k=>by rw[uJ,iN (by rw[d]; simp),da]
 | true =>
  rw[cT];refine(h.set g _).congr fun k=>?_;rw[uJ];by_cases e:k=bS (X.getD i [])
  ·rw[iP e,e,iP ⟨d,rfl⟩]
  ·rw[iN e,iN fun h=>e h.2.symm,da]
def aj2{F:GK->List Nat × List Nat}{L:List EV}(X:LL)(w:BY)(i:Nat) (h:HI (fun k=>((F k).1,dM X w k i)) L) (g:Sm (bS (X.getD i []))) :
  HI (fun k=>((F k).1,dM X w k (i+1))) (bif gr X w i then nU (bS (X.getD i [])) ((F (bS (X.getD i []))).1,dM X w (bS (X.getD i [])) i++[i]) L else L):=by
 cases d:gr X w i with
 | false =>
  rw[cF];exact h.congr fun k=>by rw[uJ,iN (by rw[d]; simp),da]
 | true =>
  rw[cT];refine(h.set g _).congr fun k=>?_;rw[uJ];by_cases e:k=bS (X.getD i [])
  ·rw[iP e,e,iP ⟨d,rfl⟩]
  ·rw[iN e,iN fun h=>e h.2.symm,da]
def aj3{A B:LL}{ac bc:BY}(X:LL)(hX:∀ z∈X,Sm (bS z))(hn:X.length<=1000)(S:LL)(oF:Int){F:GK->List Nat × List Nat}{q:List EV}(V:∀ k,(F k).1=[])(h0:HI F q) :
  lp pG [.s ac,.l A,.s bc,.l B,.l (cO 0 q),.i (q.length:Int),.i oF,.i 0,.l S,.i 2,.i 0,.l X,.i (X.length:Int),.i 0]
   fun c g=>c=0/\∃ L,HI (fun k=>(dM X bc k X.length,(F k).2)) L/\L.length<=q.length+X.length/\g=[.s ac,.l A,.s bc,.l B,.l (cO 0 L),.i (L.length:Int),.i oF,.l S,.i 2,.i 0]:=by
 have r:=wQ (st:=pG) (σ:=List EV) (fun L i=>[.s ac,.l A,.s bc,.l B,.l (cO 0 L),.i (L.length:Int),.i oF,.i 0,.l S,.i 2,.i 0,.l X,.i (X.length:Int),.i (i:Int)]) X (fun L=>(0,[.s ac,.l A,.s bc,.l B,.l (cO 0 L),.i (L.length:Int),.i oF,.l S,.i 2,.i 0]))
  (fun L i=>HI (fun k=>(dM X bc k i,(F k).2)) L/\L.length<=q.length+i) q (by omega) ⟨h0.congr fun k=>Prod.ext (V k) rfl,aM _⟩
  (fun L i z y hi I hm ht => by
   have d:Sm (bS z):=hX z hm;obtain⟨O,hl⟩:=y;have v:=aj1 X bc i O (by rw[I]; exact d);have hlen:=Ud (L:=L) (bS z) (dM X bc (bS z) i++[i],(F (bS z)).2);rw[I]at v;obtain⟨W,a2,a3,M,N⟩:=Ue O d;have N:=N (dM X bc (bS z) i++[i],(F (bS z)).2);have M:=M (dM X bc (bS z) i++[i]) (F (bS z)).2;have hsl:=Uf X bc (bS z) i;have U:bl (dM X bc (bS z) i)++[[G.i (i:Int)]]=bl (dM X bc (bS z) i++[i]):=by unfold bl; rw[jY]; rfl
   unfold pG;dsimp +instances only[go_sem];simp only[aR,I];refine aa.p (aa.p (aa.pos rfl ?_));refine aa.test (fun h=>?_) fun h=>?_
   ·have h:gr X bc i=true:=by
     unfold gr;rw[I];exact h
    rw[h,cT]at v;refine aa.pos (show dS ((bS z).1.size+1) 9223372036854775807=true by have:=d.size; rw[s7]; omega) ?_;refine aa.call (P:=fun g=>g=[.s (kf (bS z).2)]) (aa.eq (Ub d.lo d.hi)) ?_;rintro _ rfl;refine aa.pos (show dS (((bS z).1++Fz).size+(kf (bS z).2).size) 9223372036854775807=true by have:=d.size; rw[s7,amO,Ug,Ua d.lo d.hi]; omega) ?_;dsimp +instances only[go_sem];have ek:([.s (((gi z 2).sV++(⟨#[32]⟩:BY))++kf (bS z).2)]:LG)=gv (bS z):=rfl;simp only[ek];rw[W,a2,a3];simp only[U,M,N];refine aa.pos rfl (aa.pos rfl (aa.pos rfl (aa.pos ?_ (aa.pos rfl (aa.pos rfl (aa.pos ?_ (aa.p (aa.some ⟨_,rfl,v,by omega⟩))))))))
    ·rw [i_, jI, dT, kh]
     omega
    ·rw [i_, i_]
     rfl
   ·have h:gr X bc i=false:=by
     unfold gr;rw[I];exact h
    rw[h,cF]at v;exact aa.p (aa.some ⟨L,rfl,v,by omega⟩))
  (fun L y => by
   unfold pG;dsimp +instances only[go_sem];simp only[aR];exact aa.n (aa.some rfl))
 refine r.mono ?_;rintro c g ⟨L,y,rfl,rfl⟩;exact⟨rfl,L,y.1,y.2,rfl⟩
def aj4{A B:LL}{ac bc:BY}(X:LL)(hX:∀ z∈X,Sm (bS z))(hn:X.length<=1000)(S:LL)(oF:Int){F:GK->List Nat × List Nat}{q:List EV}(V:∀ k,(F k).2=[])(h0:HI F q) :
  lp pG [.s ac,.l A,.s bc,.l B,.l (cO 0 q),.i (q.length:Int),.i oF,.i 1,.l S,.i 2,.i 1,.l X,.i (X.length:Int),.i 0]
   fun c g=>c=0/\∃ L,HI (fun k=>((F k).1,dM X ac k X.length)) L/\L.length<=q.length+X.length/\g=[.s ac,.l A,.s bc,.l B,.l (cO 0 L),.i (L.length:Int),.i oF,.l S,.i 2,.i 1]:=by
 have r:=wQ (st:=pG) (σ:=List EV) (fun L i=>[.s ac,.l A,.s bc,.l B,.l (cO 0 L),.i (L.length:Int),.i oF,.i 1,.l S,.i 2,.i 1,.l X,.i (X.length:Int),.i (i:Int)]) X (fun L=>(0,[.s ac,.l A,.s bc,.l B,.l (cO 0 L),.i (L.length:Int),.i oF,.l S,.i 2,.i 1]))
  (fun L i=>HI (fun k=>((F k).1,dM X ac k i)) L/\L.length<=q.length+i) q (by omega) ⟨h0.congr fun k=>Prod.ext rfl (V k),aM _⟩
  (fun L i z y hi I hm ht => by
   have d:Sm (bS z):=hX z hm;obtain⟨O,hl⟩:=y;have v:=aj2 X ac i O (by rw[I]; exact d);have hlen:=Ud (L:=L) (bS z) ((F (bS z)).1,dM X ac (bS z) i++[i]);rw[I]at v;obtain⟨W,a2,a3,M,N⟩:=Ue O d;have N:=N ((F (bS z)).1,dM X ac (bS z) i++[i]);have M:=M (F (bS z)).1 (dM X ac (bS z) i++[i]);have hsl:=Uf X ac (bS z) i;have U:bl (dM X ac (bS z) i)++[[G.i (i:Int)]]=bl (dM X ac (bS z) i++[i]):=by unfold bl; rw[jY]; rfl
   unfold pG;dsimp +instances only[go_sem];simp only[aR,I];refine aa.p (aa.p (aa.pos rfl ?_));refine aa.test (fun h=>?_) fun h=>?_
   ·have h:gr X ac i=true:=by
     unfold gr;rw[I];exact h
    rw[h,cT]at v;refine aa.pos (show dS ((bS z).1.size+1) 9223372036854775807=true by have:=d.size; rw[s7]; omega) ?_;refine aa.call (P:=fun g=>g=[.s (kf (bS z).2)]) (aa.eq (Ub d.lo d.hi)) ?_;rintro _ rfl;refine aa.pos (show dS (((bS z).1++Fz).size+(kf (bS z).2).size) 9223372036854775807=true by have:=d.size; rw[s7,amO,Ug,Ua d.lo d.hi]; omega) ?_;dsimp +instances only[go_sem];have ek:([.s (((gi z 2).sV++(⟨#[32]⟩:BY))++kf (bS z).2)]:LG)=gv (bS z):=rfl;simp only[ek];rw[W,a2,a3];simp only[U,M,N];refine aa.pos rfl (aa.pos rfl (aa.neg rfl (aa.pos ?_ (aa.pos rfl (aa.neg rfl (aa.pos ?_ (aa.p (aa.some ⟨_,rfl,v,by omega⟩))))))))
    ·rw [i_, jI, dT, kh]
     omega
    ·rw [i_, i_]
     rfl
   ·have h:gr X ac i=false:=by
     unfold gr;rw[I];exact h
    rw[h,cF]at v;exact aa.p (aa.some ⟨L,rfl,v,by omega⟩))
  (fun L y => by
   unfold pG;dsimp +instances only[go_sem];simp only[aR];exact aa.n (aa.some rfl))
 refine r.mono ?_;rintro c g ⟨L,y,rfl,rfl⟩;exact⟨rfl,L,y.1,y.2,rfl⟩
def sM(A B:LL)(ac d:BY)(k:GK):List Nat × List Nat:=(c_ A d k,c_ B ac k)
def aj5{A B:LL}(h:uL A B)(ac d:BY)(oF:Int) :
  lp pH [.s ac,.l A,.s d,.l B,.l [],.i 0,.i oF,.l [[.s ac,.l A],[.s d,.l B]],.i 2,.i 0]
   fun c g=>c=0/\∃ L,HI (sM A B ac d) L/\L.length<=1000/\g=[.s ac,.l A,.s d,.l B,.l (cO 0 L),.i (L.length:Int),.i oF]:=by
 have na:=h.la;have nb:=h.lb;have s0:aa (pH [.s ac,.l A,.s d,.l B,.l [],.i 0,.i oF,.l [[.s ac,.l A],[.s d,.l B]],.i 2,.i 0]) fun o =>
   ∃ L,HI (fun k=>(c_ A d k,[])) L/\L.length<=500/\o=(none,[.s ac,.l A,.s d,.l B,.l (cO 0 L),.i (L.length:Int),.i oF,.l [[.s ac,.l A],[.s d,.l B]],.i 2,.i 1]):=by
  unfold pH;dsimp +instances only[go_sem];refine aa.pos rfl (aa.pos rfl ?_);refine aa.loop (aj3 (A:=A) (B:=B) (ac:=ac) (bc:=d) A h.sa (by omega) [[.s ac,.l A],[.s d,.l B]] oF (F:=fun _=>([],[])) (fun _=>rfl) HI.zero) (by first|rfl|simp) ?_;rintro c g ⟨rfl,L,v,y,rfl⟩;dsimp +instances only[go_sem];simp only[aR];exact aa.pos rfl (aa.some ⟨L,v,by simp at y; omega,rfl⟩)
 have s1:∀ L,HI (fun k=>(c_ A d k,[])) L->L.length<=500->aa (pH [.s ac,.l A,.s d,.l B,.l (cO 0 L),.i (L.length:Int),.i oF,.l [[.s ac,.l A],[.s d,.l B]],.i 2,.i 1]) fun o =>
   ∃ L,HI (sM A B ac d) L/\L.length<=1000/\o=(none,[.s ac,.l A,.s d,.l B,.l (cO 0 L),.i (L.length:Int),.i oF,.l [[.s ac,.l A],[.s d,.l B]],.i 2,.i 2]):=fun L v y=>by
  unfold pH;dsimp +instances only[go_sem];simp only[aR];refine aa.pos rfl (aa.pos rfl ?_);refine aa.loop (aj4 (A:=A) (B:=B) (ac:=ac) (bc:=d) B h.sb (by omega) [[.s ac,.l A],[.s d,.l B]] oF (F:=fun k=>(c_ A d k,[])) (fun _=>rfl) v) (by first|rfl|simp) ?_;rintro c g ⟨rfl,q,I,M,rfl⟩;dsimp +instances only[go_sem];simp only[aR];exact aa.pos rfl (aa.some ⟨q,I,by omega,rfl⟩)
 obtain⟨o,h0,L,v,y,rfl⟩:=s0;obtain⟨o,h1,q,I,M,rfl⟩:=s1 L v y;have s2:pH [.s ac,.l A,.s d,.l B,.l (cO 0 q),.i (q.length:Int),.i oF,.l [[.s ac,.l A],[.s d,.l B]],.i 2,.i 2]=some (some 0,[.s ac,.l A,.s d,.l B,.l (cO 0 q),.i (q.length:Int),.i oF]):=by
  refine aa.toEq ?_;unfold pH;dsimp +instances only[go_sem];simp only[aR];exact aa.neg rfl (aa.some rfl)
 have key:a6 pH [.s ac,.l A,.s d,.l B,.l [],.i 0,.i oF,.l [[.s ac,.l A],[.s d,.l B]],.i 2,.i 0] 3 fun c g=>c=0/\∃ L,HI (sM A B ac d) L/\L.length<=1000/\g=[.s ac,.l A,.s d,.l B,.l (cO 0 L),.i (L.length:Int),.i oF]:=a6.next h0 (a6.next h1 (a6.stop s2 ⟨rfl,q,I,M,rfl⟩))
 exact key.to (by omega)
def FC(r:LG):List Nat × List Nat:=((gi (gi r 1).rV 0).rZ.map fun x=>(gi x 0).iV.toNat,(gi (gi r 1).rV 1).rZ.map fun x=>(gi x 0).iV.toNat)
def Uh:∀(i:Nat) (L:List EV) (r:LG),r∈cO i L->∃(j:Nat) (e:EV),e∈L/\r=oV j e
 |_,[],_,h=>by cases h
 | i,e::L,r,h=>by
  rcases cq.1 h with rfl|h
  ·exact⟨i,e,cX,rfl⟩
  ·obtain ⟨j, d, h1, g⟩ := Uh (i + 1) L r h
   exact⟨j,d,dp _ h1,g⟩
def Ui(j:Nat)(e:EV):FC (oV j e)=e.2:=by
 have key:∀ X:List Nat,(bl X).map (fun x=>(gi x 0).iV.toNat)=X:=fun X=>by
  unfold bl;rw[n9]
  conv=>rhs; rw[<-List.map_id X]
  exact nc fun x _=>aR x
 exact Prod.ext (key e.2.1) (key e.2.2)
def Uj{β:Type}(f:List Nat × List Nat->β):∀(i:Nat) (L:List EV),(cO i L).map (fun r=>f (FC r))=L.map fun e=>f e.2
 |_,[]=>rfl
 | i,e::L=>by
  simp only[cO,dC,Uj f (i+1) L,Ui]
def Uk:∀(i:Nat) (L:List EV),(cO i L).map fC=(fo L.length).map (i+·)
 |_,[]=>rfl
 | i,e::L=>by
  simp only[cO,dC,Uk (i+1) L,cn,amK,n9];rw[show fC (oV i e)=i from by simp[fC,oV,gi,G.iV]];congr 1;refine nc fun x _=>?_;simp only[F3];omega
def aj6(L:List EV):qz (cO 0 L) L.length=true:=by
 have hb:(cO 0 L).map fC=fo L.length:=by
  rw[Uk];simp
 unfold qz;rw[hb,aK];refine⟨J6 _ amL,?_⟩;rw[dN];intro r d;have:fC r∈(cO 0 L).map fC:=dB.2 ⟨r,d,rfl⟩;rw[hb,gH]at this;simpa using this
def Ul:∀(i:Nat) (L:List EV),rT (cO i L)=true
 |_,[]=>rfl
 | i,e::L=>by
  have:=Ul (i+1) L;unfold rT at this|-;rw[cO,oa,this];rfl
def ya(A B:LL)(oF:Int)(p:List Nat × List Nat):LL:=(Bi A B oF p.1 p.2).map (eO p.1 p.2)
def Um{A B:LL}{ac d:BY}{oF:Int}{k:GK}:ya A B oF (sM A B ac d k)=gj A B ac d oF k:=rfl
def aj7{A B:LL}(h:uL A B){ac bc:BY}{oF:Int}{k:GK}:(gj A B ac bc oF k).length<=1000:=by
 unfold gj;rw[c8];exact kR (Tl _ _ _ _ _) (h.two.jc ac bc k).nX
def Un{A B:LL}(h:uL A B)(ac v:BY){oF:Int}(h1:oF<=3600000)(cL:Nat){L:List EV}(I:HI (sM A B ac v) L):∀(q out:LL),(∀ r∈q,r∈cO 0 L)->out.length+1000*q.length<=1048576-1 ->
  gf EU (fun d=>(gi d 6).iV.toNat) q [.s ac,.l A,.s v,.l B,.l out,.i oF,.i (cL:Int)] =
   some [.s ac,.l A,.s v,.l B,.l (out++(q.map fun r=>ya A B oF (FC r)).flatten),.i oF,.i (cL:Int)]
 | [],out,_,_=>by simp[gf]
 | r::q,out,M,O=>by
  simp only[cn]at O;obtain⟨j,e,he,rfl⟩:=Uh 0 _ r (M r cX);have y:=I.me e he;have J:=h.two.jc ac v e.1;have R:sJ (c_ A v e.1) (c_ B ac e.1):=⟨Fk A v e.1,Fk B ac e.1⟩
  have hlen:=aj7 h (ac:=ac) (bc:=v) (oF:=oF) (k:=e.1);have U:=ajV J R h1 ac v;have N:(cu A B (c_ A v e.1) (c_ B ac e.1) oF 0 0).1.map (eO (c_ A v e.1) (c_ B ac e.1))=gj A B ac v oF e.1:=by
   rw[T7 J h1];rfl
  have st:EU (oV j e) [.s ac,.l A,.s v,.l B,.l out,.i oF,.i (cL:Int)]=some [.s ac,.l A,.s v,.l B,.l (out++gj A B ac v oF e.1),.i oF,.i (cL:Int)]:=by
   have V:(gi (gi (oV j e) 1).rV 0).rZ=bl (c_ A v e.1):=by
    show bl e.2.1=_
    rw[y];rfl
   have W:(gi (gi (oV j e) 1).rV 1).rZ=bl (c_ B ac e.1):=by
    show bl e.2.2=_
    rw[y];rfl
   refine aa.toEq ?_;unfold EU;rw[V,W];dsimp +instances only[go_sem];refine aa.call (P:=fun g=>g=[.l [jn (c_ A v e.1) (c_ B ac e.1) (cu A B (c_ A v e.1) (c_ B ac e.1) oF 0 0)]]) (aa.eq U) ?_;rintro _ rfl;dsimp +instances only[go_sem];have e3:(gi (jn (c_ A v e.1) (c_ B ac e.1) (cu A B (c_ A v e.1) (c_ B ac e.1) oF 0 0)) 0).rZ=gj A B ac v oF e.1:=N;simp only[aR,e3];exact aa.pos (by
    show ((aG out.length out.length)&&decide (out.length+(gj A B ac v oF e.1).length<=1048576))=true
    rw[i_,jI,dT];omega) (aa.pos (by rw[i_]; rfl) (aa.some rfl))
  rw[Tp st rfl,Un h ac v h1 cL I q _ (fun x hx=>M x (dp _ hx)) (by rw[fu]; omega)];rw[dC,pT,Ui,y,Um,gG]
def aj8:uo xH Bj mf:=by
 rintro _ _ ⟨i,k,rfl,h1,q⟩ ⟨d,v,rfl,y,I⟩;have g:∀ n:Int,r7 [.i n]=some [.i (if n<0 then -1 else if 0<n then 1 else 0)]:=fun n=>by
  refine aa.toEq ?_;unfold r7;dsimp +instances only[go_sem];refine aa.test (fun h=>?_) fun h=>?_
  ·rw [cK, dT] at h
   rw[iP h];exact aa.some rfl
  ·rw [cK, dF] at h
   rw[iN h];refine aa.test (fun h=>?_) fun h=>?_
   ·rw [cK, dT] at h
    rw[iP h];exact aa.some rfl
   ·rw [cK, dF] at h
    rw[iN h];exact aa.some rfl
 refine⟨if (i:Int)-(d:Int)<0 then -1 else if 0<(i:Int)-(d:Int) then 1 else 0,?_,?_⟩
 ·refine aa.toEq ?_
  unfold xH;dsimp +instances only[go_sem];refine aa.pos (dH.2 ⟨by omega,by omega⟩) ?_;refine aa.cE (g _) ?_;exact aa.some rfl
 ·show (if (i : Int) - (d : Int) < 0 then (-1 : Int) else if 0 < (i : Int) - (d : Int) then 1 else 0) < 0 ↔ fL (i : Int) (d : Int) < 0
  rw[uG];split
  ·omega
  ·split<;>omega
def aj9{A B:LL}(h:iS A B)(ac d:BY)(oF:Int){out:LL}(g:out.Perm (gu A B ac d oF))(hn:out.length<100000):ET [.l out]=some [.l (jV A B ac d oF)]:=by
 have h1:=Px (C:=xH) (Q:=Bj) aj8 (Bk.mono fun _ _=>trivial) out (fun y k=>xW h y (g.mem_iff.1 k)) hn fun a ha b hb=>Fp h ac d oF a (g.mem_iff.1 ha) b (g.mem_iff.1 hb);unfold ET;rw[h1];have e:cR (bK mf) (gu A B ac d oF)=cR (bK mf) out:=Pu Bk g.symm (fun _ _=>trivial) (Fp h ac d oF);rw[<-e];rfl
def aj_{A B:LL}(h:iS A B)(ac g:BY)(oF:Int):(gu A B ac g oF).length<=1000:=by
 have na:=h.na;have I:((gu A B ac g oF).map fun r=>(gi r 0).iV.toNat).Nodup:=by
  unfold Le;rw[yy];refine(Fo h ac g oF).imp_of_mem fun {x y} d N M he=>M ?_;obtain⟨i,k,rfl,_⟩:=xW h x d;obtain⟨q,U,rfl,_⟩:=xW h y N;have he:((i:Int)).toNat=((q:Int)).toNat:=he;show (i:Int)=(q:Int)
  omega
 have v:((gu A B ac g oF).map fun r=>(gi r 0).iV.toNat) ⊆ fo A.length:=by
  intro x d;obtain⟨r,O,rfl⟩:=dB.1 d;obtain⟨k,i,j,rfl,h1,_⟩:=Fm h O;rw[gH];exact(oT.1 h1).1
 have:=Bl A.length _ I fun x d=>gH.1 (v d);rw[c8]at this;omega
def aj'{A B:LL}{ac d:BY}{oF:Int}{L:List EV}(h:HI (sM A B ac d) L):((L.map fun e=>ya A B oF e.2).flatten).Perm (gu A B ac d oF):=by
 have v:=GI.to A d A.length;have y:(L.map fun e=>ya A B oF e.2)=(L.map (·.1)).map fun k=>gj A B ac d oF k:=by
  rw[n9];exact nc fun e he=>by
   rw[h.me e he];rfl
 have I:(gF A d).map (fun e=>gj A B ac d oF e.1)=((gF A d).map (·.1)).map fun k=>gj A B ac d oF k:=by
  rw[n9];rfl
 unfold gu;rw[y,I];have drop:∀ l:List GK,(l.map fun k=>gj A B ac d oF k).flatten=((l.filter fun k=>decide (c_ A d k≠[])).map fun k=>gj A B ac d oF k).flatten:=by
  intro l
  induction l with
  |nil=>rfl
  | cons k l M =>
   rw[dC,pT,M,F5];by_cases q:c_ A d k=[]
   ·rw [iN (by simp [q])]
    have:gj A B ac d oF k=[]:=by
     rw[<-Um];unfold sM;rw[q];rfl
    rw[this,lB]
   ·rw[iP (by simp[q]),dC,pT]
 rw[drop,drop ((gF A d).map (·.1))];refine((?_:List.Perm _ _).map _).flatten;refine(List.perm_ext_iff_of_nodup (h.nd.filter _) (v.nd.filter _)).2 fun k=>?_;rw[s9,s9];refine⟨fun⟨_,g⟩=>⟨?_,g⟩,fun⟨_,g⟩=>⟨?_,g⟩⟩
 ·have g : c_ A d k ≠ [] := of_decide_eq_true g
  obtain⟨e,he,rfl⟩:=v.all k g;exact dB.2 ⟨e,he,rfl⟩
 ·have g : c_ A d k ≠ [] := of_decide_eq_true g
  obtain⟨e,he,rfl⟩:=h.all k fun e=>g (congrArg Prod.fst e);exact dB.2 ⟨e,he,rfl⟩
def aka{A B:LL}(h:uL A B)(ac d:BY){oF:Int}(h1:oF<=3600000){L:List EV}(q:HI (sM A B ac d) L)(N:L.length<=1000) :
  JD [.s ac,.l A,.s d,.l B,.l (cO 0 L),.i (L.length:Int),.l [],.i oF]=some (some 0,[.l (jV A B ac d oF)]):=by
 show qA EW EX (cO 0 L) ((L.length:Int).toNat) _=_
 rw[aR];refine Pv (aj6 _) fun b p g=>⟨rfl,?_⟩
 have M:p.length<=1000:=by
  have:=g.length_eq;rw[FA]at this;omega
 have k:((p.map fun r=>ya A B oF (FC r)).flatten).Perm (gu A B ac d oF):=by
  refine List.Perm.trans ?_ (aj' q);rw[<-Uj (fun x=>ya A B oF x) 0 L];exact(g.map _).flatten
 have I:=aj_ h.two ac d oF;refine⟨_,Un h ac d h1 b q p [] (fun r v=>g.mem_iff.1 v) (by simp; omega),?_⟩;rw[lB];refine aa.toEq ?_;unfold EX;dsimp +instances only[go_sem];have y:=k.length_eq;refine aa.l4 (aa.eq (aj9 h.two ac d oF k (by omega))) (by simp) ?_;rintro _ rfl;dsimp +instances only[go_sem];refine aa.pos ?_ (aa.some rfl);rw[y];unfold jV;rw[uj,i_];rfl
def Uo{A B:LL}(h:uL A B)(ac d:BY){oF:Int}(h1:oF<=3600000):A1 [.l [[.s ac,.l A]],.l [[.s d,.l B]],.i oF]=some [.l (jV A B ac d oF)]:=by
 refine aa.toEq ?_;unfold A1;dsimp +instances only[go_sem];refine aa.loop (aj5 h ac d oF) (by first|rfl|simp) ?_;rintro _ _ ⟨rfl,L,k,q,rfl⟩;dsimp +instances only[go_sem];simp only[aR];refine aa.pos (by rw[Ul]; rfl) ?_;refine aa.tail (P:=fun u g=>u=0/\g=[.l (jV A B ac d oF)]) ⟨_,aka h ac d h1 k q,0,rfl,rfl,rfl⟩ (by first|rfl|simp) ?_;rintro _ _ ⟨rfl,rfl⟩;dsimp +instances only[go_sem];exact aa.pos (by simp) (aa.some rfl)
end
end Go.Proofs.iQ
