/-
 What is proved here: what the methods of the stream give on data. No condition.
-/
import Derived.Test.YtpgfflhcmodgdaaGreatDoorML6
import Derived.Test.YtpgfflhcmodgdaaGreatDoorME
set_option linter.all false
set_option backward.dsimp.instances true
open Array renaming toList_inj->ZP
open Bool renaming and_true->jQ,and_eq_true->aO,true_and->iD,eq_iff_iff->s_,or_false->rH
open ByteArray renaming size_append->ZS
open Go.ByteArray renaming toList_eq->ta
open Go.Lib renaming compareBytes->gA
open Int renaming toNat_natCast->a7,tmod->Ew,tdiv->Jt,tmod_lt_of_pos->asp,tmod_eq_emod_of_nonneg->asq,mul_nonneg->asr,le_refl->Ey,le_trans->OZ,eq_ofNat_of_zero_le->O1
open List renaming length_cons->cz,append_nil->dY,length_map->cP,getElem_of_mem->pK,getElem?_eq_getElem->cB,getElem?_set_self->cG,getElem?_set->gh,getD_eq_getElem?_getD->dc,getElem?_map->dw,map_cons->e9,cons_append->mX,ext_getElem?->kg,length_set->nV,length_append->fV,all_eq_true->eD,mem_cons->c_,map_map->oI,nil_append->mY,mem_append->dm,replicate->cn,flatten_cons->El,length_range->sX,mem_flatten->OJ,mem_cons_self->dx,all_cons->pM,mem_cons_of_mem->dh,getElem?_append_right->lf,map_append->kj,nodup_cons->oL,mem_map->dS,range->fm,mem_append_left->A5,map_congr_left->oM,mem_range->iQ,length_nil->km,mem_filter->mn,not_mem_nil->pQ,getElem?_range->Jo,getElem_mem->vp,mem_append_right->Es,filter_cons->Jp,range_succ->ZK,pairwise_map->qA,pairwise_iff_getElem->Et,length_replicate->vt,pairwise_cons->nf,any_cons->Ex,eq_replicate_iff->O0,foldl_append->Ju,filter_nil->rI,nodup_append->Ez,length_filter_le->vu,Nodup->Jv,range_succ_eq_map->asu,nodup_range->asv,append_inj'->asz
open List.Pairwise renaming take->ata
open Nat renaming le_refl->aV,le_trans->mU,zero_le->fy,lt_or_ge->nU,zero_add->dj,beq->aD,sub_self->oK,ble->dv,ble_eq->ml,beq_refl->jD,exists_eq_add_of_le->ast,le_succ_of_le->ZQ,le_of_not_lt->asw
open Option renaming map_some->ki
open UInt8 renaming le_antisymm->OX,not_lt->xL,lt_irrefl->ass,ofNat->O2
namespace Go.Proofs.jI
open Go Go.AL Go.Proofs
variable {r:LG} {s:BY}
noncomputable section
theorem Nz(x n:Int)(h0:1<=n)(h1:n<=1099511627776):aa (zh [.i x,.i n]) fun g=>∃v,g=[.i v]/\0<=v/\v<n:=by
 unfold zh
 (dsimp only[go_sem])
 have ha:=asp x (by omega:0<n);have hb:=Int.lt_tmod_of_pos x (by omega:0<n);(repeat first|refine aa.p ?_|refine aa.n ?_);refine aa.test (fun h=>?_) fun h=>?_
 ·simp only[cS,dT]at h
  (repeat first|refine aa.p ?_|refine aa.n ?_);exact aa.some ⟨_,rfl,ab,ab⟩
 simp_all[cS,aa.some]
theorem xf(l:LL)(a n:Int)(ha:0<=a)(N:a<=1000000)(h0:1<=n)(h1:n<=1099511627776) :
  aa (ra [.l l,.i a,.i n]) fun g=>∃v,g=[.l l,.i (a+1),.i v]/\0<=v/\v<n:=by
 unfold ra
 (dsimp only[go_sem])
 have d:a+1-1=a:=ab;simp only[d];by_cases O:l.length=0
 ·(repeat first|refine aa.p ?_|refine aa.n ?_)
  refine aa.call (Nz _ n h0 h1) ?_;rintro _ ⟨v,rfl,h,k⟩
  (dsimp only[go_sem])
  grind[aa.some]
 ·have y:(0:Int)<(l.length:Int) :=ab
  have I:0<=Jt a l.length:=Int.tdiv_nonneg ha ab;have U:Jt a l.length<=a:=by
   rw[Int.tdiv_eq_ediv_of_nonneg ha]
   simp_all[Int.ediv_le_self]
  have W:0<=Ew a l.length:=by
   rw[asq ha];exact Int.emod_nonneg _ ab
  have m1:Ew a l.length<l.length:=asp a y;have m2:Ew a l.length<=a:=by
   rw[asq ha];have:=Int.mul_ediv_add_emod a l.length;have M:0<=(l.length:Int)*(a / l.length):=asr ab (Int.ediv_nonneg ha ab);omega
  generalize hq:Jt a l.length=q at *;generalize hr:Ew a l.length=r at *;have p0:0<=q*(7919+r):=asr I ab;have p1:q*(7919+r)<=1000000*2000000:=Int.mul_le_mul ab ab ab ab;generalize hz:q*(7919+r)=z at *;(repeat first|refine aa.p ?_|refine aa.n ?_);refine aa.call (Nz _ 1073741824 ab ab) ?_;rintro _ ⟨u,rfl,h,k⟩
  (dsimp only[go_sem])
  (repeat first|refine aa.p ?_|refine aa.n ?_);refine aa.call (Nz _ n h0 h1) ?_;rintro _ ⟨v,rfl,M,h5⟩
  (dsimp only[go_sem])
  grind[aa.some]
theorem NA(l:LL)(a lo hi:Int)(ha:0<=a)(d:a<=1000000)(h0:lo<=hi)(h1 : -1000000000<=lo)(h:hi<=1000000000) :
  aa (zi [.l l,.i a,.i lo,.i hi]) fun g=>∃v,g=[.l l,.i (a+1),.i v]/\lo<=v/\v<=hi:=by
 unfold zi
 (dsimp only[go_sem])
 (repeat first|refine aa.p ?_|refine aa.n ?_);refine aa.call (xf l a _ ha d ab ab) ?_;rintro _ ⟨v,rfl,k,y⟩
 (dsimp only[go_sem])
 (repeat first|refine aa.p ?_|refine aa.n ?_);exact aa.some ⟨_,rfl,ab,ab⟩
theorem as3{l:LL}{v:Int}(h0:0<=v)(h1:v<l.length):l.getD v.toNat []∈l:=by
 have:v.toNat<l.length:=ab;rw[dc,cB this];exact vp this
theorem Ws(P:Int->Prop)(l:LL)(a:Int)(d:LL)(ha:0<=a)(h:a<=1000000)(h0:1<=d.length)(h1:d.length<=1000000)(k:∀ x∈d,P (gi x 0).iV) :
  aa (nF [.l l,.i a,.l d]) fun g=>∃v,g=[.l l,.i (a+1),.i v]/\P v:=by
 unfold nF
 (dsimp only[go_sem])
 refine aa.call (xf l a _ ha h ab ab) ?_;rintro _ ⟨v,rfl,y,I⟩
 (dsimp only[go_sem])
 (repeat first|refine aa.p ?_|refine aa.n ?_)
 grind[aa.some]
theorem Wt(P:BY->Prop)(l:LL)(a:Int)(d:LL)(ha:0<=a)(h:a<=1000000)(h0:1<=d.length)(h1:d.length<=1000000)(k:∀ x∈d,P (gi x 0).sV) :
  aa (kB [.l l,.i a,.l d]) fun g=>∃v,g=[.l l,.i (a+1),.s v]/\P v:=by
 unfold kB
 (dsimp only[go_sem])
 refine aa.call (xf l a _ ha h ab ab) ?_;rintro _ ⟨v,rfl,y,I⟩
 (dsimp only[go_sem])
 (repeat first|refine aa.p ?_|refine aa.n ?_)
 grind[aa.some]
theorem DM(l:LL)(a n:Int)(ha:0<=a)(d:a<=1000000)(h0:1<=n)(h1:n<=1000000) :
  aa (uA [.l l,.i a,.i n]) fun g=>∃b,g=[.l l,.i (a+1),.t b]:=by
 unfold uA
 (dsimp only[go_sem])
 refine aa.call (xf l a _ ha d ab ab) ?_;rintro _ ⟨v,rfl,h,k⟩;exact aa.some ⟨_,rfl⟩
theorem Ip(l:LL)(a lo hi:Int)(ha:0<=a)(M:a<=900000)(h0:lo<=hi)(h1 : -1000000000<=lo)(h:hi<=1000000000) :
  aa (wZ [.l l,.i a,.i lo,.i hi]) fun g=>∃v,g=[.l l,.i (a+2),.i v]/\-1099511627776<=v/\(v<=1000000001\/v=1099511627776):=by
 unfold wZ
 (dsimp only[go_sem])
 have k:a+1+1=a+2:=ab;refine aa.call (DM l a 12 ha ab ab ab) ?_;rintro _ ⟨b,rfl⟩
 (dsimp only[go_sem])
 cases b with
 |true=>
  (repeat first|refine aa.p ?_|refine aa.n ?_);refine aa.call (Ws (fun v=>-1099511627776<=v/\(v<=1000000001\/v=1099511627776)) l (a+1) _ ab ab au au ?_) ?_
  ·intro x d
   simp only[c_,pQ,or_false]at d;rcases d with rfl|rfl|rfl|rfl|rfl|rfl<;>(dsimp only[go_sem])<;>omega
  ·rintro _ ⟨v,rfl,y,I⟩
   (dsimp only[go_sem])
   grind[aa.some]
 |false=>
  (repeat first|refine aa.p ?_|refine aa.n ?_);refine aa.call (NA l (a+1) lo hi ab ab h0 h1 h) ?_;rintro _ ⟨v,rfl,y,I⟩
  (dsimp only[go_sem])
  exact aa.some ⟨v,by rw[k],ab,ab⟩
def pt(L:List BY)(s:BY):Bool:=L.any fun x=>zb x s
theorem qo{L:List BY}(h:pt L s=true):s∈L:=by
 obtain⟨x,d,he⟩:=List.any_eq_true.1 h
 grind[Te]
theorem sI(lo hi:Int)(l:LL)(a:Int)(d:LL)(ha:0<=a)(h:a<=1000000)(h0:(dv 1 d.length&&dv d.length 1000000)=true) (k:(d.all fun x=>bq lo (gi x 0).iV&&bq (gi x 0).iV hi)=true) :
  aa (nF [.l l,.i a,.l d]) fun g=>∃v,g=[.l l,.i (a+1),.i v]/\lo<=v/\v<=hi:=by
 simp only[aO,ml]at h0;refine Ws (fun v=>lo<=v/\v<=hi) l a d ha h h0.1 h0.2 fun x y=>?_;have:=eD.1 k x y;simpa only[fe,aO,dT]using this
theorem nI(L:List BY)(l:LL)(a:Int)(d:LL)(ha:0<=a)(h:a<=1000000)(h0:(dv 1 d.length&&dv d.length 1000000)=true) (k:(d.all fun x=>pt L (gi x 0).sV)=true) :
  aa (kB [.l l,.i a,.l d]) fun g=>∃v,g=[.l l,.i (a+1),.s v]/\v∈L:=by
 simp only[aO,ml]at h0;exact Wt (fun v=>v∈L) l a d ha h h0.1 h0.2 fun x y=>qo (eD.1 k x y)
def calls:List BY:=[⟨#[]⟩,⟨#[107,49]⟩,⟨#[75,49,65,66]⟩,⟨#[107,49,97,98,47]⟩,⟨#[49,97]⟩,⟨#[107,49,97,98,47,109,109,47,112]⟩,⟨#[107,49,97,98]⟩,⟨#[107,49,97,97]⟩,⟨#[107,49,97,98,47,52]⟩,
 ⟨#[111,104,50,97,98,99]⟩,⟨#[111,104,50,97,98,100]⟩,⟨#[119,49,97,119]⟩,⟨#[110,49,109,109]⟩,⟨#[103,51,120,121,122,47,112]⟩,⟨#[119,49,97,120]⟩]
def l7:List BY:=[⟨#[]⟩,⟨#[66]⟩,⟨#[98,50,48]⟩,⟨#[98,52,48]⟩,⟨#[98]⟩,⟨#[99]⟩]
def names:List BY:=[⟨#[]⟩,⟨#[65]⟩,⟨#[49]⟩,⟨#[102,105,110]⟩,⟨#[117,115,97]⟩,⟨#[120]⟩]
def small(n:Int):Prop:=-2000000000000<=n/\n<=2000000000000
def fh(r:LG):Prop:=∃(t m:Int) (b c:BY) (s h:Int) (x y:BY),r=[.i t,.i m,.s b,.s c,.i s,.i h,.s x,.s y]/\small t/\small m/\small s/\small h/\b∈l7/\c∈calls/\x∈names/\y∈names
def tight(n:Int):Prop:=-1900000000000<=n/\n<=1900000000000
def xg(n:Int):Prop:=-1900000000000<=n/\(n<=345000000000\/(345686399999<n/\n<=1900000000000))
def NB(r:LG):Prop:=∃(t m:Int) (b c:BY) (s h:Int) (x y:BY),r=[.i t,.i m,.s b,.s c,.i s,.i h,.s x,.s y]/\xg t/\tight m/\tight s/\tight h/\b∈l7/\c∈calls/\x∈names/\y∈names
theorem tight.to{n:Int}(h:tight n):small n:=⟨by have:=h.1; omega,by have:=h.2; omega⟩
theorem xg.to{n:Int}(h:xg n):small n:=by
 unfold xg at h;exact⟨ab,ab⟩
theorem NB.to{r:LG}(h:NB r):fh r:=by
 obtain⟨t,m,b,c,s,h,x,y,e,h1,d,k,v,I⟩:=h;exact⟨t,m,b,c,s,h,x,y,e,h1.to,d.to,k.to,v.to,I⟩
theorem fh.eta(h:fh r):bg [.I,.I,.str,.str,.I,.I,.str,.str] r=r:=by
 obtain⟨t,m,b,c,s,h,x,y,rfl,_⟩:=h;rfl
theorem an'(l:LL)(a:Int)(ha:0<=a)(k:a<=900000):aa (Hd [.l l,.i a]) fun g=>∃v,g=[.l l,.i (a+2),.s v]/\v∈calls:=by
 unfold Hd
 (dsimp only[go_sem])
 have d:a+1+1=a+2:=ab;refine aa.call (DM l a 60 ha ab ab ab) ?_;rintro _ ⟨b,rfl⟩
 (dsimp only[go_sem])
 cases b with
 |true=>
  (repeat first|refine aa.p ?_|refine aa.n ?_);refine aa.call (nI calls l (a+1) _ ab ab aB aB) ?_;rintro _ ⟨v,rfl,h⟩;exact aa.some ⟨v,by(dsimp only[go_sem]); rw[d],h⟩
 |false=>
  (repeat first|refine aa.p ?_|refine aa.n ?_);refine aa.call (nI calls l (a+1) _ ab ab aB aB) ?_;rintro _ ⟨v,rfl,h⟩;exact aa.some ⟨v,by(dsimp only[go_sem]); rw[d],h⟩
theorem aoa(l:LL)(a t:Int)(ha:0<=a)(ha1:a<=800000)(d:xg t) :
  aa (He [.l l,.i a,.i t]) fun g=>∃b r,g=[.l l,.i b,.l [r]]/\a<=b/\b<=a+20/\NB r:=by
 unfold xg at d;unfold He
 (dsimp only[go_sem])
 refine aa.call (sI 1 3 l a _ ha ab aB aB) ?_;rintro _ ⟨m,rfl,hm⟩
 (dsimp only[go_sem])
 refine aa.call (nI l7 l _ _ ab ab aB aB) ?_;rintro _ ⟨I,rfl,hb⟩
 (dsimp only[go_sem])
 refine aa.call (an' l _ ab ab) ?_;rintro _ ⟨c,rfl,v⟩
 (dsimp only[go_sem])
 refine aa.call (sI 0 7 l _ _ ab ab aB aB) ?_;rintro _ ⟨s,rfl,hs⟩
 (dsimp only[go_sem])
 refine aa.call (sI 0 9 l _ _ ab ab aB aB) ?_;rintro _ ⟨h,rfl,hh⟩
 (dsimp only[go_sem])
 refine aa.call (nI names l _ _ ab ab aB aB) ?_;rintro _ ⟨x,rfl,M⟩
 (dsimp only[go_sem])
 refine aa.call (nI names l _ _ ab ab aB aB) ?_;rintro _ ⟨y,rfl,N⟩
 (dsimp only[go_sem])
 refine aa.call (DM l _ 100 ab ab ab ab) ?_;rintro _ ⟨f,rfl⟩
 (dsimp only[go_sem])
 cases f with
 |false=>
  (repeat first|refine aa.p ?_|refine aa.n ?_);exact aa.some ⟨_,_,rfl,ab,ab,t,m,I,c,s,h,x,y,rfl,d,⟨ab,ab⟩,⟨ab,ab⟩,⟨ab,ab⟩,hb,v,M,N⟩
 |true=>
  (repeat first|refine aa.p ?_|refine aa.n ?_);refine aa.call (xf l _ 4 ab ab ab ab) ?_;rintro _ ⟨k,rfl,hk⟩
  (dsimp only[go_sem])
  by_cases O:k=0
  ·subst O
   (repeat first|refine aa.p ?_|refine aa.n ?_);refine aa.call (Ip l _ 0 500 ab ab ab ab ab) ?_;rintro _ ⟨t',rfl,ht'⟩
   (dsimp only[go_sem])
   refine aa.call (Ip l _ 1 3 ab ab ab ab ab) ?_;rintro _ ⟨m',rfl,hm'⟩
   (dsimp only[go_sem])
   exact aa.some ⟨_,_,rfl,ab,ab,t',m',I,c,s,h,x,y,rfl,⟨ab,ab⟩,⟨ab,ab⟩,⟨ab,ab⟩,⟨ab,ab⟩,hb,v,M,N⟩
  ·refine aa.neg (by simpa using O) ?_
   by_cases U:k=1
   ·subst U
    (repeat first|refine aa.p ?_|refine aa.n ?_);refine aa.call (nI l7 l _ _ ab ab aB aB) ?_;rintro _ ⟨b',rfl,hb'⟩
    (dsimp only[go_sem])
    exact aa.some ⟨_,_,rfl,ab,ab,t,m,b',c,s,h,x,y,rfl,d,⟨ab,ab⟩,⟨ab,ab⟩,⟨ab,ab⟩,hb',v,M,N⟩
   ·refine aa.neg (by simpa using U) ?_
    by_cases W:k=2
    ·subst W
     (repeat first|refine aa.p ?_|refine aa.n ?_);refine aa.call (Ip l _ 0 99999 ab ab ab ab ab) ?_;rintro _ ⟨s',rfl,hs'⟩
     (dsimp only[go_sem])
     refine aa.call (Ip l _ 0 99999 ab ab ab ab ab) ?_;rintro _ ⟨h',rfl,hh'⟩
     (dsimp only[go_sem])
     exact aa.some ⟨_,_,rfl,ab,ab,t,m,I,c,s',h',x,y,rfl,d,⟨ab,ab⟩,⟨ab,ab⟩,⟨ab,ab⟩,hb,v,M,N⟩
    ·refine aa.neg (by simpa using W) ?_
     refine aa.call (nI names l _ _ ab ab aB aB) ?_;rintro _ ⟨x',rfl,hx'⟩
     (dsimp only[go_sem])
     refine aa.call (nI names l _ _ ab ab aB aB) ?_;rintro _ ⟨y',rfl,hy'⟩
     (dsimp only[go_sem])
     exact aa.some ⟨_,_,rfl,ab,ab,t,m,I,c,s,h,x',y',rfl,d,⟨ab,ab⟩,⟨ab,ab⟩,⟨ab,ab⟩,hb,v,hx',hy'⟩
def ia(a b:Int):Int:=if a<b then -1 else if b<a then 1 else 0
theorem Wu:∀{a b:List UInt8},gA a b=0->a=b
 |[],[],_=>rfl
 |[],_::_,h=>by simp[gA]at h
 |_::_,[],h=>by simp[gA]at h
 |x::a,y::b,h=>by
  unfold gA at h;split at h
  ·cases h
  ·split at h
   ·cases h
   ·rename_i h1 d
    rw[Wu h,OX (xL.1 d) (xL.1 h1)]
theorem Wv:∀ a:List UInt8,gA a a=0
 |[]=>rfl
 |x::a=>by simp[gA,Wv a]
theorem NC(a b:BY):(a.toList==b.toList)=decide (dD a b=0):=by
 rw[ta,ta,s_,dT,beq_iff_eq];constructor
 grind[dD,Wv]
 ·exact fun h=>Wu h
def DN(a b c d:Int):Int:=if a≠0 then a else if b≠0 then b else if c≠0 then c else d
def j5(r s:LG):Int:=DN (ia (gi r 0).iV (gi s 0).iV) (dD (gi r 3).sV (gi s 3).sV) (dD (gi r 2).sV (gi s 2).sV) (ia (gi r 1).iV (gi s 1).iV)
theorem sign_eq(a b:Int):uB [.i (a-b)]=some [.i (ia a b)]:=by
 refine aa.toEq ?_;unfold uB ia
 (dsimp only[go_sem])
 by_cases h1:a<b
 ·(repeat first|refine aa.p ?_|refine aa.n ?_)
  grind[aa.some]
 ·by_cases d:b<a
  ·(repeat first|refine aa.p ?_|refine aa.n ?_)
   grind[aa.some]
  ·(repeat first|refine aa.p ?_|refine aa.n ?_)
   grind[aa.some]
theorem ND{s:LG}(hr:fh r)(y:fh s):wW [.l [r],.l [s]]=some [.i (j5 r s)]:=by
 obtain⟨t,m,b,c,_,_,_,_,rfl,O,hm,_⟩:=hr;obtain⟨t',m',d,h,_,_,_,_,rfl,M,N,_⟩:=y;unfold small at *;refine aa.toEq ?_;unfold wW j5 DN
 (dsimp only[go_sem])
 simp only[NC];by_cases I:t=t'
 ·subst I
  have z:ia t t=0:=by simp[ia]
  simp only[z];(repeat first|refine aa.p ?_|refine aa.n ?_);by_cases k:dD c h=0
  ·simp only[k]
   (repeat first|refine aa.p ?_|refine aa.n ?_);by_cases v:dD b d=0
   ·simp only[v]
    (repeat first|refine aa.p ?_|refine aa.n ?_);refine aa.cE (sign_eq m m') ?_
    (dsimp only[go_sem])
    exact aa.some au
   ·refine aa.pos (by simpa using v) (aa.call (aa.eq (rfl:pn [.s b,.s d]=some [.i (dD b d)])) ?_)
    rintro _ rfl
    (dsimp only[go_sem])
    grind[aa.some]
  ·refine aa.pos (by simpa using k) (aa.call (aa.eq (rfl:pn [.s c,.s h]=some [.i (dD c h)])) ?_)
   rintro _ rfl
   (dsimp only[go_sem])
   grind[aa.some]
 ·(repeat first|refine aa.p ?_|refine aa.n ?_)
  refine aa.cE (sign_eq t t') ?_
  (dsimp only[go_sem])
  grind[ia,aa.some]
theorem Iq(a b:Int):zq [.i a,.i b]=some [.i (ia a b)]:=by
 refine aa.toEq ?_;unfold zq Hq ia
 (dsimp only[go_sem])
 simp only[bne_self_eq_false];refine aa.call ⟨_,rfl,rfl⟩ ?_;rintro _ rfl;refine aa.call ⟨_,rfl,rfl⟩ ?_;rintro _ rfl
 (dsimp only[go_sem])
 (repeat first|refine aa.p ?_|refine aa.n ?_);by_cases h1:a<b
 ·(repeat first|refine aa.p ?_|refine aa.n ?_)
  grind[aa.some]
 ·by_cases d:b<a
  ·(repeat first|refine aa.p ?_|refine aa.n ?_)
   grind[aa.some]
  ·(repeat first|refine aa.p ?_|refine aa.n ?_)
   grind[aa.some]
def uN:LL->Int
 |[]=>0
 |x::q=>if (gi x 0).iV≠0 then (gi x 0).iV else uN q
theorem Ww:∀(q p:LL),p.length+q.length<100000 ->
  aR pr [.i 0,.l (p++q),.i ((p.length+q.length:Nat):Int),.i (p.length:Int)] (q.length+1) fun c g=>c<=1/\g=[.i (uN q)]
 |[],p,h=>by
  refine aR.stop (x:=1) (aa.toEq ?_) ⟨ab,rfl⟩;unfold pr
  (dsimp only[go_sem])
  (repeat first|refine aa.p ?_|refine aa.n ?_);exact aa.some rfl
 |y::q,p,h=>by
  simp only[cz]at h;have k:(p++y::q).getD (p.length:Int).toNat []=y:=nD _ _ _ _ _ au;have d:(p++y::q).length=p.length+q.length+1:=bS;by_cases he:(gi y 0).iV=0
  ·have v:=Ww q (p++[y]) bS
   have e:uN (y::q)=uN q:=by simp[uN,he]
   rw[e];refine aR.next (aa.toEq ?_) v
   unfold pr
   (dsimp only[go_sem])
   simp only[k,d,cz];(repeat first|refine aa.p ?_|refine aa.n ?_)
   grind[aa.some]
  ·refine aR.stop (x:=0) (aa.toEq ?_) ⟨ab,rfl⟩
   unfold pr
   (dsimp only[go_sem])
   simp only[k,d,cz];(repeat first|refine aa.p ?_|refine aa.n ?_)
   grind[aa.some,uN]
theorem or_eq(a b c d:Int):w6 [.l [[.i a],[.i b],[.i c],[.i d]]]=some [.i (DN a b c d)]:=by
 refine aa.toEq ?_;unfold w6
 (dsimp only[go_sem])
 have h:=Ww [[.i a],[.i b],[.i c],[.i d]] [] au;refine aa.loop (h.to au) fg ?_;rintro x g ⟨k,rfl⟩;have e:uN [[.i a],[.i b],[.i c],[.i d]]=DN a b c d:=by
  simp only[uN,DN]
  (dsimp only[go_sem])
  omega
 rw[e]
 (dsimp only[go_sem])
 simp_all[aa.some]
theorem aob{s:LG}(hr:fh r)(k:fh s):Hr [.l [r],.l [s]]=some [.i (j5 r s)]:=by
 obtain⟨t,m,b,c,_,_,_,_,rfl,I,hm,_⟩:=hr;obtain⟨t',m',d,h,_,_,_,_,rfl,v,y,_⟩:=k;refine aa.toEq ?_;unfold Hr
 (dsimp only[go_sem])
 refine aa.cE (Iq t t') ?_;refine aa.cE (rfl:pn [.s c,.s h]=some [.i (dD c h)]) ?_;refine aa.cE (rfl:pn [.s b,.s d]=some [.i (dD b d)]) ?_;refine aa.cE (Iq m m') ?_
 (dsimp only[go_sem])
 refine aa.cE (or_eq _ _ _ _) ?_;exact aa.some rfl
theorem aoc:y_ [.I,.I,.str,.str,.I,.I,.str,.str] wW fh j5:=⟨fun _ _ hr d=>ND hr d,fun _ h=>h.eta⟩
def fH(v lo hi:Int):Bool:=bq lo v&&bq v hi
theorem Wx(v lo hi:Int):sF [.i v,.i lo,.i hi]=some [.t (fH v lo hi)]:=by
 unfold sF fH
 (dsimp only[go_sem])
 grind
theorem DO(v lo hi:Int):qi [.i v,.i lo,.i hi]=some [.t (!fH v lo hi)]:=by
 unfold qi fH
 (dsimp only[go_sem])
 have h1:aN v lo = !bq lo v:=by rw[cS,fe,s_]; simp
 have d:aN hi v = !bq v hi:=by rw[cS,fe,s_]; simp
 grind
def sJ(s:BY):Bool:=pt [⟨#[98,50,48]⟩,⟨#[98,52,48]⟩,⟨#[102,105,110]⟩,⟨#[117,115,97]⟩,⟨#[120]⟩,⟨#[98]⟩,⟨#[99]⟩] s
def uO(s:BY):Bool:=pt [⟨#[]⟩] s||sJ s
def jK(s:BY):Bool:=(gi ((CX [.s s]).getD []) 0).bV
theorem aod(h:s∈l7\/s∈names):Hn [.s s]=some [.t (sJ s)]:=by
 simp only[l7,names,c_,pQ,or_false]at h;rcases h with(rfl|rfl|rfl|rfl|rfl|rfl)|(rfl|rfl|rfl|rfl|rfl|rfl)<;>kernel_rfl
theorem NF(h:s∈l7\/s∈names):Dg [.s s]=some [.t (sJ s)]:=by
 simp only[l7,names,c_,pQ,or_false]at h;rcases h with(rfl|rfl|rfl|rfl|rfl|rfl)|(rfl|rfl|rfl|rfl|rfl|rfl)<;>kernel_rfl
theorem Wy(h:s∈names):Ho [.s s]=some [.t (uO s)]:=by
 simp only[names,c_,pQ,or_false]at h;rcases h with(rfl|rfl|rfl|rfl|rfl|rfl)<;>kernel_rfl
theorem Wz(h:s∈calls):CX [.s s]=some [.t (jK s)]:=by
 simp only[calls,c_,pQ,or_false]at h;rcases h with(rfl|rfl|rfl|rfl|rfl|rfl|rfl|rfl|rfl|rfl|rfl|rfl|rfl|rfl|rfl)<;>kernel_rfl
theorem NG(h:s∈calls):Df [.s s]=some [.t (jK s)]:=by
 simp only[calls,c_,pQ,or_false]at h;rcases h with(rfl|rfl|rfl|rfl|rfl|rfl|rfl|rfl|rfl|rfl|rfl|rfl|rfl|rfl|rfl)<;>kernel_rfl
def jL(r:LG):Int:=
 bif !fH (gi r 0).iV 0 345686399999 then 1 else bif !fH (gi r 1).iV 1 3 then 4 else bif !sJ (gi r 2).sV then 5 else bif !jK (gi r 3).sV then 3 else
 bif !fH (gi r 4).iV 0 99999 then 1 else bif !fH (gi r 5).iV 0 99999 then 1 else bif !uO (gi r 6).sV then 5 else bif !uO (gi r 7).sV then 5 else 0
theorem aoe(hr:fh r):Hp [.l [r]]=some [.i (jL r)]:=by
 obtain⟨t,m,b,c,s,h,x,y,rfl,_,_,_,_,hb,d,k,v⟩:=hr;unfold Hp MX MY jL
 (dsimp only[go_sem])
 have I:=aod (.inl hb);have M:=Wy k;have ky:=Wy v;have N:=Wz d;rw[DO t,DO m];rw[I,N,DO s,DO h,M,ky];generalize fH t 0 345686399999=O;generalize fH m 1 3=U;generalize sJ b=W;generalize jK c=b4;generalize fH s 0 99999=b5;generalize fH h 0 99999=b6;generalize uO x=b7;generalize uO y=b8;cases O<;>cases U<;>cases W<;>cases b4<;>cases b5<;>cases b6<;>cases b7<;>cases b8<;>rfl
theorem empty_eq(s:BY):(s.toList==(⟨#[]⟩:BY).toList)=pt [⟨#[]⟩] s:=by
 rw[ta,ta];simp only[pt,zb,Ex,List.any_nil,rH];rw[s_];simp only[beq_iff_eq];exact eq_comm
theorem aof(hr:fh r):HT [.l [r]]=some [.i (jL r)]:=by
 obtain⟨t,m,b,c,s,h,x,y,rfl,_,_,_,_,hb,I,M,N⟩:=hr;unfold HT Nb jL uO
 (dsimp only[go_sem])
 have O:=NF (.inl hb);have U:=NF (.inr M);have ky:=NF (.inr N);have W:=NG I;have d:=empty_eq x;have k:=empty_eq y;generalize (⟨#[]⟩:BY)=z at d k|-;simp only[Wx,adW rfl,O,W,U,ky]
 (dsimp only[go_sem])
 rw[d,k];generalize fH t 0 345686399999=b1;generalize fH m 1 3=b2;generalize sJ b=b3;generalize jK c=b4;generalize fH s 0 99999=b5;generalize fH h 0 99999=b6;generalize sJ x=b7;generalize sJ y=b8;generalize pt [z] x=b9;generalize pt [z] y=v;cases b1<;>cases b2<;>cases b3<;>cases b4<;>cases b5<;>cases b6<;>cases b7<;>cases b8<;>cases b9<;>cases v<;>rfl
def xh(K:List Kd)(C D:LG->Option LG)(d:LG):bp:=
 (bif (aN (gi d 3).iV (gi d 2).iV) then (bif ((cO (gi d 3).iV)&&(aN (gi d 3).iV (((gi d 1).rZ.length:Nat):Int))) then (aI (C [.l [(bg K ((gi d 1).rZ.getD (((gi d 3).iV).toNat) []))]]) fun h=>(bif ((gi h 0).iV != 0) then some (some 0,[.i (gi h 0).iV]) else (bif (aN 0 (gi d 3).iV) then (bif (aA ((gi d 3).iV-1)) then (bif ((cO ((gi d 3).iV-1))&&(aN ((gi d 3).iV-1) (((gi d 0).rZ.length:Nat):Int))) then (aI (D [.l [(bg K ((gi d 0).rZ.getD (((gi d 3).iV-1).toNat) []))],.l [(bg K ((gi d 1).rZ.getD (((gi d 3).iV).toNat) []))]]) fun k=>(bif (bq 0 (gi k 0).iV) then some (some 0,[.i 7]) else (bif (aA ((gi d 3).iV+1)) then some (none,[.l (gi d 0).rZ,.l (gi d 1).rZ,.i (gi d 2).iV,.i ((gi d 3).iV+1)]) else none))) else none) else none) else (bif (aA ((gi d 3).iV+1)) then some (none,[.l (gi d 0).rZ,.l (gi d 1).rZ,.i (gi d 2).iV,.i ((gi d 3).iV+1)]) else none)))) else none) else some (some 1,[]))
def WA(K:List Kd)(C D:LG->Option LG)(d:LG):Option LG:=
 (bif (aN 2000 (((gi d 0).rZ.length:Nat):Int)) then some [.i 2] else (be true (bR (xh K C D) [.l (gi d 0).rZ,.l (gi d 0).rZ,.i (((gi d 0).rZ.length:Nat):Int),.i 0]) fun h k=>(bif aD h 0 then some [.i (gi k 0).iV] else some [.i 0])))
def kX:Option LG->LL->Int
 |_,[]=>0
 |none,x::q=>if jL x≠0 then jL x else kX (some x) q
 |some y,x::q=>if jL x≠0 then jL x else if 0<=j5 y x then 7 else kX (some x) q
def nJ(l:LL):Int:=if 2000<l.length then 2 else kX none l
section
variable {C D:LG->Option LG} (hC:∀r,fh r->C [.l [r]]=some [.i (jL r)]) (hD:∀r s,fh r->fh s->D [.l [r],.l [s]]=some [.i (j5 r s)])
include hC hD
theorem WB:∀(q p:LL),(∀z∈p++q,fh z)->p.length+q.length<100000 ->
  aR (xh [.I,.I,.str,.str,.I,.I,.str,.str] C D) [.l (p++q),.l (p++q),.i ((p.length+q.length:Nat):Int),.i (p.length:Int)] (q.length+1) fun c g=>(c=0/\g=[.i (kX p.getLast? q)])\/c=1/\kX p.getLast? q=0
 |[],p,M,W=>by
  refine aR.stop (x:=1) (d':=[]) (aa.toEq ?_) (.inr ⟨rfl,by unfold kX; rfl⟩);unfold xh
  (dsimp only[go_sem])
  (repeat first|refine aa.p ?_|refine aa.n ?_)
  grind[aa.some]
 |x::q,p,M,W=>by
  simp only[cz]at W;have d:fh x:=M x au;have N:(p++x::q).getD (p.length:Int).toNat []=x:=nD _ _ _ _ _ au;have v:(p++x::q).length=p.length+q.length+1:=bS;by_cases k:jL x=0
  ·have U:=WB q (p++[x]) (by simpa using M) bS
   rw[List.getLast?_concat]at U;rcases List.eq_nil_or_concat p with rfl|⟨h,y,rfl⟩
   ·have e:kX ([]:LL).getLast? (x::q)=kX (some x) q:=by simp[kX,k]
    rw[e];refine aR.next (aa.toEq ?_) U
    unfold xh
    (dsimp only[go_sem])
    simp only[N,v,cz,d.eta];(repeat first|refine aa.p ?_|refine aa.n ?_);refine aa.cE (hC x d) ?_
    (dsimp only[go_sem])
    simp only[k];(repeat first|refine aa.p ?_|refine aa.n ?_)
    grind[aa.some]
   ·rw[List.concat_eq_append]at *
    have O:fh y:=M y au;have g2:((h++[y])++x::q).getD (((h++[y]).length:Int)-1).toNat []=y:=by
     have e:(h++[y])++x::q=h++y::x::q:=au;rw[e]; simp
    have hp:(h++[y]).length=h.length+1:=au;have hl0:(h++[y]).getLast?=some y:=au;rw[hl0];by_cases ho:0<=j5 y x
    ·refine aR.stop (x:=0) (d':=[.i 7]) (aa.toEq ?_) (.inl ⟨rfl,by simp[kX,k,ho]⟩)
     unfold xh
     (dsimp only[go_sem])
     simp only[N,g2,v,cz,d.eta,O.eta];(repeat first|refine aa.p ?_|refine aa.n ?_);refine aa.cE (hC x d) ?_
     (dsimp only[go_sem])
     simp only[k];(repeat first|refine aa.p ?_|refine aa.n ?_);refine aa.cE (hD y x O d) ?_
     (dsimp only[go_sem])
     (repeat first|refine aa.p ?_|refine aa.n ?_)
     grind[aa.some]
    ·have e:kX (some y) (x::q)=kX (some x) q:=by grind[kX]
     rw[e];refine aR.next (aa.toEq ?_) U
     unfold xh
     (dsimp only[go_sem])
     simp only[N,g2,v,cz,d.eta,O.eta];(repeat first|refine aa.p ?_|refine aa.n ?_);refine aa.cE (hC x d) ?_
     (dsimp only[go_sem])
     simp only[k];(repeat first|refine aa.p ?_|refine aa.n ?_);refine aa.cE (hD y x O d) ?_
     (dsimp only[go_sem])
     (repeat first|refine aa.p ?_|refine aa.n ?_);refine aa.some ?_;simp;omega
  ·refine aR.stop (x:=0) (d':=[.i (jL x)]) (aa.toEq ?_) (.inl ⟨rfl,by cases hg:p.getLast?<;>simp[kX,k]⟩)
   unfold xh
   (dsimp only[go_sem])
   simp only[N,v,cz,d.eta];(repeat first|refine aa.p ?_|refine aa.n ?_);refine aa.cE (hC x d) ?_
   (dsimp only[go_sem])
   simp_all[aa.pos,aa.some]
theorem WC(l:LL)(d:∀z∈l,fh z)(hn:l.length<100000):WA [.I,.I,.str,.str,.I,.I,.str,.str] C D [.l l]=some [.i (nJ l)]:=by
 refine aa.toEq ?_;unfold WA nJ
 (dsimp only[go_sem])
 by_cases h:2000<l.length
 ·(repeat first|refine aa.p ?_|refine aa.n ?_)
  grind[aa.some]
 ·(repeat first|refine aa.p ?_|refine aa.n ?_)
  have h1:=WB hC hD l [] (by simpa using d) (by simpa using hn);have h0:((0:Nat):Int)=0:=rfl;simp only[mY,km,dj,h0]at h1;refine aa.loop (h1.to ab) fg ?_;rintro c g (⟨rfl,rfl⟩|⟨rfl,k⟩)
  ·(dsimp only[go_sem])
   (repeat first|refine aa.p ?_|refine aa.n ?_)
   grind[aa.some]
  ·(repeat first|refine aa.p ?_|refine aa.n ?_)
   simp_all[aa.some]
end
theorem aog(l:LL)(d:∀z∈l,fh z)(hn:l.length<100000):MZ [.l l]=some [.i (nJ l)]:=
 WC (fun _ h=>aoe h) (fun _ _ h h'=>aob h h') l d hn
theorem aoh(l:LL)(d:∀z∈l,fh z)(hn:l.length<100000):Nd [.l l]=some [.i (nJ l)]:=
 WC (fun _ h=>aof h) (fun _ _ h h'=>ND h h') l d hn
end
end Go.Proofs.jI

namespace Go.Proofs.jI
open Go Go.AL Go.Proofs
variable {A B a b ba cs l ser:LL} {F:Nat->Nat->Int} {I nn oF:Int} {Q:LG->Prop} {X Y:List Nat} {ac bc c d:BY} {bk c2 f i j k n p q t:Nat} {r:LG} {α:Type}
noncomputable section
theorem WD:∀ a b:List UInt8,gA b a = - gA a b
 |[],[]=>rfl
 |[],_::_=>rfl
 |_::_,[]=>rfl
 |a::d,b::h=>by
  simp only[gA];have k:=WD d h
  grind
theorem WE:∀{a b c:List UInt8},gA a b<0->gA b c<0->gA a c<0
 |[],[],_,h,_=>by simp[gA]at h
 |[],_::_,[],_,h=>by simp[gA]at h
 |[],_::_,_::_,_,_=>by simp[gA]
 |_::_,[],_,h,_=>by simp[gA]at h
 |_::_,_::_,[],_,h=>by simp[gA]at h
 |a::M,b::N,c::O,h1,d=>by
  simp only[gA]at h1 d|-;by_cases k:a<b
  grind
  ·by_cases v:b<a
   grind
   ·have e:a=b:=OX (xL.1 v) (xL.1 k)
    subst e;rw[iN (ass a),iN (ass a)]at h1;by_cases y:a<c
    grind
    ·by_cases I:c<a
     grind
     ·rw[iN y,iN I]at d |-
      exact WE h1 d
theorem aoi{a b:BY}(h:(a.toList==b.toList)=true):a=b:=by
 rw[ta,ta,beq_iff_eq]at h;exact ByteArray.ext (ZP.1 h)
theorem qp{a b:BY}:dD a b=0↔a=b:=by
 have h:=NC a b;constructor
 grind[aoi]
 grind
theorem aoj{a b:Int}:ia a b=0↔a=b:=by
 unfold ia;constructor
 ·intro h
  split at h
  ·omega
  ·split at h<;>omega
 ·rintro rfl
  simp
theorem xk{a b:Int}:ia a b<0↔a<b:=by
 unfold ia;constructor
 ·intro h
  split at h
  ·assumption
  ·split at h<;>omega
 ·intro h
  rw[iP h];omega
theorem l8(a b:BY):(a.toList==b.toList)=decide (a=b):=by
 rw[NC,s_,dT,dT];exact qp
structure Aq {α:Type} (c:α->α->Int):Prop where
 flip:∀a b,c b a=- c a b
 eq:∀a b,c a b=0->a=b
 tr:∀a b d,c a b<0->c b d<0->c a d<0
theorem WG:Aq ia:=⟨fun a b=>by unfold ia; split<;>split<;>first|omega|(split<;>omega)|skip,fun a b h=>aoj.1 h,fun a b d h1 k=>xk.2 (Int.lt_trans (xk.1 h1) (xk.1 k))⟩
theorem oB:Aq dD:=⟨fun a b=>WD _ _,fun a b h=>qp.1 h,fun a b d h1 k=>WE h1 k⟩
theorem Aq.le{α:Type}{c:α->α->Int}(h:Aq c)(a b d:α)(h1:c a b<=0)(k:c b d<=0):c a d<=0:=by
 by_cases v:c a b=0
 ·rw[h.eq a b v]
  exact k
 ·by_cases y:c b d=0
  ·rw[<- h.eq b d y]
   exact h1
  ·have:=h.tr a b d ab ab
   omega
theorem Aq.refl{c:α->α->Int}(h:Aq c)(a:α):c a a=0:=by
 have:=h.flip a a;omega
theorem WH{c:LG->LG->Int}(k:∀a b,c b a=- c a b)(v:∀a b d,c a b<=0->c b d<=0->c a d<=0):iJ (cr c) (fun _=>True):=by
 have lt:∀r s,cr c r s=decide (c r s<0):=fun r s=>by unfold cr; rw[cS]
 refine⟨fun a b d _ _ _ h1 y=>?_,fun a b _ _ h=>?_⟩<;>grind
structure fP (F:Nat->Nat->Int) (n m:Nat) (ok:Nat->Nat->Bool) (w:Nat->Nat->Int):Prop where
 oC:∀i k,n<=i\/m<=k->F i k=0
 step:∀i k,i<n->k<m->F i k=if ok i k=true then max (max (F (i+1) k) (F i (k+1))) (w i k+F (i+1) (k+1)) else max (F (i+1) k) (F i (k+1))
structure Fair (n m:Nat) (ok:Nat->Nat->Bool) (w:Nat->Nat->Int):Prop where
 pos:∀i k,i<n->k<m->ok i k=true->0<w i k
 aok:∀i p k q,i<p->p<n->k<q->q<m->ok i q=true->ok p k=true->ok i k=true/\ok p q=true/\w i q+w p k<=w i k+w p q
section
variable {F:Nat->Nat->Int} {n m:Nat} {ok:Nat->Nat->Bool} {w:Nat->Nat->Int}
theorem fP.flip(h:fP F n m ok w):fP (fun k i=>F i k) m n (fun k i=>ok i k) (fun k i=>w i k):=by
 refine⟨fun k i d=>h.oC i k d.symm,fun k i d hi=>?_⟩;have:=h.step i k hi d
 grind
theorem Fair.flip(h:Fair n m ok w):Fair m n (fun k i=>ok i k) (fun k i=>w i k):=by
 refine⟨fun k i y hi ho=>h.pos i k hi y ho,fun k q i p d hq v I h1 M=>?_⟩;obtain⟨a,b,c⟩:=h.aok i p k q v I d hq M h1
 grind
theorem fP.down(h:fP F n m ok w)(i k:Nat):F (i+1) k<=F i k:=by
 by_cases he:n<=i\/m<=k
 ·rw[h.oC i k he,h.oC (i+1) k ab]
  omega
 ·rw[h.step i k ab ab]
  omega
theorem fP.right(h:fP F n m ok w)(i k:Nat):F i (k+1)<=F i k:=h.flip.down k i
theorem fP.NH(h:fP F n m ok w)(i k:Nat):∀ d,F (i+d) k<=F i k
 |0=>Ey _
 |d+1=>OZ (h.down (i+d) k) (h.NH i k d)
theorem fP.mono(h:fP F n m ok w)(h1:i<=p)(v:k<=q):F p q<=F i k:=by
 obtain⟨d,rfl⟩:=ast h1;obtain⟨e,rfl⟩:=ast v;exact OZ (h.NH i (k+e) d) (h.flip.NH k i e)
theorem fP.take(h:fP F n m ok w)(h1:i<=p)(d:k<=q)(v:p<n)(hq:q<m)(ho:ok p q=true):w p q+F (p+1) (q+1)<=F i k:=by
 refine OZ ?_ (h.mono h1 d);rw[h.step p q v hq,iP ho];omega
theorem fP.NI(h:fP F n m ok w)(i k:Nat):0<=F i k:=by
 have h1:=h.mono (i:=i) (p:=i+n) (k:=k) (q:=k) ab (aV _);rw[h.oC (i+n) k (.inl ab)]at h1;exact h1
theorem fP.row(h:fP F n m ok w){i:Nat}(hi:i<n):∀(s k:Nat),m-k<=s->F i k=F (i+1) k\/∃ q,k<=q/\q<m/\ok i q=true/\F i k=w i q+F (i+1) (q+1)
 |s,k,U=>by
  by_cases d:k<m
  ·cases s with
   |zero=>omega
   |succ s=>
    have h0:=h.step i k hi d;have h1:=h.down i k;have W:=h.right (i+1) k;by_cases ho:ok i k=true
    ·rw[iP ho]at h0
     by_cases e:F i k=w i k+F (i+1) (k+1)
     grind
     ·by_cases v:F i k=F (i+1) k
      omega
      ·have y:F i k=F i (k+1) :=ab
       rcases h.row hi s (k+1) ab with g|⟨q,I,M,N,O⟩<;>grind
    ·rw[iN ho]at h0
     by_cases v:F i k=F (i+1) k;omega
     ·have y:F i k=F i (k+1) :=ab
      rcases h.row hi s (k+1) ab with g|⟨q,I,M,N,O⟩<;>grind
  ·exact .inl (by rw[h.oC i k (.inr ab),h.oC (i+1) k (.inr ab)])
def gQ(P:Nat->Bool):Nat->Nat->Option Nat
 |_,0=>none
 |q,t+1=>bif P q then some q else gQ P (q+1) t
theorem uP{P:Nat->Bool}:∀{t q x:Nat},gQ P q t=some x->q<=x/\x<q+t/\P x=true/\∀ y,q<=y->y<x->P y=false
 |0,_,_,h=>by cases h
 |t+1,q,x,h=>by
  unfold gQ at h;cases k:P q with
  |true=>
   grind
  |false=>
   rw[k]at h;obtain⟨a,b,c,d⟩:=uP (t:=t) h
   grind
theorem Ar{P:Nat->Bool}:∀{t q:Nat},gQ P q t=none->∀ y,q<=y->y<q+t->P y=false
 |0,q,_,y,h1,d=>by omega
 |t+1,q,h,y,h1,d=>by
  unfold gQ at h;cases k:P q with
  |true=>grind
  |false=>
   rw[k]at h;by_cases e:y=q
   grind
   ·exact Ar (t:=t) h y ab ab
theorem NJ{P:Nat->Bool}{x:Nat}(h1:q<=x)(k:x<q+t)(v:P x=true)(I:∀y,q<=y->y<x->P y=false):gQ P q t=some x:=by
 cases h:gQ P q t with
 |none=>grind[Ar]
 |some z=>
  obtain⟨a,b,c,d⟩:=uP h
  grind
theorem aol{P:Nat->Bool}(h:∀y,q<=y->y<q+t->P y=false):gQ P q t=none:=by
 cases d:gQ P q t with
 |none=>rfl
 |some z=>
  obtain⟨a,b,c,_⟩:=uP d
  grind
def ib(F:Nat->Nat->Int)(ok:Nat->Nat->Bool)(w:Nat->Nat->Int)(v:Int)(i q:Nat):Bool:=ok i q&&(w i q+F (i+1) (q+1)==v)
theorem xl{v:Int}:ib F ok w v i q=true↔ok i q=true/\w i q+F (i+1) (q+1)=v:=by
 unfold ib;rw[aO,beq_iff_eq]
def bP(F:Nat->Nat->Int)(m:Nat)(ok:Nat->Nat->Bool)(w:Nat->Nat->Int):Nat->Nat->Nat->List (Nat × Nat)
 |0,_,_=>[]
 |t+1,i,f=>match gQ (ib F ok w (F i f) i) f (m-f) with
  |some q=>(i,q)::bP F m ok w t (i+1) (q+1)
  |none=>bP F m ok w t (i+1) f
theorem qs (h:gQ (ib F ok w (F i f) i) f (m-f)=some q):bP F m ok w (t+1) i f=(i,q)::bP F m ok w t (i+1) (q+1):=by
 rw[bP,h]
theorem sK (h:gQ (ib F ok w (F i f) i) f (m-f)=none):bP F m ok w (t+1) i f=bP F m ok w t (i+1) f:=by
 rw[bP,h]
theorem sM:∀(t i f:Nat),∀ x∈bP F m ok w t i f,i<=x.1/\x.1<i+t/\f<=x.2/\x.2<m/\ok x.1 x.2=true
 |0,_,_,x,h=>by cases h
 |t+1,i,f,x,h=>by
  cases hq:gQ (ib F ok w (F i f) i) f (m-f)with
  |none=>
   rw[sK hq]at h;obtain⟨a,b,c,d,e⟩:=sM t (i+1) f x h
   grind
  |some q=>
   rw[qs hq]at h;obtain⟨k,y,v,_⟩:=uP hq;rcases c_.1 h with rfl|h
   ·exact⟨aV _,au,k,bS,(xl.1 v).1⟩
   ·obtain⟨a,b,c,d,e⟩:=sM t (i+1) (q+1) x h
    grind
theorem NK:∀(t i f:Nat),(bP F m ok w t i f).Pairwise fun x y=>x.1<y.1/\x.2<y.2
 |0,_,_=>.nil
 |t+1,i,f=>by
  cases hq:gQ (ib F ok w (F i f) i) f (m-f)with
  |none=>rw[sK hq]; exact NK t (i+1) f
  |some q=>
   rw[qs hq];refine .cons (fun y d=>?_) (NK t (i+1) (q+1));obtain⟨a,_,c,_,_⟩:=sM t (i+1) (q+1) y d;omega
theorem Ir(h:fP F n m ok w)(hi:i<n)(hn:∀q,f<=q->q<m->ib F ok w (F i f) i q=false):F i f=F (i+1) f:=by
 rcases h.row hi (m-f) f (aV _)with e|⟨q,d,k,v,y⟩
 ·exact e
 ·have:=hn q d k
  rw[xl.2 ⟨v,y.symm⟩]at this;cases this
end
def nK(n m:Nat)(ok:Nat->Nat->Bool)(w:Nat->Nat->Int)(i k:Nat):Int:=
 if h:i<n/\k<m then
  if ok i k=true then max (max (nK n m ok w (i+1) k) (nK n m ok w i (k+1))) (w i k+nK n m ok w (i+1) (k+1)) else max (nK n m ok w (i+1) k) (nK n m ok w i (k+1))
 else 0
termination_by (n-i)+(m-k)
theorem Is(n m:Nat)(ok:Nat->Nat->Bool)(w:Nat->Nat->Int):fP (nK n m ok w) n m ok w:=
 ⟨fun i k h=>by rw[nK,dif_neg ab],fun i k hi d=>by
  conv=>lhs; rw[nK]
  grind⟩
theorem fP.le{F:Nat->Nat->Int}{n m:Nat}{ok:Nat->Nat->Bool}{w:Nat->Nat->Int}(h:fP F n m ok w){W:Int}(d:0<=W)(v:∀ i k,w i k<=W):∀(t i k:Nat),n-i=t->F i k<=W*(t:Int)
 |0,i,k,y=>by rw[h.oC i k (.inl ab)]; simp
 |t+1,i,k,y=>by
  have e:W*((t+1:Nat):Int)=W*(t:Int)+W:=gB;rw[e];rcases h.row (i:=i) ab (m-k) k (aV _)with g|⟨q,_,_,_,g⟩
  ·have:=h.le d v t (i+1) k ab
   omega
  ·have:=h.le d v t (i+1) (q+1) ab
   grind
def j6(r:LG):Int:=(gi r 0).iV
def qt(r:LG):Int:=(gi r 1).iV
def l5(r:LG):BY:=(gi r 2).sV
def NL(r:LG):BY:=(gi r 3).sV
def fI(r:LG):Prop:=bg [.I,.I,.str,.str,.I,.I,.str,.str] r=r/\-1000000000000<=j6 r/\j6 r<=1000000000000
def kC(p q:LG):Int:=if j6 q-j6 p>j6 p-j6 q then j6 q-j6 p else j6 p-j6 q
def lD(oF:Int)(p q:LG):Bool:=((l5 p).toList==(l5 q).toList)&&((qt p==qt q)&&bq (kC p q) oF)
theorem As{p q:LG}(d:fI p)(hq:fI q):0<=kC p q/\kC p q<=2000000000000:=by
 obtain⟨_,h1,h⟩:=d;obtain⟨_,k,v⟩:=hq
 grind[kC]
theorem NM{p q:LG}(d:fI p)(hq:fI q):zH [.l [p],.l [q]]=some [.i (kC p q)]:=by
 obtain⟨_,h1,h⟩:=d;obtain⟨_,k,v⟩:=hq;unfold j6 at h1 h k v;refine aa.toEq ?_;unfold zH kC j6
 (dsimp only[go_sem])
 exact aa.pos (er.2 ⟨ab,ab⟩) (aa.pos (er.2 ⟨ab,ab⟩) (aa.some rfl))
theorem NN(oF:Int){p q:LG}(d:fI p)(hq:fI q):zI [.l [p],.l [q],.i oF]=some [.t (lD oF p q)]:=by
 refine aa.toEq ?_;unfold zI lD
 (dsimp only[go_sem])
 refine aa.test (fun h=>?_) fun h=>?_
 ·have h:((l5 p).toList==(l5 q).toList)=true:=h
  rw[h];refine aa.test (fun h=>?_) fun h=>?_
  ·have h:(qt p==qt q)=true:=h
   rw[h,d.1,hq.1];refine aa.cE (NM d hq) ?_;exact aa.some rfl
  grind[qt,aa.some]
 grind[l5,aa.some]
structure JC (a b:LL) (X Y:List Nat):Prop where
 ha:∀z∈a,fI z
 hb:∀z∈b,fI z
 hX:∀i∈X,i<a.length
 hY:∀i∈Y,i<b.length
 na:a.length<=100000
 nb:b.length<=100000
 nX:X.length<=1000
 nY:Y.length<=1000
def bz(X:List Nat):LL:=X.map fun(i:Nat)=>[G.i (i:Int)]
theorem lE(X:List Nat):(bz X).length=X.length:=cP _
theorem uQ(hi:i<X.length):(bz X).getD i []=[.i ((X.getD i 0:Nat):Int)]:=by
 unfold bz;rw[dc,dw,cB hi,dc,cB hi];rfl
theorem j7{l:List α}{z:α}(h:i<l.length):l.getD i z∈l:=by
 rw[dc,cB h];exact vp h
def ic(a:LL)(X:List Nat)(i:Nat):LG:=a.getD (X.getD i 0) []
def dW(a b:LL)(X Y:List Nat)(oF:Int)(i k:Nat):Bool:=lD oF (ic a X i) (ic b Y k)
def wJ(a b:LL)(X Y:List Nat)(i k:Nat):Int:=10000000000-kC (ic a X i) (ic b Y k)
theorem JC.Au(J:JC a b X Y)(hi:i<X.length):X.getD i 0<a.length/\fI (ic a X i):=by
 have h:=J.hX _ (j7 (z:=0) hi);exact⟨h,J.ha _ (j7 h)⟩
theorem JC.Av(J:JC a b X Y)(hi:i<Y.length):Y.getD i 0<b.length/\fI (ic b Y i):=by
 have h:=J.hY _ (j7 (z:=0) hi);exact⟨h,J.hb _ (j7 h)⟩
theorem aom(J:JC a b X Y)(oF:Int)(v:LL)(hi:i<X.length)(y:k<Y.length):
  HC [.l a,.l b,.l (bz X),.l (bz Y),.i oF,.l v,.i (i:Int),.i (k:Int)]=some [.l a,.l b,.l (bz X),.l (bz Y),.i oF,.l v,.i (wJ a b X Y i k),.t (dW a b X Y oF i k)]:=by
 obtain⟨h1,d⟩:=J.Au hi;obtain⟨O,h⟩:=J.Av y;have N:=As d h;refine aa.toEq ?_;unfold HC
 (dsimp only[go_sem])
 simp only[a7,uQ hi,uQ y,lE]
 (dsimp only[go_sem])
 simp only[a7];refine aa.p (aa.p (aa.p (aa.p ?_)));have I:a.getD (X.getD i 0) []=ic a X i:=rfl;have M:b.getD (Y.getD k 0) []=ic b Y k:=rfl;rw[I,M,d.1,h.1];refine aa.cE (NM d h) ?_
 (dsimp only[go_sem])
 refine aa.pos (er.2 ⟨ab,ab⟩) ?_;refine aa.cE (NN oF d h) ?_
 (dsimp only[go_sem])
 refine aa.pos ?_ (aa.some rfl);simp
theorem WI(J:JC a b X Y)(oF:Int)(y:LL)(hi:i<X.length)(v:k<Y.length):
  HG [.l [[.l a,.l b,.l (bz X),.l (bz Y),.i oF,.l y]],.i (i:Int),.i (k:Int)]=some [.i (wJ a b X Y i k),.t (dW a b X Y oF i k)]:=by
 obtain⟨h1,d⟩:=J.Au hi;obtain⟨O,h⟩:=J.Av v;have N:=As d h;refine aa.toEq ?_;unfold HG
 (dsimp only[go_sem])
 simp only[a7,uQ hi,uQ v,lE]
 (dsimp only[go_sem])
 simp only[a7];refine aa.p (aa.p (aa.p (aa.p ?_)));have I:a.getD (X.getD i 0) []=ic a X i:=rfl;have M:b.getD (Y.getD k 0) []=ic b Y k:=rfl;rw[I,M,d.1,h.1];refine aa.cE (NM d h) ?_
 (dsimp only[go_sem])
 refine aa.pos (er.2 ⟨ab,ab⟩) ?_;refine aa.cE (NN oF d h) ?_;exact aa.some rfl
def gf(F:Nat->Nat->Int)(m i t:Nat):LL:=(fm (m+1)).map fun j=>[G.i (if t<=j then F i j else 0)]
def fQ(F:Nat->Nat->Int)(n m i:Nat):LL:=(fm (n+1)).map fun p=>[G.l (if i<=p then gf F m p 0 else [])]
theorem uR(F:Nat->Nat->Int)(m i t:Nat):(gf F m i t).length=m+1:=by unfold gf; rw[cP,sX]
theorem Aw(F:Nat->Nat->Int)(n m i:Nat):(fQ F n m i).length=n+1:=by unfold fQ; rw[cP,sX]
theorem DP{m:Nat}(d:j<=m):(gf F m i t).getD j []=[.i (if t<=j then F i j else 0)]:=by
 unfold gf
 grind
theorem NO{m:Nat}(d:p<=n):(fQ F n m i).getD p []=[.l (if i<=p then gf F m p 0 else [])]:=by
 unfold fQ
 grind
theorem aon{m:Nat}:(gf F m i (t+1)).set t [.i (F i t)]=gf F m i t:=by
 apply kg;intro j;unfold gf
 grind
theorem aoo{m:Nat}(h:F i m=0):gf F m i m=cn (m+1) [.i 0]:=by
 rw[O0];refine⟨uR F m i m,fun x d=>?_⟩;unfold gf at d;obtain⟨j,k,rfl⟩:=dS.1 d;rw[iQ]at k;by_cases e:m<=j
 ·rw[iP e,show j=m from by omega,h]
 ·rw[iN e]
theorem aop{m:Nat}(h:∀k,F i k=0):gf F m i 0=cn (m+1) [.i 0]:=by
 rw[O0];refine⟨uR F m i 0,fun x d=>?_⟩;unfold gf at d;obtain⟨j,v,rfl⟩:=dS.1 d;rw[iP (fy _),h]
theorem aoq{m:Nat}:(fQ F n m (i+1)).set i [.l (gf F m i 0)]=fQ F n m i:=by
 apply kg;intro j;unfold fQ
 grind
theorem aor{m:Nat}(h:∀k,F n k=0):(cn (n+1) ([.l []]:LG)).set n [.l (cn (m+1) [.i 0])]=fQ F n m n:=by
 apply kg;intro j;unfold fQ;rw[gh,dw,List.getElem?_replicate,vt];by_cases d:j<n+1
 ·rw[Jo d]
  by_cases e:n=j
  simp_all[aop]
  grind
 grind
theorem Ax(k:Kd)(r:LG)(v:G):eh [k] r 0 [v]=[v]:=by
 simp[eh,tJ]
theorem WJ{x y d row:LL}(h:k<=100000):
  C7 [.l a,.l b,.l x,.l y,.i oF,.l d,.l row,.i (i:Int),.i (k:Int)]=some (some 0,[.l a,.l b,.l x,.l y,.i oF,.l d,.l row,.i (i:Int),.i ((k:Int)-1)]):=by
 refine aa.toEq ?_;unfold C7
 (dsimp only[go_sem])
 exact aa.pos (er.2 ⟨ab,ab⟩) (aa.pos au (aa.some rfl))
theorem WK{a b:LL}{X Y:List Nat}(J:JC a b X Y)(oF:Int){F:Nat->Nat->Int}(d:fP F X.length Y.length (dW a b X Y oF) (wJ a b X Y)){i:Nat}(hi:i<X.length):∀t:Nat,t<=Y.length ->
  aR C8 [.l a,.l b,.l (bz X),.l (bz Y),.i oF,.l (fQ F X.length Y.length (i+1)),.l (gf F Y.length i t),.i (i:Int),.i ((t:Int)-1)] (t+1) fun c g=>c=0/\g=[.l a,.l b,.l (bz X),.l (bz Y),.i oF,.l (fQ F X.length Y.length (i+1)),.l (gf F Y.length i 0),.i (i:Int)]
 |0,_=>by
  refine aR.stop (x:=0) (aa.toEq ?_) ⟨rfl,rfl⟩;unfold C8
  (dsimp only[go_sem])
  exact aa.neg (by rw[fe]; decide) (aa.pos au (aa.some rfl))
 |t+1,ht=>by
  have nX:=J.nX;have nY:=J.nY;have hW:∀i k,F i k<=10000000000*((X.length-i:Nat):Int):=fun i k=>d.le (W:=10000000000) ab (fun i k=>by
   unfold wJ kC;omega) _ i k rfl
  have b1:=d.NI (i+1) t;have b2:=d.NI (i+1) (t+1);have b3:=hW (i+1) (t+1);have hwo:-2000000000000<=wJ a b X Y i t/\wJ a b X Y i t<=10000000000:=by
   have:=As (J.Au hi).2 (J.Av (show t<Y.length by omega)).2;unfold wJ;omega
  have ih:=WK J oF d hi t ab;have e0:((t+1:Nat):Int)-1=(t:Int):=ab;rw[e0];refine aR.next (aa.toEq ?_) ih
  have e1:((i:Int)+1).toNat=i+1:=ab;have e2:((t:Int)+1).toNat=t+1:=ab;have hM:(fQ F X.length Y.length (i+1)).getD (i+1) []=[.l (gf F Y.length (i+1) 0)]:=by rw[NO ab,iP (aV _)]
  have hN0:(gf F Y.length (i+1) 0).getD t []=[.i (F (i+1) t)]:=by rw[DP ab,iP (fy _)]
  have hN1:(gf F Y.length (i+1) 0).getD (t+1) []=[.i (F (i+1) (t+1))]:=by rw[DP ab,iP (fy _)]
  have M:(gf F Y.length i (t+1)).getD (t+1) []=[.i (F i (t+1))]:=by rw[DP ab,iP (aV _)]
  have N:=d.step i t hi ab;have y:∀v,v=F i t->(gf F Y.length i (t+1)).set t [.i v]=gf F Y.length i t:=fun v hv=>by rw[hv,aon]
  have I:∀v:Int,((gf F Y.length i (t+1)).set t [.i v]).getD t []=[.i v]:=fun v=>by
   rw[dc,cG (by rw[uR]; omega)];rfl
  have O:=Aw F X.length Y.length (i+1);have U:=uR F Y.length i (t+1);have hNl:=uR F Y.length (i+1) 0;generalize hRR:gf F Y.length i (t+1)=R at M y I U|-;unfold C8
  (dsimp only[go_sem])
  simp only[a7,e1,e2,dj,hM]
  (dsimp only[go_sem])
  simp only[hN0,M,Ax,O,U,hNl,nV,I,List.set_set]
  (dsimp only[go_sem])
  refine aa.p (aa.p (aa.p (aa.p (aa.p (aa.p (aa.p (aa.p (aa.p (aa.p ?_)))))))));refine aa.jx (aa.eq (aom J oF _ hi (show t<Y.length by omega))) au ?_;rintro _ rfl
  (dsimp only[go_sem])
  simp only[hM]
  (dsimp only[go_sem])
  simp only[hN1,O,hNl]
  (dsimp only[go_sem])
  refine aa.test (fun h=>?_) fun h=>?_
  ·rw[iP h]at N
   refine aa.p (aa.p (aa.p (aa.p (aa.p (aa.p (aa.p (aa.pos (er.2 ⟨ab,ab⟩) (aa.p (aa.p ?_)))))))));refine aa.tail (P:=fun u g=>u=0/\g=[.l a,.l b,.l (bz X),.l (bz Y),.i oF,.l (fQ F X.length Y.length (i+1)),.l (gf F Y.length i t),.i (i:Int),.i ((t:Int)-1)]) ⟨_,WJ ab,0,rfl,?_,?_⟩ au ?_
   ·rfl
   ·rw[y _ ?_]
    omega
   ·rintro _ _ ⟨rfl,rfl⟩
    (dsimp only[go_sem])
    simp_all[aa.some]
  ·rw[iN (by rw[h]; decide)]at N
   refine aa.tail (P:=fun u g=>u=0/\g=[.l a,.l b,.l (bz X),.l (bz Y),.i oF,.l (fQ F X.length Y.length (i+1)),.l (gf F Y.length i t),.i (i:Int),.i ((t:Int)-1)]) ⟨_,WJ ab,0,rfl,?_,?_⟩ au ?_
   ·rfl
   ·rw[y _ ?_]
    omega
   ·rintro _ _ ⟨rfl,rfl⟩
    (dsimp only[go_sem])
    simp_all[aa.some]
theorem WL{a b:LL}{X Y:List Nat}(J:JC a b X Y)(oF:Int){F:Nat->Nat->Int}(d:fP F X.length Y.length (dW a b X Y oF) (wJ a b X Y)):∀t:Nat,t<=X.length ->
  aR C9 [.l a,.l b,.l (bz X),.l (bz Y),.i oF,.l (fQ F X.length Y.length t),.i ((t:Int)-1)] (t+1) fun c g=>c=0/\g=[.l a,.l b,.l (bz X),.l (bz Y),.i oF,.l (fQ F X.length Y.length 0)]
 |0,_=>by
  refine aR.stop (x:=0) (aa.toEq ?_) ⟨rfl,rfl⟩;unfold C9
  (dsimp only[go_sem])
  simp_all[fe,aa.some]
 |t+1,M=>by
  have nX:=J.nX;have nY:=J.nY;have v:=WL J oF d t ab;have y:((t+1:Nat):Int)-1=(t:Int):=ab;rw[y];refine aR.next (aa.toEq ?_) v
  have I:((Y.length:Int)+1).toNat=Y.length+1:=ab;have h:(cn (Y.length+1) ([.i 0]:LG))=gf F Y.length t Y.length:=(aoo (d.oC t Y.length (.inr (aV _)))).symm;have k:=WK J oF d (show t<X.length by omega) Y.length (aV _);unfold C9
  (dsimp only[go_sem])
  simp only[lE,I,h];refine aa.p (aa.p (aa.p (aa.p ?_)));refine aa.loop (k.to ab) (by simp[uR]) ?_;rintro _ _ ⟨rfl,rfl⟩
  (dsimp only[go_sem])
  simp only[a7,dj,Ax,Aw];refine aa.p (aa.pos bS (aa.p (aa.pos (by simp[Aw]) (aa.some ?_))));rw[aoq]
theorem aos(J:JC a b X Y)(oF:Int)(d:fP F X.length Y.length (dW a b X Y oF) (wJ a b X Y)):
  HF [.l a,.l b,.l (bz X),.l (bz Y),.i oF,.l []]=some [.l a,.l b,.l (bz X),.l (bz Y),.i oF,.l (fQ F X.length Y.length 0)]:=by
 have nX:=J.nX;have nY:=J.nY;have v:((X.length:Int)+1).toNat=X.length+1:=ab;have y:((Y.length:Int)+1).toNat=Y.length+1:=ab;have h:(cn (X.length+1) ([.l []]:LG)).set X.length [.l (cn (Y.length+1) [.i 0])]=fQ F X.length Y.length X.length:=aor fun k=>d.oC X.length k (.inl (aV _));refine aa.toEq ?_;unfold HF
 (dsimp only[go_sem])
 simp only[lE,v,y,dj,Ax,h,vt,Aw];refine aa.p (aa.p (aa.p (aa.p (aa.p (aa.pos au (aa.p ?_))))));refine aa.loop ((WL J oF d X.length (aV _)).to ab) au ?_;rintro _ _ ⟨rfl,rfl⟩
 (dsimp only[go_sem])
 simp_all[aa.some]
def fv(X Y:List Nat)(p:Nat × Nat):LG:=[.i ((X.getD p.1 0:Nat):Int),.i ((Y.getD p.2 0:Nat):Int)]
def WM(X Y:List Nat)(out:LL)(i:Nat):Option Nat->LL
 |some q=>out++[fv X Y (i,q)]
 |none=>out
def WN(f:Nat):Option Nat->Nat
 |some q=>q+1
 |none=>f
theorem NP{d out:LL}(oF:Int)(hi:i<X.length)(h:k<Y.length)(nY:Y.length<=1000)(ho:out.length<=100000)(t:Bool):
  zJ [.l a,.l b,.l (bz X),.l (bz Y),.i oF,.l d,.l out,.i (f:Int),.i (i:Int),.i (k:Int),.i (n:Int),.i (i:Int),.t t] =
   bif t then some (some 0,[.l a,.l b,.l (bz X),.l (bz Y),.i oF,.l d,.l (out++[fv X Y (i,k)]),.i ((k+1:Nat):Int),.i (n:Int),.i (i:Int)])
   else some (some 1,[.l a,.l b,.l (bz X),.l (bz Y),.i oF,.l d,.l out,.i (f:Int),.i (i:Int),.i (k:Int),.i (n:Int),.i (i:Int)]):=by
 cases t with
 |false=>
  refine aa.toEq ?_;unfold zJ
  (dsimp only[go_sem])
  simp_all[aa.some]
 |true=>
  refine aa.toEq ?_;unfold zJ
  (dsimp only[go_sem])
  simp only[a7,uQ hi,uQ h,lE]
  (dsimp only[go_sem])
  exact aa.pos rfl (aa.p (aa.p (aa.pos bS (aa.p (aa.pos au (aa.some rfl))))))
section
variable {a b:LL} {X Y:List Nat} {F:Nat->Nat->Int}
theorem WO(J:JC a b X Y)(oF:Int)(y:fP F X.length Y.length (dW a b X Y oF) (wJ a b X Y))(out:LL)(ho:out.length<=100000){f i:Nat}(hi:i<X.length)(hf:f<=Y.length):∀t k:Nat,k+t=Y.length ->
  aR xb [.l a,.l b,.l (bz X),.l (bz Y),.i oF,.l (fQ F X.length Y.length 0),.l out,.i (f:Int),.i (i:Int),.i (k:Int),.i (X.length:Int),.i (i:Int)] (t+1)
   fun c g=>c=0/\g=[.l a,.l b,.l (bz X),.l (bz Y),.i oF,.l (fQ F X.length Y.length 0),.l (WM X Y out i (gQ (ib F (dW a b X Y oF) (wJ a b X Y) (F i f) i) k t)),.i (WN f (gQ (ib F (dW a b X Y oF) (wJ a b X Y) (F i f) i) k t):Int),.i (X.length:Int),.i (i:Int)]
 |0,k,hk=>by
  refine aR.stop (x:=0) (aa.toEq ?_) ⟨rfl,rfl⟩;have nY:=J.nY;unfold xb
  (dsimp only[go_sem])
  simp only[lE];exact aa.n (aa.pos au (aa.some rfl))
 |t+1,k,hk=>by
  have nX:=J.nX;have nY:=J.nY;have d:k<Y.length:=ab;have hW:∀i k,F i k<=10000000000*((X.length-i:Nat):Int):=fun i k=>y.le (W:=10000000000) ab (fun i k=>by
   unfold wJ kC;omega) _ i k rfl
  have b2:=y.NI (i+1) (k+1);have b3:=hW (i+1) (k+1);have hwo:-2000000000000<=wJ a b X Y i k/\wJ a b X Y i k<=10000000000:=by
   have:=As (J.Au hi).2 (J.Av d).2;unfold wJ;omega
  have e1:((i:Int)+1).toNat=i+1:=ab;have e2:((k:Int)+1).toNat=k+1:=ab;have M:(fQ F X.length Y.length 0).getD (i+1) []=[.l (gf F Y.length (i+1) 0)]:=by rw[NO ab,iP (fy _)]
  have N:(fQ F X.length Y.length 0).getD i []=[.l (gf F Y.length i 0)]:=by rw[NO ab,iP (fy _)]
  have O:(gf F Y.length (i+1) 0).getD (k+1) []=[.i (F (i+1) (k+1))]:=by rw[DP ab,iP (fy _)]
  have U:(gf F Y.length i 0).getD f []=[.i (F i f)]:=by rw[DP ab,iP (fy _)]
  have nxt:∀c:Bool,ib F (dW a b X Y oF) (wJ a b X Y) (F i f) i k=c->gQ (ib F (dW a b X Y oF) (wJ a b X Y) (F i f) i) k (t+1)=bif c then some k else gQ (ib F (dW a b X Y oF) (wJ a b X Y) (F i f) i) (k+1) t:=fun c hc=>by rw[<-hc]; rfl
  have go:ib F (dW a b X Y oF) (wJ a b X Y) (F i f) i k=false->aa (xb [.l a,.l b,.l (bz X),.l (bz Y),.i oF,.l (fQ F X.length Y.length 0),.l out,.i (f:Int),.i (i:Int),.i (k:Int),.i (X.length:Int),.i (i:Int)])
    (fun o=>o=(none,[.l a,.l b,.l (bz X),.l (bz Y),.i oF,.l (fQ F X.length Y.length 0),.l out,.i (f:Int),.i (i:Int),.i ((k+1:Nat):Int),.i (X.length:Int),.i (i:Int)])):=fun v=>by
   unfold xb
   (dsimp only[go_sem])
   simp only[lE];refine aa.p ?_;refine aa.cE (WI J oF _ hi d) ?_
   (dsimp only[go_sem])
   simp only[a7,e1,e2,M,N]
   (dsimp only[go_sem])
   simp only[O,U,Aw,uR]
   (dsimp only[go_sem])
   refine aa.test (fun h=>?_) fun h=>?_
   ·refine aa.p (aa.p (aa.p (aa.p (aa.pos (er.2 ⟨ab,ab⟩) (aa.p (aa.p ?_))))))
    have I:(wJ a b X Y i k+F (i+1) (k+1)==F i f)=false:=by
     unfold ib at v
     grind
    rw[I];refine aa.tail (P:=fun u g=>u=1/\g=[.l a,.l b,.l (bz X),.l (bz Y),.i oF,.l (fQ F X.length Y.length 0),.l out,.i (f:Int),.i (i:Int),.i (k:Int),.i (X.length:Int),.i (i:Int)]) ⟨_,NP oF hi d nY ho false,1,rfl,rfl,rfl⟩ au ?_;rintro _ _ ⟨rfl,rfl⟩
    (dsimp only[go_sem])
    exact aa.neg rfl (aa.p (aa.pos au (aa.some rfl)))
   ·refine aa.tail (P:=fun u g=>u=1/\g=[.l a,.l b,.l (bz X),.l (bz Y),.i oF,.l (fQ F X.length Y.length 0),.l out,.i (f:Int),.i (i:Int),.i (k:Int),.i (X.length:Int),.i (i:Int)]) ⟨_,NP oF hi d nY ho false,1,rfl,rfl,rfl⟩ au ?_
    rintro _ _ ⟨rfl,rfl⟩
    (dsimp only[go_sem])
    exact aa.neg rfl (aa.p (aa.pos au (aa.some rfl)))
  cases v:ib F (dW a b X Y oF) (wJ a b X Y) (F i f) i k with
  |false=>
   rw[nxt false v,cF];exact aR.next (aa.toEq (go v)) (WO J oF y out ho hi hf t (k+1) ab)
  |true=>
   rw[nxt true v,cT];obtain⟨o1,o2⟩:=xl.1 v;refine aR.stop (x:=0) (aa.toEq ?_) ⟨rfl,rfl⟩;unfold xb
   (dsimp only[go_sem])
   simp only[lE];refine aa.p ?_;refine aa.cE (WI J oF _ hi d) ?_
   (dsimp only[go_sem])
   simp only[a7,e1,e2,M,N]
   (dsimp only[go_sem])
   simp only[O,U,Aw,uR]
   (dsimp only[go_sem])
   refine aa.pos o1 ?_;refine aa.p (aa.p (aa.p (aa.p (aa.pos (er.2 ⟨ab,ab⟩) (aa.p (aa.p ?_))))));have I:(wJ a b X Y i k+F (i+1) (k+1)==F i f)=true:=by rw[beq_iff_eq]; exact o2
   rw[I];refine aa.tail (P:=fun u g=>u=0/\g=[.l a,.l b,.l (bz X),.l (bz Y),.i oF,.l (fQ F X.length Y.length 0),.l (out++[fv X Y (i,k)]),.i ((k+1:Nat):Int),.i (X.length:Int),.i (i:Int)]) ⟨_,NP oF hi d nY ho true,0,rfl,rfl,rfl⟩ au ?_;rintro _ _ ⟨rfl,rfl⟩
   (dsimp only[go_sem])
   exact aa.pos rfl (aa.pos au (aa.some rfl))
theorem NQ(J:JC a b X Y)(oF:Int)(d:fP F X.length Y.length (dW a b X Y oF) (wJ a b X Y)):∀(t i f:Nat) (out:LL),i+t=X.length->f<=Y.length->out.length+t<=100000 ->
  aR zK [.l a,.l b,.l (bz X),.l (bz Y),.i oF,.l (fQ F X.length Y.length 0),.l out,.i (f:Int),.i (X.length:Int),.i (i:Int)] (t+1)
   fun c g=>c=0/\g=[.l a,.l b,.l (bz X),.l (bz Y),.i oF,.l (fQ F X.length Y.length 0),.l (out++(bP F Y.length (dW a b X Y oF) (wJ a b X Y) t i f).map (fv X Y))]
 |0,i,f,out,hi,h,ho=>by
  have e:out++(bP F Y.length (dW a b X Y oF) (wJ a b X Y) 0 i f).map (fv X Y)=out:=by grind[bP]
  rw[e];refine aR.stop (x:=0) (aa.toEq ?_) ⟨rfl,rfl⟩;unfold zK
  (dsimp only[go_sem])
  exact aa.n (aa.pos au (aa.some rfl))
 |t+1,i,f,out,hi,h,ho=>by
  have nX:=J.nX;have nY:=J.nY;have k:=WO J oF d out ab (f:=f) (i:=i) ab h (Y.length-f) f ab;have step:∀ q,gQ (ib F (dW a b X Y oF) (wJ a b X Y) (F i f) i) f (Y.length-f)=q->aa (zK [.l a,.l b,.l (bz X),.l (bz Y),.i oF,.l (fQ F X.length Y.length 0),.l out,.i (f:Int),.i (X.length:Int),.i (i:Int)])
    (fun o=>o=(none,[.l a,.l b,.l (bz X),.l (bz Y),.i oF,.l (fQ F X.length Y.length 0),.l (WM X Y out i q),.i (WN f q:Int),.i (X.length:Int),.i ((i+1:Nat):Int)])):=fun q hq=>by
   rw[hq]at k;unfold zK
   (dsimp only[go_sem])
   refine aa.p ?_;refine aa.loop (k.to ab) au ?_;rintro _ _ ⟨rfl,rfl⟩
   (dsimp only[go_sem])
   exact aa.p (aa.pos au (aa.some rfl))
  cases hq:gQ (ib F (dW a b X Y oF) (wJ a b X Y) (F i f) i) f (Y.length-f)with
  |none=>
   have:=NQ J oF d t (i+1) f out ab h ab;rw[sK hq];exact aR.next (aa.toEq (step none hq)) this
  |some q=>
   obtain⟨v,y,_,_⟩:=uP hq;have:=NQ J oF d t (i+1) (q+1) (out++[fv X Y (i,q)]) ab ab bS;rw[qs hq,e9];rw[List.append_assoc]at this;exact aR.next (aa.toEq (step (some q) hq)) this
theorem aot(J:JC a b X Y)(oF:Int)(d:fP F X.length Y.length (dW a b X Y oF) (wJ a b X Y)) :
  HJ [.l a,.l b,.l (bz X),.l (bz Y),.i oF,.l []]=some [.l a,.l b,.l (bz X),.l (bz Y),.i oF,.l (fQ F X.length Y.length 0),.l ((bP F Y.length (dW a b X Y oF) (wJ a b X Y) X.length 0 0).map (fv X Y))]:=by
 have nX:=J.nX;refine aa.toEq ?_;unfold HJ
 (dsimp only[go_sem])
 refine aa.cE (aos J oF d) ?_
 (dsimp only[go_sem])
 simp only[lE];have h:=NQ J oF d X.length 0 0 [] ab (fy _) bS;rw[mY]at h;refine aa.loop (h.to ab) fk ?_;rintro _ _ ⟨rfl,rfl⟩
 (dsimp only[go_sem])
 simp_all[aa.some]
end
abbrev GK:=BY × Int
def fw(k:GK):LG:=[.s k.1,.i k.2]
theorem aou(k:GK):aZ [.str,.I] (fw k) (fw k)=true:=by
 show ((k.1.toList==k.1.toList)&&((k.2==k.2)&&true))=true
 simp
theorem aov{k d:GK}(h:k≠d):aZ [.str,.I] (fw k) (fw d)=false:=by
 show ((k.1.toList==d.1.toList)&&((k.2==d.2)&&true))=false
 cases h1:k.1.toList==d.1.toList with
 |false=>rfl
 |true=>
  cases v:k.2==d.2 with
  |false=>rfl
  |true=>grind[Kb]
def nM(i:Nat)(e:GK × List Nat):LG:=[.l [fw e.1],.l [[.l (bz e.2)]],.i (i:Int),.t true]
def cf:Nat->List (GK × List Nat)->LL
 |_,[]=>[]
 |i,e::L=>nM i e::cf (i+1) L
theorem DQ:∀(i:Nat) (L:List (GK × List Nat)),(cf i L).length=L.length
 |_,[]=>rfl
 |i,_::L=>by simp[cf,DQ (i+1) L]
theorem Ay:∀(i:Nat) (A B:List (GK × List Nat)),cf i (A++B)=cf i A++cf (i+A.length) B
 |i,[],B=>by simp[cf]
 |i,e::A,B=>by
  simp only[mX,cf,Ay (i+1) A B,cz]
  grind
def pz(k:GK)(v:Nat):List (GK × List Nat)->List (GK × List Nat)
 |[]=>[(k,[v])]
 |e::L=>if e.1=k then (e.1,e.2++[v])::L else e::pz k v L
theorem It(k:GK):∀ L:List (GK × List Nat),(∀ e∈L,e.1≠k)\/∃ A d B,L=A++(k,d)::B/\∀ e∈A,e.1≠k
 |[]=>.inl fun e h=>by cases h
 |e::L=>by
  by_cases he:e.1=k
  ·exact .inr ⟨[],e.2,L,by rw[<-he]; rfl,fun e h=>by cases h⟩
  ·rcases It k L with h|⟨A,d,B,rfl,h⟩<;>grind
theorem Iu{k:GK}(v:Nat):∀{L:List (GK × List Nat)},(∀ e∈L,e.1≠k)->pz k v L=L++[(k,[v])]
 |[],_=>rfl
 |e::L,h=>by
  rw[pz,iN (h e dx),Iu v fun x d=>h x (dh _ d)];rfl
theorem Iv{k:GK}(v:Nat)(d:List Nat)(B:List (GK × List Nat)):∀{A:List (GK × List Nat)},(∀ e∈A,e.1≠k)->pz k v (A++(k,d)::B)=A++(k,d++[v])::B
 |[],_=>by rw[mY,pz,iP rfl,mY]
 |e::A,h=>by
  rw[mX,pz,iN (h e dx),Iv v d B fun x y=>h x (dh _ y)];rfl
theorem NR(k:GK)(R:LL):∀(A:List (GK × List Nat)) (i j:Nat),(∀ e∈A,e.1≠k)->cH [.str,.I] (fw k) (cf i A++R) j=cH [.str,.I] (fw k) R (j+A.length)
 |[],_,_,_=>rfl
 |e::A,i,j,h=>by
  rw[cf,mX,cH,show (gi (nM i e) 0).rV=fw e.1 from rfl,aov (Ne.symm (h e dx)),cF,NR k R A (i+1) (j+1) fun x d=>h x (dh _ d),cz]
  grind
theorem WQ{k:GK}{L:List (GK × List Nat)}(h:∀e∈L,e.1≠k)(i j:Nat):cH [.str,.I] (fw k) (cf i L) j=none:=by
 have:=NR k [] L i j h;rw[dY]at this;exact this
theorem WR{k:GK}{A:List (GK × List Nat)}(h:∀e∈A,e.1≠k)(i:Nat)(r:LG)(hr:(gi r 0).rV=fw k)(R:LL):cH [.str,.I] (fw k) (cf i A++r::R) 0=some (A.length,r):=by
 rw[NR k (r::R) A i 0 h,cH,hr,aou,cT,dj]
theorem WS(R:LL):∀(A:List (GK × List Nat)) (i j c:Nat),i+A.length<=c->iY (c:Int) (cf i A++R) j=iY (c:Int) R (j+A.length)
 |[],_,_,_,_=>rfl
 |e::A,i,j,c,h=>by
  rw[cz]at h;have hb:(((gi (nM i e) 2).iV.toNat:Int)==(c:Int))=false:=by
   show (((i:Int).toNat:Int)==(c:Int))=false
   rw[a7,beq_eq_false_iff_ne];omega
  rw[cf,mX,iY,hb,cF,WS R A (i+1) (j+1) c ab,cz]
  grind
theorem WT(A:List (GK × List Nat))(r:LG)(R:LL)(hr:(gi r 2).iV=(A.length:Int)):iY (A.length:Int) (cf 0 A++r::R) 0=some (A.length,r):=by
 rw[WS (r::R) A 0 0 A.length ab,iY,hr,a7,show ((A.length:Int)==(A.length:Int))=true from by simp,cT,dj]
theorem xm(p:List α)(x y:α)(q:List α)(n:Nat)(h:p.length=n):(p++x::q).set n y=p++y::q:=by
 subst h;rw[List.set_append_right _ _ (aV _),oK,List.set_cons_zero]
def xn(L:List (GK × List Nat)):Nat:=(L.map fun e=>e.2.length).sum
theorem aow{L:List (GK × List Nat)}{e:GK × List Nat}(h:e∈L):e.2.length<=xn L:=by
 induction L with
 |nil=>cases h
 |cons x L d=>
  grind[xn]
theorem WU(k:GK)(v:Nat):∀ L:List (GK × List Nat),xn (pz k v L)=xn L+1
 |[]=>rfl
 |e::L=>by
  have d:=WU k v L
  grind[pz,xn]
theorem aox(L:List (GK × List Nat))(k:GK)(v:Nat) :
  fG [.str,.I] (cf 0 L) (fw k)=true/\(fY [.str,.I] (cf 0 L) (fw k)).length<=xn L /\
   yB (sc [.str,.I] (cf 0 L) (fw k) L.length) (r_ [.str,.I] (cf 0 L) (fw k) L.length:Nat)=true /\
   yA (sc [.str,.I] (cf 0 L) (fw k) L.length) (r_ [.str,.I] (cf 0 L) (fw k) L.length:Nat) (fY [.str,.I] (cf 0 L) (fw k)++[[.i (v:Int)]])=cf 0 (pz k v L) /\
   dK [.str,.I] (cf 0 L) (fw k) L.length=(pz k v L).length:=by
 rcases It k L with h1|⟨A,d,B,rfl,U⟩
 ·have h:=WQ h1 0 0
  have y:fY [.str,.I] (cf 0 L) (fw k)=[]:=by unfold fY; rw[h]
  have M:sc [.str,.I] (cf 0 L) (fw k) L.length=cf 0 L++[[.l [fw k],.l [[.l []]],.i (L.length:Int),.t false]]:=by unfold sc; rw[h]
  have N:r_ [.str,.I] (cf 0 L) (fw k) L.length=L.length:=by unfold r_; rw[h]
  have O:=WT L [.l [fw k],.l [[.l []]],.i (L.length:Int),.t false] [] rfl;refine⟨by unfold fG; rw[h],by rw[y]; simp,?_,?_,?_⟩
  grind[yB]
  ·rw[M,N,y,Iu v h1,Ay]
   unfold yA;rw[O];simp only[];rw[xm _ _ _ _ _ (DQ 0 L),dj];rfl
  grind[Iu,dK,dJ]
 ·have h:cH [.str,.I] (fw k) (cf 0 (A++(k,d)::B)) 0=some (A.length,nM A.length (k,d)):=by
   rw[Ay,cf,dj];exact WR U 0 (nM A.length (k,d)) rfl _
  have y:fY [.str,.I] (cf 0 (A++(k,d)::B)) (fw k)=bz d:=by unfold fY; rw[h]; rfl
  have M:sc [.str,.I] (cf 0 (A++(k,d)::B)) (fw k) (A++(k,d)::B).length=cf 0 A++[.l [fw k],.l [[.l (bz d)]],.i (A.length:Int),.t false]::cf (A.length+1) B:=by
   unfold sc;rw[h,Ay,cf,dj];exact xm _ _ _ _ _ (DQ 0 A)
  have N:r_ [.str,.I] (cf 0 (A++(k,d)::B)) (fw k) (A++(k,d)::B).length=A.length:=by
   unfold r_;rw[h];show ((A.length:Int).toNat)=A.length
   omega
  have O:=WT A [.l [fw k],.l [[.l (bz d)]],.i (A.length:Int),.t false] (cf (A.length+1) B) rfl;refine⟨by unfold fG; rw[h]; rfl,by rw[y,lE]; exact aow (e:=(k,d)) au,?_,?_,?_⟩
  grind[yB]
  ·rw[M,N,y,Iv v d B U,Ay,cf,dj]
   unfold yA;rw[O];simp only[];rw[xm _ _ _ _ _ (DQ 0 A)];have W:bz d++[[G.i (v:Int)]]=bz (d++[v]):=by unfold bz; rw[kj]; rfl
   rw[W];rfl
  grind[Iv,dK,dJ]
def cy(r:LG):GK:=(l5 r,qt r)
def iv(l:LL)(s:BY)(i:Nat):Bool:=(NL (l.getD i [])).toList==s.toList
def sN(l:LL)(s:BY)(L:List (GK × List Nat))(i:Nat):List (GK × List Nat):=bif iv l s i then pz (cy (l.getD i [])) i L else L
def rq(l:LL)(s:BY)(n:Nat):List (GK × List Nat):=(fm n).foldl (sN l s) []
theorem WV(l:LL)(s:BY)(n:Nat):rq l s (n+1)=sN l s (rq l s n) n:=by
 unfold rq;rw[ZK,Ju];rfl
def eO(l:LL)(s:BY)(k:GK)(n:Nat):List Nat:=(fm n).filter fun i=>iv l s i&&decide (cy (l.getD i [])=k)
theorem xo(l:LL)(s:BY)(k:GK)(n:Nat):eO l s k (n+1)=eO l s k n++if iv l s n=true/\cy (l.getD n [])=k then [n] else []:=by
 unfold eO;rw[ZK,List.filter_append];congr 1;by_cases h1:iv l s n=true
 ·by_cases d:cy (l.getD n [])=k
  ·rw[iP ⟨h1,d⟩,Jp,iP (by rw[h1,iD,dT]; exact d),rI]
  ·rw[iN fun e=>d e.2,Jp,iN (by rw[h1,iD,dT]; exact d),rI]
 ·rw[iN fun e=>h1 e.1,Jp,iN (by rw[aO]; exact fun e=>h1 e.1),rI]
structure GI (l:LL) (s:BY) (n:Nat) (L:List (GK × List Nat)):Prop where
 NS:xn L<=n
 len:L.length<=n
 nd:(L.map (·.1)).Nodup
 nO:∀e∈L,e.2=eO l s e.1 n/\e.2≠[]
 all:∀k,eO l s k n≠[]->∃e∈L,e.1=k
theorem GI.zero(l:LL)(s:BY):GI l s 0 []:=⟨aV _,aV _,au,au,fun k h=>(h rfl).elim⟩
theorem GI.step{s:BY}{L:List (GK × List Nat)}(h:GI l s n L):GI l s (n+1) (sN l s L n):=by
 unfold sN;cases hw:iv l s n with
 |false=>
  have e:∀k,eO l s k (n+1)=eO l s k n:=fun k=>by rw[xo,iN (by rw[hw]; simp),dY]
  exact⟨ZQ h.NS,ZQ h.len,h.nd,fun x d=>by rw[e]; exact h.nO x d,fun k v=>by rw[e]at v; exact h.all k v⟩
 |true=>
  rw[cT];have eK:eO l s (cy (l.getD n [])) (n+1)=eO l s (cy (l.getD n [])) n++[n]:=by grind[xo]
  have I:∀k,cy (l.getD n [])≠k->eO l s k (n+1)=eO l s k n:=fun k v=>by rw[xo,iN (fun e=>v e.2),dY]
  have N:=WU (cy (l.getD n [])) n L;have h3:=h.NS;have h4:=h.len;rcases It (cy (l.getD n [])) L with h1|⟨A,O,B,rfl,U⟩
  ·rw[Iu n h1]at N |-
   refine⟨ab,bS,?_,fun x d=>?_,fun k v=>?_⟩
   ·rw[kj,Ez]
    refine⟨h.nd,au,fun a ha b hb=>?_⟩
    grind
   ·rcases dm.1 d with d | d
    ·rw[I x.1 (Ne.symm (h1 x d))]
     exact h.nO x d
    ·have d:=List.mem_singleton.1 d
     subst d;show [n]=eO l s (cy (l.getD n [])) (n+1)/\[n]≠[]
     rw[eK];have:eO l s (cy (l.getD n [])) n=[]:=by
      cases hs:eO l s (cy (l.getD n [])) n with
      |nil=>rfl
      |cons y ys=>
       obtain⟨e,he,v⟩:=h.all (cy (l.getD n [])) (by rw[hs]; simp)
       grind
     grind
   ·by_cases e:cy (l.getD n [])=k
    simp_all
    ·rw[I k e]at v
     obtain⟨x,d,W⟩:=h.all k v
     grind
  ·rw[Iv n O B U]at N |-
   have M:=h.nd;rw[kj,e9]at M;have hB:∀e∈B,e.1≠cy (l.getD n []):=fun e he v=>by
    have:=(Ez.1 M).2.1;rw[oL]at this;exact this.1 (v▸dS.2 ⟨e,he,rfl⟩)
   refine⟨ab,by simp at h4|-; omega,?_,fun x d=>?_,fun k v=>?_⟩
   grind
   ·rcases dm.1 d with d | d
    ·rw[I x.1 (Ne.symm (U x d))]
     exact h.nO x (A5 _ d)
    ·rcases c_.1 d with rfl | d
     ·have:=h.nO (cy (l.getD n []),O) au
      simp_all
     ·rw[I x.1 (Ne.symm (hB x d))]
      exact h.nO x (Es _ (dh _ d))
   ·by_cases e:cy (l.getD n [])=k
    ·exact⟨_,Es _ dx,e⟩
    ·rw[I k e]at v
     obtain⟨x,d,W⟩:=h.all k v
     grind
theorem GI.to(l:LL)(s:BY):∀ n,GI l s n (rq l s n)
 |0=>GI.zero l s
 |n+1=>by
  rw[WV];exact(GI.to l s n).step
def iO(l:LL)(s:BY):List (GK × List Nat):=rq l s l.length
theorem aoy(l:LL)(hn:l.length<=100000)(s:BY) :
  kT zG [.l [],.i 0,.s s,.l l,.i (l.length:Int),.i 0] fun c g=>c=0/\g=[.l (cf 0 (iO l s)),.i ((iO l s).length:Int)]:=by
 have r:=uu (st:=zG) (σ:=List (GK × List Nat)) (fun L i=>[.l (cf 0 L),.i (L.length:Int),.s s,.l l,.i (l.length:Int),.i (i:Int)]) l (fun L=>(0,[.l (cf 0 L),.i (L.length:Int)]))
  (fun L i=>L=rq l s i) [] ab rfl
  (fun L i z d hi y hm W=>by
   have v:=GI.to l s i;rw[<-d]at v;have hc:=v.NS;have k:sN l s L i=rq l s (i+1):=by rw[WV,d]
   obtain⟨I,a2,M,N,O⟩:=aox L (cy z) i;unfold zG
   (dsimp only[go_sem])
   simp only[a7,y];refine aa.p (aa.p ?_);have U:([.s (gi z 2).sV,.i (gi z 1).iV]:LG)=fw (cy z):=rfl;rw[U,N,O];refine aa.test (fun h=>?_) fun h=>?_
   ·have e:sN l s L i=pz (cy z) i L:=by
     unfold sN iv
     grind[NL]
    rw[e]at k;exact aa.pos I (aa.pos bS (aa.pos (by rw[M]; simp) (aa.p (aa.some ⟨_,rfl,k⟩))))
   ·have e:sN l s L i=L:=by
     unfold sN iv
     grind[NL]
    rw[e]at k;exact aa.p (aa.some ⟨L,rfl,k⟩))
  (fun L d=>by
   unfold zG
   (dsimp only[go_sem])
   simp only[a7];exact aa.n (aa.some rfl))
 refine r.mono ?_;rintro c g ⟨L,d,rfl,rfl⟩;exact⟨rfl,by rw[d]; rfl⟩
theorem WW:∀(i:Nat) (L:List (GK × List Nat)),ui (cf i L)=true
 |_,[]=>rfl
 |i,e::L=>by
  have:=WW (i+1) L;unfold ui at this|-;rw[cf,pM,this];rfl
theorem WX(l:LL)(hn:l.length<=100000)(s:BY):C6 [.l l,.s s]=some [.l (cf 0 (iO l s)),.i ((iO l s).length:Int)]:=by
 refine aa.toEq ?_;unfold C6
 (dsimp only[go_sem])
 refine aa.loop (aoy l hn s) fk ?_;rintro _ _ ⟨rfl,rfl⟩
 (dsimp only[go_sem])
 simp_all[WW,aa.some]
theorem aoz(l:LL)(s:BY)(k:GK):cR [.str,.I] (cf 0 (iO l s)) (fw k) [.l []]=[.l (bz (eO l s k l.length))]:=by
 have h:=GI.to l s l.length;show cR [.str,.I] (cf 0 (rq l s l.length)) (fw k) [.l []]=_
 rcases It k (rq l s l.length)with h1|⟨A,d,B,he,M⟩
 ·have:eO l s k l.length=[]:=by
   cases v:eO l s k l.length with
   |nil=>rfl
   |cons y O=>
    obtain⟨e,he,U⟩:=h.all k (by rw[v]; simp)
    grind
  unfold cR;rw[WQ h1,this];rfl
 ·have N:cH [.str,.I] (fw k) (cf 0 (rq l s l.length)) 0=some (A.length,nM A.length (k,d)):=by
   rw[he,Ay,cf,dj];exact WR M 0 (nM A.length (k,d)) rfl _
  have v:=h.nO (k,d) (by rw[he]; simp);unfold cR;rw[N];show [G.l (bz d)]=_
  grind
def DR(A B:LL)(oF:Int)(X Y:List Nat):List (Nat × Nat):=bP (nK X.length Y.length (dW A B X Y oF) (wJ A B X Y)) Y.length (dW A B X Y oF) (wJ A B X Y) X.length 0 0
def dR(A:LL)(d:BY)(k:GK):List Nat:=eO A d k A.length
def ig(A B:LL)(ac d:BY)(oF:Int)(k:GK):LL:=(DR A B oF (dR A d k) (dR B ac k)).map (fv (dR A d k) (dR B ac k))
def iw(A B:LL)(ac d:BY)(oF:Int):LL:=((iO A d).map fun e=>ig A B ac d oF e.1).flatten
def nP(r s:LG):Int:=ia (gi r 0).iV (gi s 0).iV
def kY(A B:LL)(ac d:BY)(oF:Int):LL:=eP (cr nP) (iw A B ac d oF)
theorem qu{s:BY}{k:GK}:i∈dR A s k↔i<A.length/\iv A s i=true/\cy (A.getD i [])=k:=by
 unfold dR eO;rw[mn,iQ,aO,dT]
theorem WY(A:LL)(s:BY)(k:GK):(dR A s k).length<=A.length:=by
 unfold dR eO;have:=vu (fun i=>iv A s i&&decide (cy (A.getD i [])=k)) (fm A.length)
 rwa [sX]at this
theorem Iw(A:LL)(s:BY)(k:GK):(dR A s k).Pairwise (·<·):=(List.pairwise_lt_range).filter _
structure jM (A B:LL):Prop where
 ha:∀z∈A,fI z
 hb:∀z∈B,fI z
 na:A.length<=1000
 nb:B.length<=1000
theorem jM.flip(h:jM A B):jM B A:=⟨h.hb,h.ha,h.nb,h.na⟩
theorem jM.jc(h:jM A B)(ac d:BY)(k:GK):JC A B (dR A d k) (dR B ac k):=by
 have h1:=h.na;have v:=h.nb;have y:=WY A d k;have I:=WY B ac k;exact⟨h.ha,h.hb,fun i hi=>(qu.1 hi).1,fun i hi=>(qu.1 hi).1,ab,ab,ab,ab⟩
theorem Ix{x:Nat × Nat}(h:x∈DR A B oF X Y):x.1<X.length/\x.2<Y.length/\dW A B X Y oF x.1 x.2=true:=by
 obtain⟨_,b,_,d,e⟩:=sM _ _ _ x h
 grind
theorem WZ(A B:LL)(oF:Int)(X Y:List Nat):(DR A B oF X Y).length<=X.length:=by
 have key:∀(F:Nat->Nat->Int) (m:Nat) (ok:Nat->Nat->Bool) (w:Nat->Nat->Int) (t i f:Nat),(bP F m ok w t i f).length<=t:=by
  intro F m ok w t
  induction t with
  |zero=>intro i f; exact aV _
  |succ t d=>
   grind[bP]
 exact key _ _ _ _ _ _ _
def DS(r:LG):Prop:=∃i k:Nat,r=[.i (i:Int),.i (k:Int)]/\i<=100000/\k<=100000
theorem aoA:wT zL DS nP:=by
 rintro _ _ ⟨i,k,rfl,h1,h⟩ ⟨d,v,rfl,y,I⟩;refine⟨(i:Int)-(d:Int),?_,?_⟩
 ·refine aa.toEq ?_
  unfold zL
  (dsimp only[go_sem])
  exact aa.pos (er.2 ⟨ab,ab⟩) (aa.some rfl)
 ·show (i:Int) - (d:Int)<0↔ia (i:Int) (d:Int)<0
  rw[xk];omega
theorem DT:iJ (cr nP) (fun _=>True):=WH (fun a b=>WG.flip _ _) fun a b d h1 h=>WG.le _ _ _ h1 h
theorem NT(h:jM A B){k:GK}(hr:r∈ig A B ac d oF k):
  ∃i j:Nat,r=[.i (i:Int),.i (j:Int)]/\i∈dR A d k/\j∈dR B ac k/\lD oF (A.getD i []) (B.getD j [])=true:=by
 obtain⟨x,v,rfl⟩:=dS.1 hr;obtain⟨a,b,c⟩:=Ix v;exact⟨_,_,rfl,j7 a,j7 b,c⟩
theorem Iy(h:jM A B)(hr:r∈iw A B ac d oF):
  ∃(k:GK) (i j:Nat),r=[.i (i:Int),.i (j:Int)]/\i∈dR A d k/\j∈dR B ac k/\lD oF (A.getD i []) (B.getD j [])=true:=by
 obtain⟨l,v,hr⟩:=OJ.1 hr
 grind[NT]
theorem Az(h:jM A B):∀r∈iw A B ac d oF,DS r:=fun r hr=>by
 obtain⟨k,i,j,rfl,h1,v,_⟩:=Iy h hr;have:=(qu.1 h1).1;have:=(qu.1 v).1;have:=h.na;have:=h.nb;exact⟨i,j,rfl,ab,ab⟩
theorem Iz(h:jM A B)(ac d:BY)(oF:Int):(iw A B ac d oF).Pairwise fun a b=>(gi a 0).iV≠(gi b 0).iV:=by
 have W:=GI.to A d A.length;unfold iw;rw[List.pairwise_flatten];refine⟨fun l hl=>?_,?_⟩
 ·obtain⟨e,_,rfl⟩:=dS.1 hl
  unfold ig;rw[qA];refine(NK _ _ _).imp_of_mem fun {x y} k v N he=>?_;obtain⟨a1,_,_⟩:=Ix (A:=A) (B:=B) (oF:=oF) k;obtain⟨b1,_,_⟩:=Ix (A:=A) (B:=B) (oF:=oF) v;have he:(((dR A d e.1).getD x.1 0:Nat):Int)=(((dR A d e.1).getD y.1 0:Nat):Int):=he;have hr:=Et.1 (Iw A d e.1) x.1 y.1 a1 b1 N.1
  grind
 ·rw[qA]
  have O:(iO A d).Pairwise fun e I=>e.1≠I.1:=by
   have:=W.nd;unfold Jv at this
   rwa [qA]at this
  refine O.imp fun {e I} U x k y v he=>?_;obtain⟨i,j,rfl,h1,_⟩:=NT h k;obtain⟨M,j',rfl,h2,_⟩:=NT h v;have he:(i:Int)=(M:Int):=he;have he:i=M:=ab;subst he;exact U ((qu.1 h1).2.2.symm.trans (qu.1 h2).2.2)
theorem IA(h:jM A B)(ac d:BY)(oF:Int):∀a∈iw A B ac d oF,∀b∈iw A B ac d oF,cr nP a b=false->cr nP b a=false->a=b:=by
 intro a ha b hb h1 k;unfold cr nP at h1 k;rw[cS,dF,xk]at h1 k;have he:(gi a 0).iV=(gi b 0).iV:=ab;obtain⟨i,hi,rfl⟩:=pK ha;obtain⟨j,v,rfl⟩:=pK hb;have y:=Et.1 (Iz h ac d oF)
 grind
theorem aoB(h:jM A B)(ac d:BY)(oF:Int){out:LL}(k:out.Perm (iw A B ac d oF))(hn:out.length<100000):HK [.l out]=some [.l (kY A B ac d oF)]:=by
 have h1:=S9 (C:=zL) (Q:=DS) aoA (DT.mono fun _ _=>trivial) out (fun y v=>Az h y (k.mem_iff.1 v)) hn fun a ha b hb=>IA h ac d oF a (k.mem_iff.1 ha) b (k.mem_iff.1 hb);unfold HK;rw[h1];have e:eP (cr nP) (iw A B ac d oF)=eP (cr nP) out:=S4 DT k.symm (fun _ _=>trivial) (IA h ac d oF);rw[<-e];rfl
def IB(r:LG):GK:=((gi (gi r 0).rV 0).sV,(gi (gi r 0).rV 1).iV)
theorem W0:∀(i:Nat) (L:List (GK × List Nat)) (r:LG),r∈cf i L->∃(j:Nat) (e:GK × List Nat),e∈L/\r=nM j e
 |_,[],_,h=>by cases h
 |i,e::L,r,h=>by
  rcases c_.1 h with rfl|h
  grind
  ·obtain⟨j,d,h1,k⟩:=W0 (i+1) L r h
   grind
theorem W1{β:Type}(f:GK->β):∀(i:Nat) (L:List (GK × List Nat)),(cf i L).map (fun r=>f (IB r))=L.map fun e=>f e.1
 |_,[]=>rfl
 |i,e::L=>by
  simp only[cf,e9,W1 f (i+1) L];rfl
theorem W2:∀(i:Nat) (L:List (GK × List Nat)),(cf i L).map dM=(fm L.length).map (i+·)
 |_,[]=>rfl
 |i,e::L=>by
  simp only[cf,e9,W2 (i+1) L,cz,asu,oI];rw[show dM (nM i e)=i from by simp[dM,nM,gi,G.iV]];congr 1;refine oM fun x _=>?_
  grind
theorem IC:∀ l:List Nat,l.Nodup->nodupB l=true
 |[],_=>rfl
 |a::l,d=>by
  obtain⟨h1,h⟩:=oL.1 d;simp only[nodupB,IC l h,jQ,Bool.not_eq_true'];cases k:l.any (aD a)with
  |false=>rfl
  |true=>
   simp_all
theorem aoC(L:List (GK × List Nat)):mH (cf 0 L) L.length=true:=by
 have hb:(cf 0 L).map dM=fm L.length:=by
  rw[W2];simp
 unfold mH;rw[hb,aO];refine⟨IC _ asv,?_⟩;rw[eD];intro r hr;have:dM r∈(cf 0 L).map dM:=dS.2 ⟨r,hr,rfl⟩
 simp_all
theorem W3{st:LG->LG->Option LG}{da:LG->Nat}{q:LL}{d k:LG}(h:st r d=some k)(ha:da k=da d):h_ st da (r::q) d=h_ st da q k:=by
 simp only[h_,h];rw[ha,show aD (da d) (da d)=true from jD _,cT]
theorem W4{A B:LL}(h:jM A B)(ac k:BY)(oF:Int)(bk da:Nat):∀(q out:LL),(∀r∈q,r∈cf 0 (iO A k))->out.length+1000*q.length<=1000000 ->
  h_ HL (fun d=>(gi d 8).iV.toNat) q [.s ac,.l A,.s k,.l B,.l (cf 0 (iO B ac)),.i (bk:Int),.l out,.i oF,.i (da:Int)] =
   some [.s ac,.l A,.s k,.l B,.l (cf 0 (iO B ac)),.i (bk:Int),.l (out++(q.map fun r=>ig A B ac k oF (IB r)).flatten),.i oF,.i (da:Int)]
 |[],out,_,_=>by simp[h_]
 |r::q,out,hq,v=>by
  simp only[cz]at v;obtain⟨j,e,he,rfl⟩:=W0 0 _ r (hq r dx);have y:=(GI.to A k A.length).nO e he;have W:IB (nM j e)=e.1:=rfl;have hX:e.2=dR A k e.1:=y.1;have J:=h.jc ac k e.1;have U:(ig A B ac k oF e.1).length<=1000:=by
   unfold ig;rw[cP];exact mU (WZ _ _ _ _ _) J.nX
  have st:HL (nM j e) [.s ac,.l A,.s k,.l B,.l (cf 0 (iO B ac)),.i (bk:Int),.l out,.i oF,.i (da:Int)]=some [.s ac,.l A,.s k,.l B,.l (cf 0 (iO B ac)),.i (bk:Int),.l (out++ig A B ac k oF e.1),.i oF,.i (da:Int)]:=by
   have M:(gi (gi (nM j e) 1).rV 0).rZ=bz e.2:=rfl;have N:bg [.str,.I] (gi (nM j e) 0).rV=fw e.1:=rfl;refine aa.toEq ?_;unfold HL;rw[M,N]
   (dsimp only[go_sem])
   rw[aoz,hX]
   (dsimp only[go_sem])
   refine aa.cE (aot J oF (Is _ _ _ _)) ?_
   (dsimp only[go_sem])
   simp only[a7];exact aa.pos (by
    show ((aD out.length out.length)&&decide (out.length+(ig A B ac k oF e.1).length<=1048576))=true
    rw[jD,iD,dT];omega) (aa.pos (by rw[jD]; rfl) (aa.some rfl))
  rw[W3 st rfl,W4 h ac k oF bk da q _ (fun x O=>hq x (dh _ O)) (by rw[fV]; omega)]
  grind
theorem DU:∀(n:Nat) (l:List Nat),l.Nodup->(∀ x∈l,x<n)->l.length<=n
 |0,l,_,h=>by
  cases l with
  |nil=>grind
  |cons x l=>exact absurd (h x dx) ab
 |n+1,l,hn,h=>by
  by_cases hm:n∈l
  ·have h1:=DU n (l.erase n) (hn.erase n) fun x d=>by
    have k:=h x (List.mem_of_mem_erase d);have v:x≠n:=fun e=>by
     subst e;exact(List.Nodup.not_mem_erase hn) d
    omega
   grind
  ·have:=DU n l hn fun x d=>by
    have k:=h x d;have v:x≠n:=fun e=>hm (e▸d);omega
   omega
theorem aoD(h:jM A B)(ac d:BY)(oF:Int):
  M_ [.s ac,.l A,.s d,.l B,.l (cf 0 (iO A d)),.i ((iO A d).length:Int),.l (cf 0 (iO B ac)),.i ((iO B ac).length:Int),.l [],.i oF]=some (some 0,[.l (kY A B ac d oF)]):=by
 have hI:=GI.to A d A.length;have hc:=hI.len;have na:=h.na;show sn HM HN (cf 0 (iO A d)) (((iO A d).length:Int).toNat) _=_
 rw[a7];refine S5 (aoC _) fun b p I=>⟨rfl,?_⟩
 have hpn:p.length<=1000:=by
  have:=I.length_eq;rw[DQ]at this;have:(iO A d).length<=A.length:=hc;omega
 have M:((p.map fun r=>ig A B ac d oF (IB r)).flatten).Perm (iw A B ac d oF):=by
  unfold iw;rw[<-W1 (fun k=>ig A B ac d oF k) 0 (iO A d)];exact(I.map _).flatten
 have hall:(iw A B ac d oF).length<=1000:=by
  have U:((iw A B ac d oF).map fun r=>(gi r 0).iV.toNat).Nodup:=by
   unfold Jv;rw[qA];refine(Iz h ac d oF).imp_of_mem fun {x y} v hy W he=>W ?_;obtain⟨i,k,rfl,_⟩:=Az h x v;obtain⟨N,k',rfl,_⟩:=Az h y hy;have he:((i:Int)).toNat=((N:Int)).toNat:=he;show (i:Int)=(N:Int)
   omega
  have O:((iw A B ac d oF).map fun r=>(gi r 0).iV.toNat) ⊆ fm A.length:=by
   intro x v;obtain⟨r,hr,rfl⟩:=dS.1 v;obtain⟨k,i,j,rfl,h1,_⟩:=Iy h hr;rw[iQ];exact(qu.1 h1).1
  have:=DU A.length _ U fun x v=>iQ.1 (O v);rw[cP]at this;omega
 refine⟨_,W4 h ac d oF (iO B ac).length b p [] (fun r hr=>I.mem_iff.1 hr) bS,?_⟩;rw[mY];refine aa.toEq ?_;unfold HN
 (dsimp only[go_sem])
 have hl:=M.length_eq;refine aa.jx (aa.eq (aoB h ac d oF M ab)) au ?_;rintro _ rfl
 (dsimp only[go_sem])
 simp_all[aa.some,kY,y8]
theorem aoE(h:jM A B)(ac d:BY)(oF:Int):HO [.l [[.s ac,.l A]],.l [[.s d,.l B]],.i oF]=some [.l (kY A B ac d oF)]:=by
 have na:=h.na;have nb:=h.nb;refine aa.toEq ?_;unfold HO
 (dsimp only[go_sem])
 refine aa.cE (WX A ab d) ?_
 (dsimp only[go_sem])
 refine aa.cE (WX B ab ac) ?_
 (dsimp only[go_sem])
 simp only[a7];refine aa.tail (P:=fun u g=>u=0/\g=[.l (kY A B ac d oF)]) ⟨_,aoD h ac d oF,0,rfl,rfl,rfl⟩ fk ?_;rintro _ _ ⟨rfl,rfl⟩
 (dsimp only[go_sem])
 simp_all[aa.some]
theorem W5{p q:LG}:lD oF p q=true↔l5 p=l5 q/\qt p=qt q/\kC p q<=oF:=by
 unfold lD;rw[l8,aO,aO,fe,dT,dT,beq_iff_eq]
theorem aoF:r∈iw A B ac d oF↔∃k,r∈ig A B ac d oF k:=by
 constructor
 ·intro h
  obtain⟨l,I,hr⟩:=OJ.1 h
  grind
 ·rintro⟨k,h⟩
  have h':=h;unfold ig at h';obtain⟨x,y,_⟩:=dS.1 h';have h1:=(Ix y).1;obtain⟨e,he,rfl⟩:=(GI.to A d A.length).all k (by
   intro v;have v:dR A d k=[]:=v;rw[v]at h1;simp at h1)
  exact OJ.2 ⟨_,dS.2 ⟨e,he,rfl⟩,h⟩
theorem NU(A B:LL)(ac d:BY)(oF:Int):(kY A B ac d oF).Perm (iw A B ac d oF):=sv (lt:=cr nP) _
theorem W6(h:jM A B)(ac d:BY)(oF:Int):(kY A B ac d oF).Pairwise fun a b=>(gi a 0).iV<(gi b 0).iV:=by
 have h1:=CM (lt:=cr nP) DT (l:=iw A B ac d oF) (fun _ _=>trivial);have v:(kY A B ac d oF).Pairwise fun a b=>(gi a 0).iV≠(gi b 0).iV:=(Iz h ac d oF).perm (NU A B ac d oF).symm (fun k e=>k e.symm);refine h1.imp₂ (fun {a b} y I=>?_) v
 grind[cr,nP,cS,xk]
theorem uS(h:jM A B)(hr:r∈kY A B ac d oF):
  ∃i j:Nat,r=[.i (i:Int),.i (j:Int)]/\i<A.length/\j<B.length/\iv A d i=true/\iv B ac j=true/\lD oF (A.getD i []) (B.getD j [])=true:=by
 obtain⟨k,i,j,rfl,h1,v,y⟩:=Iy h ((NU A B ac d oF).mem_iff.1 hr);have I:=qu.1 h1;have M:=qu.1 v
 grind
theorem W7(h:jM A B)(ac d:BY)(oF:Int):(kY A B ac d oF).length<=A.length:=by
 have v:((kY A B ac d oF).map fun r=>(gi r 0).iV.toNat).Nodup:=by
  unfold Jv;rw[qA];refine((W6 h ac d oF).imp_of_mem ?_);intro a b ha hb y e;obtain⟨i,j,rfl,_⟩:=uS h ha;obtain⟨k,N,rfl,_⟩:=uS h hb;have O:((i:Int)).toNat=((k:Int)).toNat:=e;have I:i=k:=ab;subst I;exact absurd y (Int.lt_irrefl _)
 have:=DU A.length _ v fun x M=>by
  obtain⟨r,hr,rfl⟩:=dS.1 M;obtain⟨i,j,rfl,hi,_⟩:=uS h hr;show ((i:Int).toNat)<_
  rwa [a7]
 grind
theorem uT(ks:List Kd)(r:LG)(rs:LL)(key:LG):fY ks (r::rs) key=bif aZ ks key (gi r 0).rV then lr r else fY ks rs key:=by
 unfold fY;simp only[cH];cases aZ ks key (gi r 0).rV with
 |true=>rfl
 |false=>
  grind[qY]
theorem uV(ks:List Kd)(r:LG)(rs:LL)(key:LG):fG ks (r::rs) key=bif aZ ks key (gi r 0).rV then (gi r 3).bV else fG ks rs key:=by
 unfold fG;simp only[cH];cases aZ ks key (gi r 0).rV with
 |true=>rfl
 |false=>
  grind[qY]
theorem W8(ks:List Kd)(r:LG)(rs:LL)(key:LG):iq ks (r::rs) key=bif aZ ks key (gi r 0).rV then [gi r 0,gi r 1,gi r 2,.t false]::rs else r::iq ks rs key:=by
 unfold iq;simp only[cH];cases aZ ks key (gi r 0).rV with
 |true=>rfl
 |false=>
  grind[qY]
theorem W9(ks:List Kd)(r:LG)(rs:LL)(key:LG)(v:LL)(c:Nat):p_ ks (r::rs) key v c=bif aZ ks key (gi r 0).rV then [.l [key],.l [[.l v]],.i (gi r 2).iV,.t true]::rs else r::p_ ks rs key v c:=by
 unfold p_;simp only[cH];cases aZ ks key (gi r 0).rV with
 |true=>rfl
 |false=>
  grind[qY]
theorem NV(ks:List Kd)(k key:LG):∀ rZ:LL,fY ks (iq ks rZ k) key=fY ks rZ key
 |[]=>rfl
 |r::rs=>by
  rw[W8];cases h:aZ ks k (gi r 0).rV with
  |true=>
   rw[cT,uT,uT];rfl
  |false=>rw[cF,uT,uT,NV ks k key rs]
theorem NW(ks:List Kd){k key:LG}(d:aZ ks key k=false):∀ rZ:LL,fG ks (iq ks rZ k) key=fG ks rZ key
 |[]=>rfl
 |r::rs=>by
  rw[W8];cases h:aZ ks k (gi r 0).rV with
  |true=>
   have e:aZ ks key (gi r 0).rV=false:=by rw[<-yW h]; exact d
   rw[cT,uV,uV,e];show (bif aZ ks key (gi r 0).rV then _ else _)=_
   grind
  |false=>rw[cF,uV,uV,NW ks d rs]
theorem W_(ks:List Kd)(k key:LG)(v:LL)(c:Nat):∀ rZ:LL,fY ks (p_ ks rZ k v c) key=bif aZ ks key k then v else fY ks rZ key
 |[]=>by
  show fY ks [[.l [k],.l [[.l v]],.i (c:Int),.t true]] key=_
  rw[uT];rfl
 |r::rs=>by
  rw[W9,uT];cases h:aZ ks k (gi r 0).rV with
  |true=>
   rw[cT,uT];have e:aZ ks key (gi r 0).rV=aZ ks key k:=(yW h).symm;rw[e];show (bif aZ ks key k then _ else _)=_
   cases aZ ks key k<;>rfl
  |false=>
   rw[cF,uT,W_ ks k key v c rs];cases d:aZ ks key (gi r 0).rV with
   |false=>rfl
   |true=>
    cases y:aZ ks key k with
    |false=>rfl
    |true=>
     grind[wP,oz]
theorem Xa(ks:List Kd)(k key:LG)(v:LL)(c:Nat):∀ rZ:LL,fG ks (p_ ks rZ k v c) key=bif aZ ks key k then true else fG ks rZ key
 |[]=>by
  show fG ks [[.l [k],.l [[.l v]],.i (c:Int),.t true]] key=_
  rw[uV];rfl
 |r::rs=>by
  rw[W9,uV];cases h:aZ ks k (gi r 0).rV with
  |true=>
   rw[cT,uV];have e:aZ ks key (gi r 0).rV=aZ ks key k:=(yW h).symm;rw[e];show (bif aZ ks key k then _ else _)=_
   cases aZ ks key k<;>rfl
  |false=>
   rw[cF,uV,Xa ks k key v c rs];cases d:aZ ks key (gi r 0).rV with
   |false=>rfl
   |true=>
    cases y:aZ ks key k with
    |false=>rfl
    |true=>
     grind[wP,oz]
theorem DV(s k:BY):aZ [.str] [.s s] [.s k]=decide (s=k):=by
 show ((s.toList==k.toList)&&true)=_
 rw[jQ,l8]
structure kD (Q:LG->Prop) (m:LL) (n:BY->Nat):Prop where
 fG:∀k,fG [.str] m [.s k]=true
 get:∀k,(fY [.str] m [.s k]).length<=n k/\∀z∈fY [.str] m [.s k],Q z
theorem kD.nil(Q:LG->Prop):kD Q [] fun _=>0:=⟨fun _=>rfl,fun _=>⟨aV _,by intro z d; cases d⟩⟩
theorem kD.add{m:LL}{n:BY->Nat}(h:kD Q m n)(k:BY){x:LG}(d:Q x)(c:Nat):
  kD Q (p_ [.str] (iq [.str] m [.s k]) [.s k] (fY [.str] m [.s k]++[x]) c) fun s=>if s=k then n s+1 else n s:=by
 refine⟨fun s=>?_,fun s=>?_⟩
 ·rw[Xa,DV]
  by_cases e:s=k
  grind
  ·rw[decide_eq_false e,cF,NW _ (by rw[DV]; exact decide_eq_false e)]
   exact h.fG s
 ·rw[W_,DV]
  obtain⟨h1,v⟩:=h.get s;by_cases e:s=k
  grind
  grind[NV]
theorem kD.mono{m:LL}{n d:BY->Nat}(h:kD Q m n)(hn:∀k,n k<=d k):kD Q m d:=
 ⟨h.fG,fun k=>⟨mU (h.get k).1 (hn k),(h.get k).2⟩⟩
def pD(r:LG):Prop:=fh r/\0<=(gi r 0).iV/\(gi r 0).iV<=1000000
theorem aoG{t m s h:Int}{b x y:BY}(d:0<=t/\t<=1000000)(hm:0<=m/\m<=10)(hb:b∈l7)(k:c∈calls)(M:0<=s/\s<=1000)(N:0<=h/\h<=1000)(v:x∈names)(I:y∈names):
  pD [.i t,.i m,.s b,.s c,.i s,.i h,.s x,.s y]:=
 ⟨⟨t,m,b,c,s,h,x,y,rfl,by unfold small; omega,by unfold small; omega,by unfold small; omega,by unfold small; omega,hb,k,v,I⟩,d⟩
def nR(m:LL)(B:Int):Prop:=∀k,0<=(gi (cR [.str] m [.s k] [.i 0]) 0).iV/\(gi (cR [.str] m [.s k] [.i 0]) 0).iV<=B
theorem nR.add{m:LL}{B:Int}(h:nR m B)(k:BY)(c:Nat):nR (dV [.str] m [.s k] [.i ((gi (cR [.str] m [.s k] [.i 0]) 0).iV+1)] c) (B+1):=fun s=>by
 have h1:=h k;have d:=h s;rw[wQ,DV];by_cases e:s=k
 ·rw[dE e,cT]
  show 0<=(gi (cR [.str] m [.s k] [.i 0]) 0).iV+1/\(gi (cR [.str] m [.s k] [.i 0]) 0).iV+1<=B+1
  omega
 grind
theorem Xb{n:BY->Nat}(d:kD Q ba n){a t i:Int}{b:BY}(hn:n b<=1000){h v y:Int}{M N O U:BY}(hy:Q [.i h,.i v,.s M,.s N,.i y,.i I,.s O,.s U])(f:Bool):
  ∃(W:LL) (clk':Nat),zl [.l l,.i a,.l ba,.i (bk:Int),.l ser,.i (c2:Int),.l cs,.i t,.s b,.l [[.i h,.i v,.s M,.s N,.i y,.i I,.s O,.s U]],.i nn,.i i,.t f] =
   some (some 0,[.l l,.i a,.l W,.i (clk':Int),.l ser,.i (c2:Int),.l cs,.i t,.i nn,.i i])/\kD Q W (fun s=>if s=b then n s+1 else n s):=by
 have hl:=(d.get b).1;cases f with
 |false=>
  refine⟨ba,bk,aa.toEq ?_,d.mono fun k=>by split<;>omega⟩;unfold zl
  (dsimp only[go_sem])
  simp_all[aa.some]
 |true=>
  refine⟨p_ [.str] (iq [.str] ba [.s b]) [.s b] (fY [.str] ba [.s b]++[[.i h,.i v,.s M,.s N,.i y,.i I,.s O,.s U]]) bk,dK [.str] (iq [.str] ba [.s b]) [.s b] bk,aa.toEq ?_,d.add b hy bk⟩;unfold zl
  (dsimp only[go_sem])
  simp only[a7];exact aa.pos rfl (aa.pos (d.fG b) (aa.pos bS (aa.pos au (aa.some rfl))))
theorem Xc{n:BY->Nat}(I:kD Q ba n){a t i:Int}(ha:0<=a)(ha1:a<=100000){b:BY}(hn:n b<=1000){M N O U:Int}{W k y6 y7:BY}(hy:Q [.i M,.i N,.s W,.s k,.i O,.i U,.s y6,.s y7]):
  ∃(d:LL) (h:Nat) (v:Int),a<=v/\v<=a+1/\zm [.l l,.i a,.l ba,.i (bk:Int),.l ser,.i (c2:Int),.l cs,.i t,.s b,.l [[.i M,.i N,.s W,.s k,.i O,.i U,.s y6,.s y7]],.i nn,.i i] =
   some (some 0,[.l l,.i v,.l d,.i (h:Int),.l ser,.i (c2:Int),.l cs,.i t,.i nn,.i i])/\kD Q d (fun s=>if s=b then n s+1 else n s):=by
 cases hb : !(k.toList==b.toList)with
 |false=>
  obtain⟨d,h,h1,y⟩:=Xb (l:=l) (ser:=ser) (cs:=cs) (bk:=bk) (c2:=c2) I (a:=a) (t:=t) (nn:=nn) (i:=i) (b:=b) hn hy false;refine⟨d,h,a,Ey _,ab,aa.toEq ?_,y⟩;unfold zm
  (dsimp only[go_sem])
  simp only[a7];refine aa.neg hb ?_;refine aa.tail (P:=fun u g=>u=0/\g=[.l l,.i a,.l d,.i (h:Int),.l ser,.i (c2:Int),.l cs,.i t,.i nn,.i i]) ⟨_,h1,0,rfl,rfl,rfl⟩ fk ?_;rintro _ _ ⟨rfl,rfl⟩
  (dsimp only[go_sem])
  grind[aa.some]
 |true=>
  obtain⟨_,hf,f,rfl⟩:=DM l a 8 ha ab ab ab;obtain⟨d,h,h1,y⟩:=Xb (l:=l) (ser:=ser) (cs:=cs) (bk:=bk) (c2:=c2) I (a:=a+1) (t:=t) (nn:=nn) (i:=i) (b:=b) hn hy (!f);refine⟨d,h,a+1,ab,Ey _,aa.toEq ?_,y⟩;unfold zm
  (dsimp only[go_sem])
  simp only[a7];refine aa.pos hb ?_;refine aa.cE hf ?_
  (dsimp only[go_sem])
  refine aa.tail (P:=fun u g=>u=0/\g=[.l l,.i (a+1),.l d,.i (h:Int),.l ser,.i (c2:Int),.l cs,.i t,.i nn,.i i]) ⟨_,h1,0,rfl,rfl,rfl⟩ fk ?_;rintro _ _ ⟨rfl,rfl⟩
  (dsimp only[go_sem])
  grind[aa.some]
theorem AA(I:kD Q ba fun _=>n){a t i:Int}(ha:0<=a)(W:a<=100000){v b:BY}(hab:v≠b)(hn:n<=999){x0 x1 x4 x5:Int}{x2 M x6 x7:BY}(hx:Q [.i x0,.i x1,.s x2,.s M,.i x4,.i x5,.s x6,.s x7]){y0 y1 y4 y5:Int}{y2 y3 y6 y7:BY}(hy:Q [.i y0,.i y1,.s y2,.s y3,.i y4,.i y5,.s y6,.s y7]):
  ∃(h:LL) (y:Nat) (d:Int),a<=d/\d<=a+1/\rb [.l l,.i a,.l ba,.i (bk:Int),.l ser,.i (c2:Int),.i x0,.i x1,.s x2,.s M,.i x4,.i x5,.s x6,.s x7,.l cs,.i t,.s v,.s b,.l [[.i y0,.i y1,.s y2,.s y3,.i y4,.i y5,.s y6,.s y7]],.i nn,.i i] =
   some (some 0,[.l l,.i d,.l h,.i (y:Int),.l ser,.i (c2:Int),.l cs,.i t,.i nn,.i i])/\kD Q h (fun _=>n+1):=by
 have hl:=(I.get v).1;cases hc : !(M.toList==v.toList)with
 |false=>
  obtain⟨h,y,d,N,O,h1,U⟩:=Xc (l:=l) (ser:=ser) (cs:=cs) (bk:=bk) (c2:=c2) I (a:=a) (t:=t) (nn:=nn) (i:=i) ha W (b:=b) ab hy;refine⟨h,y,d,N,O,aa.toEq ?_,U.mono fun k=>by split<;>omega⟩;unfold rb
  (dsimp only[go_sem])
  simp only[a7];refine aa.neg hc ?_;refine aa.tail (P:=fun u g=>u=0/\g=[.l l,.i d,.l h,.i (y:Int),.l ser,.i (c2:Int),.l cs,.i t,.i nn,.i i]) ⟨_,h1,0,rfl,rfl,rfl⟩ fk ?_;rintro _ _ ⟨rfl,rfl⟩
  (dsimp only[go_sem])
  grind[aa.some]
 |true=>
  obtain⟨h,y,d,N,O,h1,U⟩:=Xc (l:=l) (ser:=ser) (cs:=cs) (bk:=dK [.str] (iq [.str] ba [.s v]) [.s v] bk) (c2:=c2) (I.add v hx bk) (a:=a) (t:=t) (nn:=nn) (i:=i) ha W (b:=b) (by split<;>omega) hy;refine⟨h,y,d,N,O,aa.toEq ?_,U.mono fun k=>?_⟩
  ·unfold rb
   (dsimp only[go_sem])
   simp only[a7];refine aa.pos hc (aa.pos (I.fG v) (aa.pos bS (aa.pos au ?_)));refine aa.tail (P:=fun u g=>u=0/\g=[.l l,.i d,.l h,.i (y:Int),.l ser,.i (c2:Int),.l cs,.i t,.i nn,.i i]) ⟨_,h1,0,rfl,rfl,rfl⟩ fk ?_;rintro _ _ ⟨rfl,rfl⟩
   (dsimp only[go_sem])
   grind[aa.some]
  grind
theorem nR.mono{m:LL}{B d:Int}(h:nR m B)(hb:B<=d):nR m d:=fun k=>⟨(h k).1,OZ (h k).2 hb⟩
theorem nR.nil:nR [] 0:=fun k=>⟨Ey 0,Ey 0⟩
theorem AB{X:bp}{k y:LL}{t M i:Int}{v N:Nat}
  (hX:X=some (some 0,[.l l,.i I,.l k,.i (v:Int),.l y,.i (N:Int),.l cs,.i t,.i M,.i i])) (hi:aA (i+1)=true) :
  aa (be true (c7 X) fun U d=>(be true (c7 (nH [.l (gi d 0).rZ,.i (gi d 1).iV,.l (gi d 2).rZ,.i (((gi d 3).iV.toNat:Nat):Int),.l (gi d 4).rZ,.i (((gi d 5).iV.toNat:Nat):Int),.l (gi d 6).rZ,.i (gi d 7).iV,.i (gi d 8).iV,.i (gi d 9).iV])) fun W h=>some ((none:Option Nat),([.l (gi h 0).rZ,.i (gi h 1).iV,.l (gi h 2).rZ,.i (((gi h 3).iV.toNat:Nat):Int),.l (gi h 4).rZ,.i (((gi h 5).iV.toNat:Nat):Int),.l (gi h 6).rZ,.i (gi h 7).iV,.i (gi h 8).iV,.i (gi h 9).iV]:LG))))
   fun o=>o=(none,[.l l,.i I,.l k,.i (v:Int),.l y,.i (N:Int),.l cs,.i t,.i M,.i (i+1)]):=by
 refine aa.tail (P:=fun u g=>u=0/\g=[.l l,.i I,.l k,.i (v:Int),.l y,.i (N:Int),.l cs,.i t,.i M,.i i]) ⟨_,hX,0,rfl,rfl,rfl⟩ fk ?_;rintro _ _ ⟨rfl,rfl⟩
 (dsimp only[go_sem])
 simp only[a7];have O:nH [.l l,.i I,.l k,.i (v:Int),.l y,.i (N:Int),.l cs,.i t,.i M,.i i]=some (some 0,[.l l,.i I,.l k,.i (v:Int),.l y,.i (N:Int),.l cs,.i t,.i M,.i (i+1)]):=by
  refine aa.toEq ?_;unfold nH
  (dsimp only[go_sem])
  simp only[a7]
  simp_all[aa.some]
 refine aa.tail (P:=fun u g=>u=0/\g=[.l l,.i I,.l k,.i (v:Int),.l y,.i (N:Int),.l cs,.i t,.i M,.i (i+1)]) ⟨_,O,0,rfl,rfl,rfl⟩ fk ?_;rintro _ _ ⟨rfl,rfl⟩
 (dsimp only[go_sem])
 grind[aa.some]
theorem aoH{h v:LL}{y t i:Int}{M:Nat}(hi:aA (i+1)=true):
  aa (be true (c7 (nH [.l l,.i y,.l h,.i (k:Int),.l v,.i (M:Int),.l cs,.i t,.i I,.i i])) fun O d=>some ((none:Option Nat),([.l (gi d 0).rZ,.i (gi d 1).iV,.l (gi d 2).rZ,.i (((gi d 3).iV.toNat:Nat):Int),.l (gi d 4).rZ,.i (((gi d 5).iV.toNat:Nat):Int),.l (gi d 6).rZ,.i (gi d 7).iV,.i (gi d 8).iV,.i (gi d 9).iV]:LG)))
   fun o=>o=(none,[.l l,.i y,.l h,.i (k:Int),.l v,.i (M:Int),.l cs,.i t,.i I,.i (i+1)]):=by
 have N:nH [.l l,.i y,.l h,.i (k:Int),.l v,.i (M:Int),.l cs,.i t,.i I,.i i]=some (some 0,[.l l,.i y,.l h,.i (k:Int),.l v,.i (M:Int),.l cs,.i t,.i I,.i (i+1)]):=by
  refine aa.toEq ?_;unfold nH
  (dsimp only[go_sem])
  simp only[a7]
  simp_all[aa.some]
 refine aa.tail (P:=fun u g=>u=0/\g=[.l l,.i y,.l h,.i (k:Int),.l v,.i (M:Int),.l cs,.i t,.i I,.i (i+1)]) ⟨_,N,0,rfl,rfl,rfl⟩ fk ?_;rintro _ _ ⟨rfl,rfl⟩
 (dsimp only[go_sem])
 grind[aa.some]
theorem aoI{B:Int}(U:kD pD ba fun _=>n)(hS:nR ser B)(hc0:(dv 1 cs.length&&dv cs.length 1000000)=true) (cC:(cs.all fun x=>pt calls (gi x 0).sV)=true)
  (hB:0<=B) (hB1:B<=900) {a t nn i:Int} (ha:0<=a) (ha1:a<=90000) (ht:0<=t) (ht1:t<=900000) (hn:n<=900) (hi0:0<=i) (hi:i<nn) (hnn:nn<=100000) :
  aa (zn [.l l,.i a,.l ba,.i (bk:Int),.l ser,.i (c2:Int),.l cs,.i t,.i nn,.i i]) fun o=>∃(b:Int) (k:LL) (N:Nat) (ser':LL) (c2':Nat) (t':Int),o=(none,[.l l,.i b,.l k,.i (N:Int),.l ser',.i (c2':Int),.l cs,.i t',.i nn,.i (i+1)]) /\
   a<=b/\b<=a+10/\kD pD k (fun _=>n+1)/\nR ser' (B+2)/\t<=t'/\t'<=t+1000:=by
 have O:aA (i+1)=true:=by simp only[aA,sl]<;>omega
 unfold zn
 (dsimp only[go_sem])
 (repeat first|refine aa.p ?_|refine aa.n ?_);refine aa.call (sI 0 1000 l a _ ha ab aB aB) ?_;rintro _ ⟨I,rfl,hd0,hd1⟩
 (dsimp only[go_sem])
 (repeat first|refine aa.p ?_|refine aa.n ?_);refine aa.call (nI calls l (a+1) cs ab ab hc0 cC) ?_;rintro _ ⟨M,rfl,hca⟩
 (dsimp only[go_sem])
 refine aa.call (nI calls l (a+1+1) _ ab ab aB aB) ?_;rintro _ ⟨b,rfl,hb⟩
 (dsimp only[go_sem])
 simp only[a7];by_cases v:M=b
 ·refine aa.pos (by rw[v,l8]; exact dE rfl) ?_
  refine(aoH O).mono ?_;rintro _ rfl;exact⟨_,_,_,_,_,_,rfl,ab,ab,U.mono fun _=>by omega,hS.mono ab,ab,ab⟩
 refine aa.neg (by rw[l8]; exact decide_eq_false v) ?_;obtain⟨s1,e1⟩:∃z,z=dV [.str] ser [.s M] [.i ((gi (cR [.str] ser [.s M] [.i 0]) 0).iV+1)] c2:=⟨_,rfl⟩
 have hS1:nR s1 (B+1):=e1▸hS.add M c2;obtain⟨k1,f1⟩:∃z,z=dK [.str] ser [.s M] c2:=⟨_,rfl⟩
 obtain⟨s2,e2⟩:∃z,z=dV [.str] s1 [.s b] [.i ((gi (cR [.str] s1 [.s b] [.i 0]) 0).iV+1)] k1:=⟨_,rfl⟩
 have hS2:nR s2 (B+2):=by
  have:=hS1.add b k1;rw[<-e2]at this
  grind
 obtain⟨k2,f2⟩:∃z,z=dK [.str] s1 [.s b] k1:=⟨_,rfl⟩
 simp only[<-f1,<-e1];simp only[<-f2,<-e2];have v1:=hS M;have v2:=hS1 b;obtain⟨p,ep⟩:∃p,p=(gi (cR [.str] s2 [.s M] [.i 0]) 0).iV:=⟨_,rfl⟩
 obtain⟨q,eq⟩:∃p,p=(gi (cR [.str] s2 [.s b] [.i 0]) 0).iV:=⟨_,rfl⟩
 simp only[<-ep,<-eq];have v3:0<=p/\p<=B+2:=ep▸hS2 M;have v4:0<=q/\q<=B+2:=eq▸hS2 b;(repeat first|refine aa.p ?_|refine aa.n ?_);refine aa.call (nI l7 l (a+1+1+1) _ ab ab aB aB) ?_;rintro _ ⟨bd,rfl,W⟩
 (dsimp only[go_sem])
 refine aa.call (sI 1 2 l (a+1+1+1+1) _ ab ab aB aB) ?_;rintro _ ⟨m,rfl,hm0,hm1⟩
 (dsimp only[go_sem])
 refine aa.call (sI 0 200 l (a+1+1+1+1+1) _ ab ab aB aB) ?_;rintro _ ⟨d2,rfl,hd2,hd3⟩
 (dsimp only[go_sem])
 (repeat first|refine aa.p ?_|refine aa.n ?_);refine aa.call (xf l (a+1+1+1+1+1+1) 8 ab ab ab ab) ?_;rintro _ ⟨cs',rfl,hc3,hc4⟩
 (dsimp only[go_sem])
 have hb':b∈calls:=hb;have hx0:(⟨#[]⟩:BY)∈names:=qo aB;have hx1:(⟨#[120]⟩:BY)∈names:=qo aB;have mk:∀{t' m' s h:Int} {b' c x y:BY},0<=t'/\t'<=1000000->0<=m'/\m'<=10->b'∈l7->c∈calls->0<=s/\s<=1000->0<=h/\h<=1000->x∈names->y∈names->pD [.i t',.i m',.s b',.s c,.i s,.i h,.s x,.s y]:=fun h1 d h3 h4 h5 h6 h7 h8=>aoG h1 d h3 h4 h5 h6 h7 h8;have hx:∀{c:BY} {h:Int} {y:BY},c∈calls->0<=h/\h<=1000->y∈names->pD [.i (t+I),.i m,.s bd,.s c,.i p,.i h,.s ⟨#[]⟩,.s y]:=fun h1 d h3=>mk ab ab W h1 ab d hx0 h3;have hy:∀{b' c:BY},b'∈l7->c∈calls->pD [.i (t+I+d2),.i m,.s b',.s c,.i q,.i p,.s ⟨#[120]⟩,.s ⟨#[]⟩]:=fun h0 h1=>mk ab ab h0 h1 ab ab hx1 hx0;by_cases c0:cs'=0
 ·refine aa.pos (by simp[c0]) ?_
  refine aa.call (nI calls l (a+1+1+1+1+1+1+1) _ ab ab aB aB) ?_;rintro _ ⟨w,rfl,hw⟩
  (dsimp only[go_sem])
  obtain⟨k,N,a',g1,g2,h1,d⟩:=AA (l:=l) (ser:=s2) (cs:=cs) (bk:=bk) (c2:=k2) U (a:=a+1+1+1+1+1+1+1+1) (t:=t+I) (nn:=nn) (i:=i) ab ab v ab (hx hw (h:=q) ab hx1) (hy W hca);refine(AB h1 O).mono ?_;rintro _ rfl
  grind
 refine aa.neg (by simp[c0]) ?_;by_cases c1:cs'=1
 ·refine aa.pos (by simp[c1]) ?_
  refine aa.call (nI calls l (a+1+1+1+1+1+1+1) _ ab ab aB aB) ?_;rintro _ ⟨w,rfl,hw⟩
  (dsimp only[go_sem])
  obtain⟨k,N,a',g1,g2,h1,d⟩:=AA (l:=l) (ser:=s2) (cs:=cs) (bk:=bk) (c2:=k2) U (a:=a+1+1+1+1+1+1+1+1) (t:=t+I) (nn:=nn) (i:=i) ab ab v ab (hx hb (h:=q) ab hx1) (hy W hw);refine(AB h1 O).mono ?_;rintro _ rfl
  grind
 refine aa.neg (by simp[c1]) ?_;by_cases c2':cs'=2
 ·refine aa.pos (by simp[c2']) ?_
  (repeat first|refine aa.p ?_|refine aa.n ?_);obtain⟨k,N,a',g1,g2,h1,d⟩:=AA (l:=l) (ser:=s2) (cs:=cs) (bk:=bk) (c2:=k2) U (a:=a+1+1+1+1+1+1+1) (t:=t+I) (nn:=nn) (i:=i) ab ab v ab (hx hb (h:=q+1) ab hx1) (hy W hca);refine(AB h1 O).mono ?_;rintro _ rfl
  grind
 refine aa.neg (by simp[c2']) ?_;by_cases c3:cs'=3
 ·refine aa.pos (by simp[c3]) ?_
  obtain⟨k,N,a',g1,g2,h1,d⟩:=AA (l:=l) (ser:=s2) (cs:=cs) (bk:=bk) (c2:=k2) U (a:=a+1+1+1+1+1+1+1) (t:=t+I) (nn:=nn) (i:=i) ab ab v ab (hx hb (h:=q) ab hx0) (hy W hca);refine(AB h1 O).mono ?_;rintro _ rfl
  grind
 refine aa.neg (by simp[c3]) ?_;by_cases c4:cs'=4
 ·refine aa.pos (by simp[c4]) ?_
  refine aa.call (nI l7 l (a+1+1+1+1+1+1+1) _ ab ab aB aB) ?_;rintro _ ⟨w,rfl,hw⟩
  (dsimp only[go_sem])
  obtain⟨k,N,a',g1,g2,h1,d⟩:=AA (l:=l) (ser:=s2) (cs:=cs) (bk:=bk) (c2:=k2) U (a:=a+1+1+1+1+1+1+1+1) (t:=t+I) (nn:=nn) (i:=i) ab ab v ab (hx hb (h:=q) ab hx1) (hy hw hca);refine(AB h1 O).mono ?_;rintro _ rfl
  grind
 refine aa.neg (by simp[c4]) ?_;obtain⟨k,N,a',g1,g2,h1,d⟩:=AA (l:=l) (ser:=s2) (cs:=cs) (bk:=bk) (c2:=k2) U (a:=a+1+1+1+1+1+1+1) (t:=t+I) (nn:=nn) (i:=i) ab ab v ab (hx hb (h:=q) ab hx1) (hy W hca);refine(AB h1 O).mono ?_;rintro _ rfl
 grind
theorem Xd{l cs:LL}(N:(dv 1 cs.length&&dv cs.length 1000000)=true) (cC:(cs.all fun x=>pt calls (gi x 0).sV)=true) {n:Nat} (hn:n<=14):∀(k i:Nat) (ba v:LL) (bk y:Nat) (a t:Int),i+k=n->0<=a->a<=1000+10*i->0<=t->t<=1000*i->kD pD ba (fun _=>i)->nR v (2*i) ->
  aR zn [.l l,.i a,.l ba,.i (bk:Int),.l v,.i (y:Int),.l cs,.i t,.i (n:Int),.i (i:Int)] (k+1) fun c g=>c=0/\∃(b:Int) (d:LL) (I:Nat),g=[.l l,.i b,.l d,.i (I:Int),.l cs]/\a<=b/\b<=a+10*k/\kD pD d (fun _=>n)
 |0,i,ba,v,bk,y,a,t,hi,ha,ha1,O,ht1,M,U=>by
  refine aR.stop (x:=0) (aa.toEq ?_) ⟨rfl,a,ba,bk,rfl,ab,ab,M.mono fun _=>by omega⟩;unfold zn
  (dsimp only[go_sem])
  simp only[a7];(repeat first|refine aa.p ?_|refine aa.n ?_)
  grind[aa.some]
 |k+1,i,ba,v,bk,y,a,t,hi,ha,ha1,O,ht1,M,U=>by
  obtain⟨_,h,b,d,I,W,c2',t',rfl,g1,g2,g3,g4,g5,g6⟩:=aoI (l:=l) (bk:=bk) (c2:=y) M U N cC ab ab (a:=a) (t:=t) (nn:=n) (i:=i) ha ab O ab ab ab ab ab;have ih:=Xd (l:=l) N cC hn k (i+1) d W I c2' b t' ab ab ab ab ab g3 (g4.mono ab);refine aR.next h (ih.mono ?_)
  grind
def uW(r s:LG):Bool:=j5 r s==0
theorem aoJ:GW [.I,.I,.str,.str,.I,.I,.str,.str] CV fh uW:=⟨fun r s hr d=>by
 refine aa.toEq ?_;unfold CV
 (dsimp only[go_sem])
 simp only[hr.eta,d.eta];refine aa.cE (ND hr d) ?_;exact aa.some rfl,fun _ h=>h.eta⟩
def zS:LG:=[.i 0,.i 0,.s (⟨#[]⟩:BY),.s (⟨#[]⟩:BY),.i 0,.i 0,.s (⟨#[]⟩:BY),.s (⟨#[]⟩:BY)]
def Xe(c:BY)(r:LG):Prop:=∃L:LL,r=[.s c,.l L]/\(∀z∈L,pD z)/\L.length<=14
def pE(c:BY):LG:=[.s c]
theorem Xf{l:LL}{a:Int}:∀(q p:List BY) (ba d:LL) (bk:Nat),(∀c∈q,fG [.str] ba [.s c]=true/\(fY [.str] ba [.s c]).length<=14/\∀z∈fY [.str] ba [.s c],pD z)->q.Pairwise (·≠·)->d.length=p.length->p.length+q.length<=100 ->
  aR zo [.l l,.i a,.l ba,.i (bk:Int),.l d,.l ((p++q).map pE),.i ((p.length+q.length:Nat):Int),.i (p.length:Int)] (q.length+1) fun c g=>c=0/\∃L:LL,g=[.l l,.i a,.l (d++L)]/\L.length=q.length/\∀i,i<q.length->Xe (q.getD i ⟨#[]⟩) (L.getD i [])
 |[],p,ba,d,bk,hq,v,I,hn=>by
  refine aR.stop (x:=0) (aa.toEq ?_) ⟨rfl,[],rfl,rfl,fun i hi=>by cases hi⟩;unfold zo
  (dsimp only[go_sem])
  (repeat first|refine aa.p ?_|refine aa.n ?_);exact aa.some au
 |c::q,p,ba,d,bk,hq,v,I,hn=>by
  simp only[cz]at hn;obtain⟨h1,h2,y⟩:=hq c au;have g1:((p++c::q).map pE).getD (p.length:Int).toNat []=pE c:=by
   rw[kj,e9]
   grind
  have hc:((p++c::q).map pE).length=p.length+(q.length+1):=au;obtain⟨M,N⟩:∃M,M=fY [.str] ba [.s c]:=⟨_,rfl⟩
  rw[<-N]at h2 y;have O:=afh (lt:=cr j5) y;have hsl:=y8 (cr j5) M;have hle:(eC uW (eP (cr j5) M)).length<=(eP (cr j5) M).length:=afm _ _;have U:=Xf (l:=l) (a:=a) q (p++[c]) (iq [.str] ba [.s c]) (d++[[.s c,.l (eC uW (eP (cr j5) M))]]) bk (by
   intro x W;obtain⟨q1,q2,q3⟩:=hq x (dh _ W);have hne:x≠c:=fun e=>(nf.1 v).1 x W e.symm
   grind[NV,NW,DV]) (nf.1 v).2 (by simp[I]) bS
  have key:aa (zo [.l l,.i a,.l ba,.i (bk:Int),.l d,.l ((p++c::q).map pE),.i ((p.length+(c::q).length:Nat):Int),.i (p.length:Int)]) fun o=>o=(none,[.l l,.i a,.l (iq [.str] ba [.s c]),.i (bk:Int),.l (d++[[.s c,.l (eC uW (eP (cr j5) M))]]),.l ((p++c::q).map pE),.i ((p.length+(c::q).length:Nat):Int),.i ((p.length:Int)+1)]):=by
   unfold zo
   (dsimp only[go_sem])
   simp only[g1,hc,pE,cz]
   (dsimp only[go_sem])
   simp only[a7,<-N];(repeat first|refine aa.p ?_|refine aa.n ?_);refine aa.jx (aa.eq (afl aoc M (fun z k=>(y z k).1) ab)) au ?_;rintro _ rfl
   (dsimp only[go_sem])
   refine aa.jx (P:=fun g=>∃ J,g=[.l (eC uW (eP (cr j5) M)++J),.i ((eC uW (eP (cr j5) M)).length:Int)]/\(eC uW (eP (cr j5) M)++J).length=(eP (cr j5) M).length)
    (afo (Z:=zS) aoJ (eP (cr j5) M) (fun z k=>(O z k).1) ab) (by simp[hsl]) ?_
   rintro _ ⟨J,rfl,hJ⟩
   (dsimp only[go_sem])
   simp only[a7,List.take_left'];refine aa.pos au (aa.pos bS (aa.p (aa.pos au (aa.some ?_))));rfl
  obtain⟨_,h,rfl⟩:=key;have e:((p++[c])++q).map pE=(p++c::q).map pE:=au;have e2:(((p++[c]).length+q.length:Nat):Int)=((p.length+(c::q).length:Nat):Int):=bS;have e3:(((p++[c]).length:Nat):Int)=(p.length:Int)+1:=au;rw[e,e2,e3]at U;refine aR.next h (U.mono ?_)
  rintro x g ⟨rfl,L,rfl,q1,q2⟩;refine⟨rfl,[.s c,.l (eC uW (eP (cr j5) M))]::L,au,by simp[q1],fun i hi=>?_⟩;cases i with
  |zero=>exact⟨_,rfl,fun z k=>O z (Mz k),ab⟩
  |succ i=>grind
def C4:List BY:=[⟨#[107,49,97,98]⟩,⟨#[111,104,50,97,98,99]⟩,⟨#[111,104,50,97,98,100]⟩,⟨#[119,49,97,119]⟩]
theorem aoK(l:LL):aa (Hc [.l l,.i 0]) fun g=>∃(b:Int) (L:LL) (m:Nat),g=[.l l,.i b,.l L]/\0<=b/\b<=1000/\1<=m/\m<=4/\L.length=m/\∀i,i<m->Xe (C4.getD i ⟨#[]⟩) (L.getD i []):=by
 unfold Hc
 (dsimp only[go_sem])
 refine aa.call (NA l 0 1 4 ab ab ab ab ab) ?_;rintro _ ⟨m,rfl,W,hm1⟩;obtain⟨m,rfl⟩:=O1 (by omega:0<=m)
 (dsimp only[go_sem])
 (repeat first|refine aa.p ?_|refine aa.n ?_);refine aa.call (NA l (0+1) 0 14 ab ab ab ab ab) ?_;rintro _ ⟨n,rfl,y,hn1⟩;obtain⟨n,rfl⟩:=O1 y
 (dsimp only[go_sem])
 obtain⟨cs,cC⟩:∃cs,cs=C4.take m:=⟨_,rfl⟩
 have I:cs.length=m:=by
  rw[cC,List.length_take];show min m 4=m
  omega
 have M:([[.s (⟨#[107,49,97,98]⟩:BY)],[.s (⟨#[111,104,50,97,98,99]⟩:BY)],[.s (⟨#[111,104,50,97,98,100]⟩:BY)],[.s (⟨#[119,49,97,119]⟩:BY)]]:LL).take ((m:Int).toNat)=cs.map pE:=by
  rw[cC,List.map_take];rfl
 simp only[M];have N:=Xd (l:=l) (cs:=cs.map pE) (by rw[cP,I]; simp; omega) (by
  rw[List.all_map,eD];intro c k;rw[cC]at k;have:c∈C4:=List.mem_of_mem_take k;have d:C4.all (fun c=>pt calls c)=true:=aB;exact eD.1 d c this) (by omega:n<=14) n 0 [] [] 0 0 (0+1+1) 0 ab ab ab ab ab (kD.nil _) (by exact nR.nil)
 refine aa.loop (N.to ab) fg ?_;rintro c g ⟨rfl,b,ba,bk,rfl,h2,h3,d⟩
 (dsimp only[go_sem])
 simp only[a7];have O:cs.Pairwise (·≠·):=by
  rw[cC];refine ata ?_;have d:(decide (C4.Pairwise fun a b=>a.data.toList≠b.data.toList))=true:=aB;exact(of_decide_eq_true d).imp fun h e=>h (by rw[e])
 have v:=Xf (l:=l) (a:=b) cs [] ba [] bk (fun c _=>⟨d.fG c,mU (d.get c).1 ab,(d.get c).2⟩) O rfl bS;simp only[mY,km,dj]at v;have U:((cs.map pE).length:Int)=(cs.length:Int):=by rw[cP]
 simp only[U];refine aa.loop (v.to ab) fg ?_;rintro c g ⟨rfl,L,rfl,q1,q2⟩
 (dsimp only[go_sem])
 refine aa.pos au (aa.some ⟨b,L,m,rfl,ab,ab,ab,ab,ab,fun i hi=>?_⟩)
 grind
def DW(K:List Kd)(C:LG->Option LG)(d:LG):bp:=
 (bif (aN (gi d 3).iV (gi d 2).iV) then (bif ((cO (gi d 3).iV)&&(aN (gi d 3).iV (((gi d 0).rZ.length:Nat):Int))) then (aI (C [.l [(bg K ((gi d 0).rZ.getD (((gi d 3).iV).toNat) []))],.l [(bg [.str,.list K] (gi d 1).rV)]]) fun h=>(bif (gi h 0).bV then some (some 0,[.i (gi d 3).iV]) else (bif (aA ((gi d 3).iV+1)) then some (none,[.l (gi d 0).rZ,.l [(bg [.str,.list K] (gi d 1).rV)],.i (gi d 2).iV,.i ((gi d 3).iV+1)]) else none))) else none) else some (some 1,[]))
def Xg(K:List Kd)(C:LG->Option LG)(d:LG):Option LG:=
 (aI (be true (bR (DW K C) [.l (gi d 0).rZ,.l [(bg [.str,.list K] (bg [.str,.list K] (gi d 1).rV))],.i (((gi d 0).rZ.length:Nat):Int),.i 0]) fun h k=>(bif aD h 0 then some [.i (gi k 0).iV] else some [.i (-1)])) fun v=>some [.t (bq 0 (gi v 0).iV)])
def pF(c:BY)(L:LL):Bool:=L.any fun z=>(gi z 3).sV.toList==c.toList
section
variable {C:LG->Option LG} {c:BY} {A:LL} (hC:∀z,fh z->C [.l [z],.l [[.s c,.l A]]]=some [.t ((gi z 3).sV.toList==c.toList)])
include hC
theorem Xh:∀(q p:LL),(∀z∈p++q,fh z)->p.length+q.length<100000 ->
  aR (DW [.I,.I,.str,.str,.I,.I,.str,.str] C) [.l (p++q),.l [[.s c,.l A]],.i ((p.length+q.length:Nat):Int),.i (p.length:Int)] (q.length+1) fun x g=>(x=0/\pF c q=true/\∃v:Int,0<=v/\g=[.i v])\/x=1/\pF c q=false
 |[],p,h,y=>by
  refine aR.stop (x:=1) (d':=[]) (aa.toEq ?_) (.inr ⟨rfl,rfl⟩);unfold DW
  (dsimp only[go_sem])
  (repeat first|refine aa.p ?_|refine aa.n ?_)
  grind[aa.some]
 |x::q,p,h,y=>by
  simp only[cz]at y;have d:fh x:=h x au;have M:(p++x::q).getD (p.length:Int).toNat []=x:=nD _ _ _ _ _ au;have k:(p++x::q).length=p.length+q.length+1:=bS;cases N:(gi x 3).sV.toList==c.toList with
  |true=>
   refine aR.stop (x:=0) (d':=[.i (p.length:Int)]) (aa.toEq ?_) (.inl ⟨rfl,by simp only[pF,Ex,N,Bool.true_or],_,ab,rfl⟩);unfold DW
   (dsimp only[go_sem])
   simp only[M,k,cz,d.eta];(repeat first|refine aa.p ?_|refine aa.n ?_);refine aa.cE (hC x d) ?_
   (dsimp only[go_sem])
   simp_all[aa.some]
  |false=>
   have O:=Xh q (p++[x]) (by simpa using h) bS;have U:(p++[x])++q=p++x::q:=au;have W:(((p++[x]).length+q.length:Nat):Int)=((p.length+(x::q).length:Nat):Int):=bS;have e3:(((p++[x]).length:Nat):Int)=(p.length:Int)+1:=au;rw[U,W,e3]at O;have e4:pF c (x::q)=pF c q:=by simp_all[pF]
   rw[e4];refine aR.next (aa.toEq ?_) O
   unfold DW
   (dsimp only[go_sem])
   simp only[M,k,cz,d.eta];(repeat first|refine aa.p ?_|refine aa.n ?_);refine aa.cE (hC x d) ?_
   (dsimp only[go_sem])
   refine aa.neg N (aa.p (aa.some rfl))
theorem Xi(L:LL)(h:∀z∈L,fh z)(k:L.length<100000):Xg [.I,.I,.str,.str,.I,.I,.str,.str] C [.l L,.l [[.s c,.l A]]]=some [.t (pF c L)]:=by
 refine aa.toEq ?_;unfold Xg
 (dsimp only[go_sem])
 have h1:=Xh hC L [] (by simpa using h) (by simpa using k);have h0:((0:Nat):Int)=0:=rfl;simp only[mY,km,dj,h0]at h1;refine aa.call (P:=fun g=>∃v:Int,g=[.i v]/\bq 0 v=pF c L) ?_ ?_
 ·refine aa.loop (h1.to ab) fg ?_
  rintro x g (⟨rfl,d,v,y,rfl⟩|⟨rfl,d⟩)
  ·exact aa.some ⟨v,rfl,by rw[d,fe]; exact dE y⟩
  ·exact aa.some ⟨-1,rfl,by rw[d]; rfl⟩
 ·rintro _ ⟨v,rfl,d⟩
  exact aa.some (congrArg (fun b=>[G.t b]) d)
end
def lF(c:BY)(L:LL):Int:=bif !jK c then 3 else bif nJ L != 0 then nJ L else bif pF c L then 6 else 0
theorem NX{L:LL}(h:lF c L=0):nJ L=0:=by
 unfold lF at h;cases h1:jK c with
 |false=>rw[h1]at h; cases h
 |true=>
  rw[h1]at h;cases d:nJ L != 0 with
  |false=>simpa using d
  |true=>
   rw[d]at h;simp only[Bool.not_true,cF,cT]at h;exact h
theorem Xj(h:c∈calls){L:LL}(d:∀z∈L,fh z)(hn:L.length<100000):HV [.l [[.s c,.l L]]]=some [.i (lF c L)]:=by
 refine aa.toEq ?_;unfold HV lF
 (dsimp only[go_sem])
 refine aa.cE (NG h) ?_
 (dsimp only[go_sem])
 cases jK c with
 |false=>grind[aa.some]
 |true=>
  refine aa.neg rfl ?_;refine aa.cE (aoh L d hn) ?_
  (dsimp only[go_sem])
  cases nJ L != 0 with
  |true=>grind[aa.some]
  |false=>
   refine aa.neg rfl ?_;refine aa.call (aa.eq (Xi (C:=HU) (c:=c) (A:=L) (fun z k=>by
    refine aa.toEq ?_;unfold HU
    (dsimp only[go_sem])
    grind[aa.some]) L d hn)) ?_
   rintro _ rfl
   (dsimp only[go_sem])
   grind[aa.some]
theorem pD.m{z:LG}(h:pD z):fI z:=by
 obtain⟨h,h0,h1⟩:=h;exact⟨h.eta,by unfold j6; omega,by unfold j6; omega⟩
def jN(k:Nat):List Nat->Option Nat
 |[]=>none
 |a::l=>bif a==k then some 0 else (jN k l).map (·+1)
theorem NY{k:Nat}:∀{l:List Nat},jN k l=none↔k∉l
 |[]=>by simp[jN]
 |a::l=>by
  unfold jN;cases h:a==k with
  |true=>grind
  |false=>
   simp at h;simp only[cF,Option.map_eq_none_iff,NY,c_,not_or]
   grind
theorem ID{k:Nat}:∀{l:List Nat} {n:Nat},jN k l=some n->n<l.length/\l.getD n 0=k
 |[],n,h=>by cases h
 |a::l,n,h=>by
  unfold jN at h;cases e:a==k with
  |true=>
   grind
  |false=>
   rw[e]at h;simp only[cF,Option.map_eq_some_iff]at h;obtain⟨m,h1,rfl⟩:=h;obtain⟨d,v⟩:=ID h1
   grind
theorem NZ{k:Nat}:∀{l:List Nat},k∉l->jN k (l++[k])=some l.length
 |[],_=>by simp[jN]
 |a::l,h=>by
  simp only[c_,not_or]at h;have e:(a==k)=false:=bS;show (bif a==k then some 0 else (jN k (l++[k])).map (·+1))=_
  rw[e,NZ h.2];rfl
theorem DX(a b:Int):aZ [.I] [.i a] [.i b]=decide (a=b):=by
 show ((a==b)&&true)=decide (a=b)
 grind
def bK:Nat->List Nat->LL
 |_,[]=>[]
 |i,k::ks=>[.l [[.i (k:Int)]],.i (i:Int),.i (i:Int)]::bK (i+1) ks
theorem Xk:∀(i:Nat) (A B:List Nat),bK i (A++B)=bK i A++bK (i+A.length) B
 |i,[],B=>by simp[bK]
 |i,a::A,B=>by
  show _::bK (i+1) (A++B)=_::(bK (i+1) A++bK (i+(A.length+1)) B)
  rw[Xk (i+1) A B,show i+1+A.length=i+(A.length+1) by omega]
theorem N0(k:Nat):∀(ks:List Nat) (i j:Nat),cH [.I] [.i (k:Int)] (bK i ks) j=(jN k ks).map fun n=>(j+n,([.l [[.i (k:Int)]],.i ((i+n:Nat):Int),.i ((i+n:Nat):Int)]:LG))
 |[],_,_=>rfl
 |a::ks,i,j=>by
  have d:=N0 k ks (i+1) (j+1);have e:aZ [.I] [.i (k:Int)] ((gi [.l [[.i (a:Int)]],.i (i:Int),.i (i:Int)] 0).rV)=(a==k):=by
   show aZ [.I] [.i (k:Int)] [.i (a:Int)]=_
   rw[DX];by_cases h:a=k
   grind
   grind
  show (bif _ then some (j,_) else cH _ _ (bK (i+1) ks) (j+1))=_
  rw[e,d];show _=Option.map _ (bif a==k then some 0 else (jN k ks).map (·+1))
  cases h:a==k with
  |true=>
   grind
  |false=>
   simp only[cF,Option.map_map];congr 1
   grind
theorem aoL(k:Nat)(ks:List Nat):dJ [.I] (bK 0 ks) [.i (k:Int)]=(jN k ks).isSome:=by
 unfold dJ;rw[N0,Option.isSome_map]
theorem IE(k:Nat)(ks:List Nat):o9 [.I] (bK 0 ks) [.i (k:Int)]=jN k ks:=by
 unfold o9;rw[N0];cases h:jN k ks with
 |none=>rfl
 |some n=>
  show (bif bq 0 ((0+n:Nat):Int) then some ((0+n:Nat):Int).toNat else none)=some n
  grind[fe]
theorem N1(r:LG):∀(ks:List Nat) (i j c:Nat),i+ks.length<=c->iY (c:Int) (bK i ks++[r]) j=iY (c:Int) [r] (j+ks.length)
 |[],i,j,c,_=>rfl
 |a::ks,i,j,c,h=>by
  simp only[cz]at h;have d:=N1 r ks (i+1) (j+1) c ab;show (bif ((i:Int).toNat:Int)==(c:Int) then _ else iY (c:Int) (bK (i+1) ks++[r]) (j+1))=_
  grind
theorem Xl:∀(i:Nat) (ks:List Nat),(bK i ks).length=ks.length
 |_,[]=>rfl
 |i,_::ks=>by simp[bK,Xl (i+1) ks]
def AD(k c:Nat):LG:=[.l [[.i (k:Int)]],.i (-1),.i (c:Int)]
theorem Xm(k c j:Nat):iY (c:Int) [AD k c] j=some (j,AD k c):=by
 show (bif ((c:Int).toNat:Int)==(c:Int) then _ else _)=_
 grind
theorem aoM(k:Nat)(ks:List Nat):yF (bK 0 ks++[AD k ks.length]) (ks.length:Int)=true:=by
 unfold yF;rw[N1 _ _ _ _ _ ab,Xm];rfl
theorem aoN(k:Nat)(ks:List Nat):yG (bK 0 ks++[AD k ks.length]) (ks.length:Int) ks.length=bK 0 (ks++[k]):=by
 unfold yG;rw[N1 _ _ _ _ _ ab,Xm,Xk];show (bK 0 ks++[AD k ks.length]).set (0+ks.length) _=_
 rw[xm (bK 0 ks) _ _ [] _ (by rw[Xl,dj])];rw[dj];rfl
def jO(d:LG->LG × LG)(q:LL)(a:LL × Nat):LL × Nat:=
 q.foldl (fun a r=>(dV [.I] a.1 (d r).1 (d r).2 a.2,dK [.I] a.1 (d r).1 a.2)) a
def rr(a:LL × Nat):LG:=[.l a.1,.i (a.2:Int)]
def AE(r:LG):LG × LG:=([.i (gi r 0).iV],[.i (gi r 1).iV])
def DY(r:LG):LG × LG:=([.i (gi r 1).iV],[.t true])
def fp(p:LL):LG:=rr (jO AE p ([],0))
def fi(p:LL):LG:=rr (jO DY p ([],0))
theorem Xn(d:LG->LG × LG)(p:LL)(r:LG)(a:LL × Nat) :
  jO d (p++[r]) a=(dV [.I] (jO d p a).1 (d r).1 (d r).2 (jO d p a).2,dK [.I] (jO d p a).1 (d r).1 (jO d p a).2):=by
 unfold jO;rw[Ju];rfl
theorem Xo(M:LL)(a:LL × Nat)(key val:LG) :
  yE (M++[rr a]) (some M.length) [.I] key val=M++[rr (dV [.I] a.1 key val a.2,dK [.I] a.1 key a.2)]:=by
 unfold yE;have e:mC (M++[rr a]) (some M.length)=rr a:=by
  show (M++[rr a]).getD M.length []=_
  rw[dc];simp
 rw[e];show (M++[rr a]).set M.length _=_
 rw[xm M _ _ [] _ rfl];show M++[[.l (dV [.I] a.1 key val (a.2:Int).toNat),.i ((dK [.I] a.1 key (a.2:Int).toNat:Nat):Int)]]=_
 rw[a7];rfl
theorem Xp(M:LL)(x:LG):qa (M++[x]) (some M.length)=true:=by
 show Nat.blt M.length (M++[x]).length=true
 simp
theorem Xq(d:LG->LG × LG)(key:LG):∀(q:LL) (a:LL × Nat),dJ [.I] (jO d q a).1 key=(q.any (fun r=>aZ [.I] key (d r).1)||dJ [.I] a.1 key)
 |[],a=>rfl
 |r::q,a=>by
  show dJ [.I] (jO d q (_,_)).1 key=_
  rw[Xq d key q]
  grind[CI]
theorem N2(d:LG->LG × LG)(key z:LG):∀(q:LL) (a:LL × Nat),(∃r∈q,aZ [.I] key (d r).1=true/\cR [.I] (jO d q a).1 key z=(d r).2) \/
  (∀r∈q,aZ [.I] key (d r).1=false)/\cR [.I] (jO d q a).1 key z=cR [.I] a.1 key z
 |[],a=>.inr ⟨fun _ h=>(by cases h),rfl⟩
 |r::q,a=>by
  show (∃_,_/\_/\cR [.I] (jO d q (dV [.I] a.1 (d r).1 (d r).2 a.2,_)).1 key z=_)\/_/\cR [.I] (jO d q (dV [.I] a.1 (d r).1 (d r).2 a.2,_)).1 key z=_
  rcases N2 d key z q (dV [.I] a.1 (d r).1 (d r).2 a.2,dK [.I] a.1 (d r).1 a.2)with⟨s,h1,k,v⟩|⟨h1,k⟩
  grind
  ·rw[k,wQ]
   cases e:aZ [.I] key (d r).1<;>grind
structure DZ (m i:Nat) (r:LL):Prop where
 len:r.length=m
 val:∀j,j<m->∃v:Int,r.getD j []=[.i v]/\0<=v/\v<=(i:Int)+(j:Int)
theorem DZ.set{m i k:Nat}{r:LL}(h:DZ m i r){v:Int}(h0:0<=v)(h1:v<=(i:Int)+(k:Int)):DZ m i (r.set k [.i v]):=by
 refine⟨by rw[nV,h.len],fun j d=>?_⟩;by_cases e:k=j
 ·subst e
  refine⟨v,?_,h0,h1⟩;rw[dc,cG (by rw[h.len]; exact d)];rfl
 ·obtain⟨w,y,I⟩:=h.val j d
  grind
theorem DZ.zero(m i:Nat):DZ m i (cn m [.i 0]):=by
 refine⟨vt ..,fun j d=>⟨0,?_,Ey 0,ab⟩⟩
 grind
def aoO(r:LG)(x:Nat)(g:LG):Prop:=x=0/\g=r
structure mP (L:LL) (C:Nat->BY) (A:Nat->LL):Prop where
 get:∀i,i<L.length->L.getD i []=[.s (C i),.l (A i)]
 n:L.length<=40
 lG:∀i,i<L.length->∀z∈A i,fI z/\(gi z 3).sV.size<=100
 na:∀i,i<L.length->(A i).length<=40
 cs:∀i,i<L.length->(C i).size<=100
 xp:∀i j,i<j->j<L.length->dD (C i) (C j)<0
theorem aoP:((fm 80).all fun n=>nZ .u64 (IntKind.u64.wrap ((n:Nat):Int)) 1==((n / 2:Nat):Int))=true:=aB
theorem aoQ(i j:Nat)(h:i+j<80):nZ .u64 (IntKind.u64.wrap ((i:Int)+(j:Int))) 1=(((i+j) / 2:Nat):Int):=by
 have:=eD.1 aoP (i+j) (iQ.2 h)
 grind
section
variable {L:LL} {C:Nat->BY} {A:Nat->LL} (S:mP L C A)
include S
theorem mP.two(hi:i<L.length)(h:k<L.length):jM (A i) (A k):=
 ⟨fun z d=>(S.lG i hi z d).1,fun z d=>(S.lG k h z d).1,by have:=S.na i hi; omega,by have:=S.na k h; omega⟩
theorem mP.mem(hi:i<L.length)(d:j<(A i).length):fI ((A i).getD j [])/\(gi ((A i).getD j []) 3).sV.size<=100:=
 S.lG i hi _ (by rw[dc,cB d]; exact vp d)
theorem mP.key(hi:i<L.length):(gi (L.getD i []) 0).sV=C i:=by rw[S.get i hi]; rfl
theorem N3(s:BY):∀(m i j:Nat),j<=i+m->i<=j->j<=L.length->(∀t,t<i->dD (C t) s<0)->(∀t,j<=t->t<L.length->¬ dD (C t) s<0) ->
  aR zu [.l L,.s s,.i (L.length:Int),.i (i:Int),.i (j:Int)] (m+1) fun x g=>x=0/\∃p:Nat,g=[.l L,.s s,.i (L.length:Int),.i (p:Int)]/\p<=L.length/\(∀t,t<p->dD (C t) s<0)/\(∀t,p<=t->t<L.length->¬ dD (C t) s<0)
 |m,i,j,hm,W,v,h1,y=>by
  have hs:=S.n;by_cases he:i=j
  ·subst he
   refine aR.stop (x:=0) (aa.toEq ?_) ⟨rfl,i,rfl,v,h1,y⟩;unfold zu
   (dsimp only[go_sem])
   exact aa.n (aa.some rfl)
  ·obtain⟨m',rfl⟩:∃m',m=m'+1:=⟨m - 1,ab⟩
   have O:=aoQ i j ab;have k:(i+j) / 2<L.length:=ab;have M:=S.get _ k;have step:∀o,(bif aN (dD (C ((i+j) / 2)) s) 0 then some ((none:Option Nat),[G.l L,.s s,.i (L.length:Int),.i (((i+j) / 2+1:Nat):Int),.i (j:Int)]) else some (none,[.l L,.s s,.i (L.length:Int),.i (i:Int),.i (((i+j) / 2:Nat):Int)]))=some o ->
     zu [.l L,.s s,.i (L.length:Int),.i (i:Int),.i (j:Int)]=some o:=fun o ho=>by
    refine aa.toEq ?_;unfold zu
    (dsimp only[go_sem])
    simp only[O,a7,M];refine aa.p (aa.p (aa.p (aa.p ?_)));refine aa.call (P:=fun g=>g=[.i (dD (C ((i+j) / 2)) s)]) (aa.eq rfl) ?_;rintro _ rfl
    (dsimp only[go_sem])
    refine aa.test (fun h=>?_) fun h=>?_
    ·rw[h,cT]at ho
     refine aa.p (aa.some ?_)
     grind
    grind[aa.some]
   by_cases d:dD (C ((i+j) / 2)) s<0
   ·refine aR.next (step _ (by rw[cS,dE d]; rfl)) (N3 s m' _ j ab ab v (fun t U=>?_) y)
    rcases nU t ((i+j) / 2)with h|h
    ·exact oB.tr _ _ _ (S.xp t _ h k) d
    grind
   ·refine aR.next (step _ (by rw[cS,decide_eq_false d]; rfl)) (N3 s m' i _ ab ab ab h1 (fun t U N I=>?_))
    rcases nU ((i+j) / 2) t with h|h
    ·exact d (oB.tr _ _ _ (S.xp _ t h N) I)
    grind
theorem N4(s:BY):aa (w7 [.l L,.s s]) fun g=>∃(p:Nat) (b:Bool),g=[.i (p:Int),.t b]/\(b=true->p<L.length/\C p=s)/\(b=false->∀k,k<L.length->C k≠s):=by
 have U:=S.n;unfold w7
 (dsimp only[go_sem])
 refine aa.call (P:=fun g=>∃(p:Nat) (b:Bool),g=[.i (p:Int),.t b]/\(b=true->p<L.length/\C p=s)/\(b=false->∀k,k<L.length->C k≠s)) ?_ ?_
 ·unfold M2
  (dsimp only[go_sem])
  refine aa.loop ((N3 S s L.length 0 L.length ab ab (aV _) (fun t v=>by omega) (fun t h1 M=>by omega)).to ab) rfl ?_;rintro _ _ ⟨rfl,p,rfl,W,I,O⟩
  (dsimp only[go_sem])
  have y:∀t,t<L.length->C t=s->t=p:=fun t v e=>by
   have h0:dD (C t) s=0:=qp.2 e;have h1:p<=t:=asw fun h=>by have:=I t h; omega
   refine Nat.le_antisymm (asw fun h=>?_) h1;have M:=S.xp p t h v
   grind
  refine aa.test (fun h=>?_) fun h=>?_
  ·simp only[cS,dT]at h
   have d:p<L.length:=ab;simp only[a7,S.get p d];refine aa.p ?_;refine aa.call (P:=fun g=>g=[.i (dD (C p) s)]) (aa.eq rfl) ?_;rintro _ rfl;refine aa.some ⟨p,_,rfl,fun hb=>⟨d,?_⟩,fun hb k N e=>?_⟩
   ·have hb:(dD (C p) s==0)=true:=hb
    rw[beq_iff_eq]at hb;exact qp.1 hb
   ·have:=y k N e
    subst this;have hb:(dD (C k) s==0)=false:=hb;rw[qp.2 e]at hb;cases hb
  grind[cS,aa.some]
 ·rintro _ ⟨p,b,rfl,h⟩
  exact aa.some ⟨p,b,rfl,h⟩
end
def bC(A:Nat->LL)(C:Nat->BY)(af:Nat)(oF:Int)(k:Nat):LL:=kY (A af) (A k) (C af) (C k) oF
def pG(k:Nat)(ks:List Nat):List Nat:=match jN k ks with
 |some _=>ks
 |none=>ks++[k]
theorem Xr(k:Nat)(ks:List Nat):∃n,jN k (pG k ks)=some n:=by
 unfold pG;cases h:jN k ks with
 |some n=>grind
 |none=>exact⟨_,NZ (NY.1 h)⟩
theorem Xs{L R1 R2 M T:LL}{af oF k:Int}{c1 c2:Nat}(h1:o9 [.I] R1 [.i k]=some M.length)(d:o9 [.I] R2 [.i k]=some T.length):∀(q p:LL),p.length+q.length<=100000 ->
  aR C' [.l L,.i af,.i oF,.l R1,.l (M++[rr (jO AE p ([],0))]),.i (c1:Int),.l R2,.l (T++[rr (jO DY p ([],0))]),.i (c2:Int),.i k,.l (p++q),.i ((p.length+q.length:Nat):Int),.i (p.length:Int)] (q.length+1) fun x g=>
   x=0/\g=[.l L,.i af,.i oF,.l R1,.l (M++[fp (p++q)]),.i (c1:Int),.l R2,.l (T++[fi (p++q)]),.i (c2:Int)]
 |[],p,h=>by
  refine aR.stop (x:=0) (aa.toEq ?_) ⟨rfl,rfl⟩;unfold C'
  (dsimp only[go_sem])
  refine aa.n (aa.some ?_);rw[dY];rfl
 |r::q,p,h=>by
  simp only[cz]at h;have v:=Xs (L:=L) (af:=af) (oF:=oF) (c1:=c1) (c2:=c2) h1 d q (p++[r]) bS;have y:(p++r::q).getD (p.length:Int).toNat []=r:=nD _ _ _ _ _ au;rw[a7]at y;have N:(p++r::q).length=p.length+q.length+1:=bS;have O:(p++[r])++q=p++r::q:=au;have U:(((p++[r]).length+q.length:Nat):Int)=((p.length+(r::q).length:Nat):Int):=bS;have W:(((p++[r]).length:Nat):Int)=(p.length:Int)+1:=au;rw[O,U,W]at v;refine aR.next (aa.toEq ?_) v
  unfold C'
  (dsimp only[go_sem])
  simp only[y,N,cz,a7,h1,d];refine aa.p (aa.p (aa.pos rfl (aa.pos (Xp _ _) (aa.pos rfl (aa.pos (Xp _ _) (aa.p (aa.some ?_)))))));rw[Xo,Xo,Xn,Xn];rfl
section
variable {L:LL} {C:Nat->BY} {A:Nat->LL} (S:mP L C A) {af:Nat} (ho:af<L.length) (oF:Int)
include S ho
theorem Xt(d:k<L.length)(ks:List Nat):Da [G.l L,.i (af:Int),.i oF,.l (bK 0 ks),.l (ks.map fun k=>fp (bC A C af oF k)),.i ((ks.length:Nat):Int),.l (bK 0 ks),.l (ks.map fun k=>fi (bC A C af oF k)),.i ((ks.length:Nat):Int),.i (k:Int)]=some [G.l L,.i (af:Int),.i oF,.l (bK 0 (pG k ks)),.l ((pG k ks).map fun k=>fp (bC A C af oF k)),.i (((pG k ks).length:Nat):Int),.l (bK 0 (pG k ks)),.l ((pG k ks).map fun k=>fi (bC A C af oF k)),.i (((pG k ks).length:Nat):Int)]:=by
 refine aa.toEq ?_;unfold Da
 (dsimp only[go_sem])
 simp only[IE,aoL,a7];unfold pG;cases h:jN k ks with
 |some n=>simp_all[aa.some]
 |none=>
  have v:=aoM k ks;have y:=aoN k ks;unfold AD at v y;refine aa.pos rfl (aa.neg rfl (aa.pos rfl (aa.pos v (aa.pos rfl (aa.pos v (aa.p (aa.p ?_)))))));simp only[S.get af ho,S.get k d];refine aa.cE (aoE (S.two ho d) (C af) (C k) oF) ?_
  (dsimp only[go_sem])
  simp only[cP];rw[y];have hb:=W7 (S.two ho d) (C af) (C k) oF;have hn:=S.na af ho;have N:o9 [.I] (bK 0 (ks++[k])) [.i (k:Int)]=some ks.length:=by rw[IE]; exact NZ (NY.1 h)
  have hr:=Xs (L:=L) (af:=(af:Int)) (oF:=oF) (k:=(k:Int)) (R1:=bK 0 (ks++[k])) (R2:=bK 0 (ks++[k])) (M:=ks.map fun k=>fp (bC A C af oF k)) (T:=ks.map fun k=>fi (bC A C af oF k)) (c1:=ks.length+1) (c2:=ks.length+1)
   (by rw[cP]; exact N) (by rw[cP]; exact N) (bC A C af oF k) [] (by unfold bC; simp; omega)
  simp only[mY,km,dj]at hr;refine aa.loop (hr.to (by unfold bC; omega)) rfl ?_;rintro _ _ ⟨rfl,rfl⟩
  (dsimp only[go_sem])
  grind[aa.some]
def kE(x y:LG):Bool:=(gi x 4).iV==(gi y 5).iV&&(gi x 6).sV.toList==(gi y 7).sV.toList
omit S ho in
theorem Xu(x y:LG):Db [.l [x],.l [y]]=some [.t (kE x y)]:=by
 refine aa.toEq ?_;unfold Db kE
 (dsimp only[go_sem])
 simp_all[aa.test,aa.some]
end
theorem Xv(f:Nat->LG){ks:List Nat}(h:jN k ks=some n):mC (ks.map f) (some n)=f k:=by
 obtain⟨h1,d⟩:=ID h;show (ks.map f).getD n []=_
 grind
theorem aoR(f:Nat->LG){ks:List Nat}(h:jN k ks=some n):qa (ks.map f) (some n)=true:=by
 obtain⟨h1,d⟩:=ID h;show Nat.blt n (ks.map f).length=true
 simp_all
section
variable {L:LL} {C:Nat->BY} {A:Nat->LL} (S:mP L C A)
include S
theorem mP.inj(hi:i<L.length)(k:j<L.length)(h:C i=C j):i=j:=by
 rcases Nat.lt_trichotomy i j with d|d|d
 ·have:=S.xp i j d k
  rw[qp.2 h]at this;omega
 ·exact d
 ·have:=S.xp j i d hi
  rw[qp.2 h.symm]at this;omega
end
section
variable {L:LL} {C:Nat->BY} {A:Nat->LL} (S:mP L C A) {af:Nat} (ho:af<L.length) (oF:Int)
include S ho
theorem aoS(v:k<L.length)(i:Nat):(dJ [.I] (jO AE (bC A C af oF k) ([],0)).1 [.i (i:Int)]=true->∃j:Nat,j<(A k).length/\[G.i (i:Int),.i (j:Int)]∈bC A C af oF k/\cR [.I] (jO AE (bC A C af oF k) ([],0)).1 [.i (i:Int)] [.i 0]=[.i (j:Int)]) /\
  (dJ [.I] (jO AE (bC A C af oF k) ([],0)).1 [.i (i:Int)]=false->∀j:Nat,[G.i (i:Int),.i (j:Int)]∉bC A C af oF k):=by
 have y:∀r∈bC A C af oF k,∃a b:Nat,r=[.i (a:Int),.i (b:Int)]/\b<(A k).length:=fun r hr=>by
  obtain⟨a,b,h1,_,d,_⟩:=uS (S.two ho v) hr
  grind
 rw[Xq,GO,rH];constructor
 ·intro h
  rcases N2 AE [.i (i:Int)] [.i 0] (bC A C af oF k) ([],0)with⟨r,h1,d,M⟩|⟨h1,_⟩
  ·obtain⟨a,b,rfl,hb⟩:=y r h1
   have d:aZ [.I] [.i (i:Int)] [.i (a:Int)]=true:=d;rw[DX,dT]at d;have:i=a:=ab;subst this;exact⟨b,hb,h1,M⟩
  grind
 ·intro h j N
  have:=List.any_eq_false.1 h _ N;apply this;show aZ [.I] [.i (i:Int)] [.i (i:Int)]=true
  rw[DX];simp
end
theorem N5:jL r=0↔fH (gi r 0).iV 0 345686399999=true/\fH (gi r 1).iV 1 3=true/\sJ (gi r 2).sV=true/\jK (gi r 3).sV=true/\fH (gi r 4).iV 0 99999=true/\fH (gi r 5).iV 0 99999=true /\
  uO (gi r 6).sV=true/\uO (gi r 7).sV=true:=by
 unfold jL
 grind
theorem Xw:∀{l:LL} {o:Option LG},kX o l=0->∀ x∈l,jL x=0
 |[],_,_,_,h=>by cases h
 |y::q,o,h,x,d=>by
  have key:jL y=0/\kX (some y) q=0:=by
   cases o<;>grind[kX]
  rcases c_.1 d with rfl|d
  ·exact key.1
  ·exact Xw key.2 x d
theorem N6(h:nJ l=0):∀x∈l,jL x=0:=by
 unfold nJ at h;split at h
 ·cases h
 ·exact Xw h
structure mQ (L:LL) (C:Nat->BY) (A:Nat->LL):Prop where
 get:∀i,i<L.length->L.getD i []=[.s (C i),.l (A i)]
 n:L.length<=40
 lG:∀i,i<L.length->∀z∈A i,fh z
 na:∀i,i<L.length->(A i).length<=40
 call:∀i,i<L.length->C i∈calls
 xp:∀i j,i<j->j<L.length->dD (C i) (C j)<0
 less:∀i,0<i->i<L.length->(Op.bytesLess (C i).toList (C (i-1)).toList||((C i).toList==(C (i-1)).toList))=false
 fault:∀i,i<L.length->lF (C i) (A i)=0
theorem Xx(h:c∈calls):c.size<=100:=by
 have d:calls.all (fun c=>dv c.size 100)=true:=aB
 simp_all
section
variable {L:LL} {C:Nat->BY} {A:Nat->LL} (R:mQ L C A)
include R
theorem mQ.Xy(hi:i<L.length):∀z∈A i,fh z/\jL z=0:=fun z d=>⟨R.lG i hi z d,N6 (NX (R.fault i hi)) z d⟩
theorem mQ.AF:mP L C A:=by
 refine⟨R.get,R.n,fun i hi z k=>?_,R.na,fun i hi=>Xx (R.call i hi),R.xp⟩;obtain⟨h1,v⟩:=R.Xy hi z k;have d:=(N5.1 v).1;unfold fH at d;simp only[fe,aO,dT]at d;refine⟨⟨h1.eta,?_,?_⟩,?_⟩
 grind[j6]
 grind[j6]
 ·obtain⟨t,m,b,c,s,h,x,y,rfl,_,_,_,_,_,I,_⟩:=h1
  exact Xx I
end
def j8:List (Nat × Nat)->List (Nat × Nat)->Int
 |[],[]=>0
 |[],_::_=>-1
 |_::_,[]=>1
 |a::l,b::l'=>if a.1<b.1 then -1 else if b.1<a.1 then 1 else if a.2<b.2 then -1 else if b.2<a.2 then 1 else j8 l l'
theorem Xz:∀ l,j8 l l=0
 |[]=>rfl
 |a::l=>by simp[j8,Xz l]
theorem aoT{a b:Nat × Nat}{l l':List (Nat × Nat)}(h:a.1<b.1):j8 (a::l) (b::l')=-1:=by rw[j8,iP h]
theorem XA{a b:Nat × Nat}{l l':List (Nat × Nat)}(h:a.1<b.1\/a.1=b.1/\a.2<b.2):j8 (a::l) (b::l')=-1:=by
 rcases h with h|⟨h1,d⟩<;>simp_all[j8]
abbrev Jn:=List (Nat × Nat) × Int
def j9(x y:Jn):Bool:=if x.1.length=y.1.length then (if x.2=y.2 then decide (j8 x.1 y.1<0) else decide (x.2<y.2)) else decide (y.1.length<x.1.length)
def jy(n m:Nat)(ok:Nat->Nat->Bool)(ap:Nat->Nat->Int)(i k:Nat):Jn:=
 if h:i<n/\k<m then
  let one:=if j9 (jy n m ok ap i (k+1)) (jy n m ok ap (i+1) k)=true then jy n m ok ap i (k+1) else jy n m ok ap (i+1) k
  let o:Jn:=((i,k)::(jy n m ok ap (i+1) (k+1)).1,(jy n m ok ap (i+1) (k+1)).2+ap i k)
  if ok i k=true then (if j9 o one=true then o else one) else one
 else ([],0)
termination_by (n-i)+(m-k)
theorem N7{m:Nat}{ok:Nat->Nat->Bool}{ap:Nat->Nat->Int}(h:n<=i\/m<=k):jy n m ok ap i k=([],0):=by
 rw[jy,dif_neg ab]
theorem XB{m:Nat}{ok:Nat->Nat->Bool}{ap:Nat->Nat->Int}(hi:i<n)(d:k<m):
  jy n m ok ap i k=(let one:=if j9 (jy n m ok ap i (k+1)) (jy n m ok ap (i+1) k)=true then jy n m ok ap i (k+1) else jy n m ok ap (i+1) k
   let o:Jn:=((i,k)::(jy n m ok ap (i+1) (k+1)).1,(jy n m ok ap (i+1) (k+1)).2+ap i k)
   if ok i k=true then (if j9 o one=true then o else one) else one):=by
 rw[jy,dif_pos ⟨hi,d⟩]
def qv(x:Jn):Int:=10000000000*(x.1.length:Int)-x.2
theorem IF{x y:Jn}(v:0<=x.2/\x.2<10000000000)(I:0<=y.2/\y.2<10000000000):j9 x y=true↔qv y<qv x\/qv y=qv x/\j8 x.1 y.1<0:=by
 unfold j9 qv;split
 ·rename_i h
  rw[h];split
  ·rename_i k
   rw[k,dT];constructor
   ·intro d; exact .inr ⟨rfl,d⟩
   ·rintro (d | d)
    ·omega
    ·exact d.2
  ·rw[dT]
   constructor
   ·intro d; left; omega
   ·rintro(d|⟨d,_⟩)<;>omega
 ·rw[dT]
  constructor
  ·intro d; left; omega
  ·rintro(d|⟨d,_⟩)<;>omega
def fS(ap:Nat->Nat->Int):List (Nat × Nat)->Int
 |[]=>0
 |x::l=>fS ap l+ap x.1 x.2
structure AG (n m:Nat) (ok:Nat->Nat->Bool) (w ap:Nat->Nat->Int):Prop where
 uX:n<=1000
 wo:∀i k,i<n->k<m->ok i k=true->w i k=10000000000-ap i k/\0<=ap i k/\ap i k<=3600000
section
variable {F:Nat->Nat->Int} {n m:Nat} {ok:Nat->Nat->Bool} {w ap:Nat->Nat->Int}
theorem D0:∀(t i f:Nat),(bP F m ok w t i f).length<=t
 |0,_,_=>aV _
 |t+1,i,f=>by
  rw[bP];split
  ·rw[cz]; exact Nat.succ_le_succ (D0 t _ _)
  ·exact ZQ (D0 t _ _)
theorem uY(h:fP F n m ok w)(W:AG n m ok w ap):∀(t i f:Nat),n-i=t ->
  F i f=10000000000*((bP F m ok w t i f).length:Int)-fS ap (bP F m ok w t i f)/\0<=fS ap (bP F m ok w t i f)/\fS ap (bP F m ok w t i f)<=3600000*((bP F m ok w t i f).length:Int)
 |0,i,f,d=>by
  rw[h.oC i f (.inl ab),bP];simp[fS]
 |t+1,i,f,d=>by
  have hi:i<n:=ab;cases hq:gQ (ib F ok w (F i f) i) f (m-f)with
  |none=>
   have e:=Ir h hi fun q h1 y=>Ar hq q h1 ab;rw[sK hq,e];exact uY h W t (i+1) f ab
  |some q=>
   obtain⟨I,M,k,_⟩:=uP hq;obtain⟨o1,o2⟩:=xl.1 k;obtain⟨v,N,O⟩:=W.wo i q hi ab o1;obtain⟨r1,r2,r3⟩:=uY h W t (i+1) (q+1) ab;rw[qs hq,<-o2,r1,v,cz]
   grind[fS]
theorem D1(h:fP F n m ok w)(W:AG n m ok w ap)(d:n-i=t):0<=fS ap (bP F m ok w t i f)/\fS ap (bP F m ok w t i f)<10000000000:=by
 obtain⟨_,k,v⟩:=uY h W t i f d;have y:=D0 (F:=F) (m:=m) (ok:=ok) (w:=w) t i f;have:=W.uX;omega
theorem XC(h:fP F n m ok w)(W:AG n m ok w ap){t' d f':Nat}(v:n-i=t)(k:n-d=t')(e:F i f=F d f'):(bP F m ok w t i f).length=(bP F m ok w t' d f').length:=by
 obtain⟨h1,_⟩:=uY h W t i f v;obtain⟨y,_⟩:=uY h W t' d f' k
 grind[D1]
theorem XD(h:fP F n m ok w)(W:AG n m ok w ap):∀(t i k:Nat),n-i=t->k<m->F i k=F i (k+1)->¬ j8 (bP F m ok w t i (k+1)) (bP F m ok w t i k)<0
 |0,i,k,_,_,_=>by rw[bP,bP]; simp[j8]
 |t+1,i,k,I,O,he=>by
  have hi:i<n:=ab;obtain⟨r,hr⟩:∃r,m-k=r+1:=⟨m-k-1,ab⟩
  have hr2:m-(k+1)=r:=ab;have M:=XC h W I I he;cases hq:gQ (ib F ok w (F i k) i) k (m-k)with
  |some q=>
   obtain⟨q1,q2,U,q4⟩:=uP hq;by_cases e:q=k
   ·subst e
    rw[qs hq]at M|-;cases N:bP F m ok w (t+1) i (q+1)with
    |nil=>grind
    |cons b l'=>
     obtain⟨b1,_,b3,_,_⟩:=sM (F:=F) (m:=m) (ok:=ok) (w:=w) (t+1) i (q+1) b (by rw[N]; exact dx);rw[j8];omega
   ·have v:gQ (ib F ok w (F i (k+1)) i) (k+1) (m-(k+1))=some q:=by
     rw[<-he];exact NJ ab ab U fun y h1 d=>q4 y ab d
    simp_all[qs,Xz]
  |none=>
   have hn:=Ar hq;have v:gQ (ib F ok w (F i (k+1)) i) (k+1) (m-(k+1))=none:=by
    rw[<-he];exact aol fun y h1 d=>hn y ab ab
   have e1:=Ir h hi fun q h1 d=>hn q h1 ab;have e2:=Ir h hi fun q h1 d=>Ar v q h1 ab;rw[sK hq,sK v];exact XD h W t (i+1) k ab O ab
theorem IG(h:fP F n m ok w)(W:AG n m ok w ap):∀(s i k:Nat),(n-i)+(m-k)<=s->jy n m ok ap i k=(bP F m ok w (n-i) i k,fS ap (bP F m ok w (n-i) i k))
 |s,i,k,hs=>by
  by_cases hik:i<n/\k<m
  case neg=>
   rw[N7 ab];have:bP F m ok w (n-i) i k=[]:=by
    by_cases hi:i<n
    ·have O:m<=k :=ab
     have key:∀t i,bP F m ok w t i k=[]:=by
      intro t
      induction t with
      |zero=>intro i; rfl
      |succ t ih=>
       intro i;rw[sK (by rw[show m-k=0 from by omega]; rfl)]
       grind
     exact key _ _
    ·rw[show n - i=0 from by omega]
     rfl
   rw[this];rfl
  case pos=>
   obtain⟨hi,O⟩:=hik;cases s with
   |zero=>omega
   |succ s=>
    obtain⟨t,U⟩:∃t,n-i=t+1:=⟨n-i-1,ab⟩
    have v:n-(i+1)=t:=ab;have iA:=IG h W s (i+1) k ab;have iB:=IG h W s i (k+1) ab;have iC:=IG h W s (i+1) (k+1) ab;rw[v]at iA iC;rw[U]at iB|-;rw[XB hi O,iA,iB,iC];simp only[];have vA:=uY h W t (i+1) k v;have vB:=uY h W (t+1) i (k+1) U;have vC:=uY h W t (i+1) (k+1) v;have sA:=D1 h W (f:=k) v;have sB:=D1 h W (f:=k+1) U;have sC:=D1 h W (f:=k+1) v;have mA:=h.down i k;have mB:=h.right i k;have hone:∀one:Jn,one=(if j9 (bP F m ok w (t+1) i (k+1),fS ap (bP F m ok w (t+1) i (k+1))) (bP F m ok w t (i+1) k,fS ap (bP F m ok w t (i+1) k))=true then (bP F m ok w (t+1) i (k+1),fS ap (bP F m ok w (t+1) i (k+1))) else (bP F m ok w t (i+1) k,fS ap (bP F m ok w t (i+1) k))) ->
      (one=(bP F m ok w (t+1) i (k+1),fS ap (bP F m ok w (t+1) i (k+1)))\/one=(bP F m ok w t (i+1) k,fS ap (bP F m ok w t (i+1) k)))/\qv one=max (F (i+1) k) (F i (k+1)):=by
     intro one he;have hb:=IF (x:=(bP F m ok w (t+1) i (k+1),fS ap (bP F m ok w (t+1) i (k+1)))) (y:=(bP F m ok w t (i+1) k,fS ap (bP F m ok w t (i+1) k))) sB sA;unfold qv at hb|-;simp only[<-vA.1,<-vB.1]at hb;rw[he];split
     grind
     grind
    generalize hO:(if j9 (bP F m ok w (t+1) i (k+1),fS ap (bP F m ok w (t+1) i (k+1))) (bP F m ok w t (i+1) k,fS ap (bP F m ok w t (i+1) k))=true then (bP F m ok w (t+1) i (k+1),fS ap (bP F m ok w (t+1) i (k+1))) else (bP F m ok w t (i+1) k,fS ap (bP F m ok w t (i+1) k)):Jn)=one;obtain⟨ho,hv⟩:=hone one hO.symm;have so:0<=one.2/\one.2<10000000000:=gB;have hst:=h.step i k hi O;have hl:=D0 (F:=F) (m:=m) (ok:=ok) (w:=w) t (i+1) (k+1);have hn0:=W.uX;have hvC:ok i k=true->qv ((i,k)::bP F m ok w t (i+1) (k+1),fS ap (bP F m ok w t (i+1) (k+1))+ap i k)=w i k+F (i+1) (k+1)/\0<=fS ap (bP F m ok w t (i+1) (k+1))+ap i k/\fS ap (bP F m ok w t (i+1) (k+1))+ap i k<10000000000:=fun M=>by
     obtain⟨w1,w2,w3⟩:=W.wo i k hi O M;refine⟨?_,ab,ab⟩
     grind[qv]
    have hC:ib F ok w (F i k) i k=false->(if ok i k=true then (if j9 ((i,k)::bP F m ok w t (i+1) (k+1),fS ap (bP F m ok w t (i+1) (k+1))+ap i k) one=true then ((i,k)::bP F m ok w t (i+1) (k+1),fS ap (bP F m ok w t (i+1) (k+1))+ap i k) else one) else one)=one:=fun hk0=>by
     split
     ·rename_i M
      obtain⟨c1,c2,c3⟩:=hvC M;rw[iP M]at hst;have hne:w i k+F (i+1) (k+1)≠F i k:=fun e=>by rw[xl.2 ⟨M,e⟩]at hk0; cases hk0
      grind[IF]
     ·rfl
    have I:=IF (x:=(bP F m ok w (t+1) i (k+1),fS ap (bP F m ok w (t+1) i (k+1)))) (y:=(bP F m ok w t (i+1) k,fS ap (bP F m ok w t (i+1) k))) sB sA;unfold qv at I;simp only[<-vA.1,<-vB.1]at I;cases hq:gQ (ib F ok w (F i k) i) k (m-k)with
    |none=>
     have hn:=Ar hq;have eA:=Ir h hi fun q h1 h2=>hn q h1 ab;rw[hC (hn k (aV _) ab),sK hq];by_cases hb:j9 (bP F m ok w (t+1) i (k+1),fS ap (bP F m ok w (t+1) i (k+1))) (bP F m ok w t (i+1) k,fS ap (bP F m ok w t (i+1) k))=true
     ·exfalso
      rcases I.1 hb with h1|⟨h1,h2⟩
      ·omega
      ·have:=XD h W (t+1) i k U O ab
       grind[sK]
     grind
    |some q=>
     obtain⟨q1,q2,q3,q4⟩:=uP hq;obtain⟨o1,o2⟩:=xl.1 q3;by_cases e:q=k
     ·subst e
      obtain⟨c1,c2,c3⟩:=hvC o1;rw[iP o1,qs hq,iP]
      ·rfl
      ·refine (IF (x:=((i,q)::bP F m ok w t (i+1) (q+1),fS ap (bP F m ok w t (i+1) (q+1))+ap i q)) (y:=one) ⟨c2,c3⟩ so).2 ?_
       rw[c1,hv];by_cases hlt:max (F (i+1) q) (F i (q+1))<w i q+F (i+1) (q+1);omega
       ·right
        have hval:max (F (i+1) q) (F i (q+1))=w i q+F (i+1) (q+1):=ab;refine⟨hval,?_⟩;have d:one.1.length=(bP F m ok w t (i+1) (q+1)).length+1:=by
         rw[<-hv]at hval;unfold qv at hval c1;simp only[cz]at c1;omega
        rcases ho with e|e
        ·rw[e]at d |-
         simp only[]at d|-;cases N:bP F m ok w (t+1) i (q+1)with
         |nil=>grind
         |cons b l'=>
          obtain⟨b1,_,b3,_,_⟩:=sM (F:=F) (m:=m) (ok:=ok) (w:=w) (t+1) i (q+1) b (by rw[N]; exact dx)
          grind[XA]
        ·rw[e]at d |-
         simp only[]at d|-;cases N:bP F m ok w t (i+1) q with
         |nil=>grind
         |cons b l'=>
          obtain⟨b1,_,b3,_,_⟩:=sM (F:=F) (m:=m) (ok:=ok) (w:=w) t (i+1) q b (by rw[N]; exact dx)
          grind[XA]
     ·have hk0:=q4 k (aV _) ab
      rw[hC hk0];have tk:=h.take (i:=i) (k:=k+1) (aV i) (show k+1<=q by omega) hi ab o1;have eB:F i k=F i (k+1):=ab;have hq2:gQ (ib F ok w (F i (k+1)) i) (k+1) (m-(k+1))=some q:=by
       rw[<-eB];exact NJ ab ab q3 fun y h1 h2=>q4 y ab h2
      rw[qs hq] ;rw[qs hq2]at hO I;rw[<-hO,iP];refine I.2 ?_;by_cases hlt:F (i+1) k<F i (k+1);omega
      ·right
       refine⟨ab,?_⟩;have d:=XC h W (f:=k) (f':=k) v U ab;rw[qs hq]at d;cases N:bP F m ok w t (i+1) k with
       |nil=>grind
       |cons b l'=>
        obtain⟨b1,_,_,_,_⟩:=sM (F:=F) (m:=m) (ok:=ok) (w:=w) t (i+1) k b (by rw[N]; exact dx)
        grind[aoT]
end
theorem XE{p q:LG}(d:fI p)(hq:fI q):Dt [.i (gi p 0).iV,.i (gi q 0).iV]=some [.i (kC p q)]:=by
 obtain⟨_,h1,h⟩:=d;obtain⟨_,k,v⟩:=hq;unfold j6 at h1 h k v;refine aa.toEq ?_;unfold Dt kC j6
 (dsimp only[go_sem])
 exact aa.pos (er.2 ⟨ab,ab⟩) (aa.pos (er.2 ⟨ab,ab⟩) (aa.some rfl))
theorem XF(oF:Int){p q:LG}(d:fI p)(hq:fI q):Du [.l [p],.l [q],.i oF]=some [.t (lD oF p q)]:=by
 refine aa.toEq ?_;unfold Du lD
 (dsimp only[go_sem])
 refine aa.test (fun h=>?_) fun h=>?_
 ·have h:((l5 p).toList==(l5 q).toList)=true:=h
  rw[h];refine aa.test (fun h=>?_) fun h=>?_
  ·have h:(qt p==qt q)=true:=h
   rw[h];refine aa.cE (XE d hq) ?_;exact aa.some rfl
  grind[qt,aa.some]
 grind[l5,aa.some]
def uZ(a b c d:Int):Int:=if ia a c=0 then ia b d else ia a c
theorem aoU(a b c d:Int):H9 [.l [[.i a],[.i b]],.l [[.i c],[.i d]]]=some [.i (uZ a b c d)]:=by
 have s0:∀x,ia a c=x->aa (sG [.l [[.i a],[.i b]],.l [[.i c],[.i d]],.l [[.i a],[.i b]],.i 2,.i 0]) fun o=>o=if x=0 then (none,[.l [[.i a],[.i b]],.l [[.i c],[.i d]],.l [[.i a],[.i b]],.i 2,.i 1]) else (some 0,[.i x]):=fun x k=>by
  unfold sG
  (dsimp only[go_sem])
  refine aa.pos rfl (aa.pos rfl (aa.neg rfl (aa.pos rfl ?_)));refine aa.cE (Iq a c) ?_
  (dsimp only[go_sem])
  rw[k];by_cases e:x=0
  ·rw[iP e]
   exact aa.neg (by simp[e]) (aa.pos rfl (aa.some rfl))
  simp_all[aa.pos,aa.some]
 have s1:∀x,ia b d=x->aa (sG [.l [[.i a],[.i b]],.l [[.i c],[.i d]],.l [[.i a],[.i b]],.i 2,.i 1]) fun o=>o=if x=0 then (none,[.l [[.i a],[.i b]],.l [[.i c],[.i d]],.l [[.i a],[.i b]],.i 2,.i 2]) else (some 0,[.i x]):=fun x k=>by
  unfold sG
  (dsimp only[go_sem])
  refine aa.pos rfl (aa.pos rfl (aa.neg rfl (aa.pos rfl ?_)));refine aa.cE (Iq b d) ?_
  (dsimp only[go_sem])
  rw[k];by_cases e:x=0
  ·rw[iP e]
   exact aa.neg (by simp[e]) (aa.pos rfl (aa.some rfl))
  simp_all[aa.pos,aa.some]
 have s2:sG [.l [[.i a],[.i b]],.l [[.i c],[.i d]],.l [[.i a],[.i b]],.i 2,.i 2]=some (some 1,[.l [[.i a],[.i b]],.l [[.i c],[.i d]]]):=by
  refine aa.toEq ?_;unfold sG
  (dsimp only[go_sem])
  exact aa.neg rfl (aa.some rfl)
 have key:aR sG [.l [[.i a],[.i b]],.l [[.i c],[.i d]],.l [[.i a],[.i b]],.i 2,.i 0] 3 fun x g=>(x=0/\g=[.i (uZ a b c d)])\/(x=1/\g=[.l [[.i a],[.i b]],.l [[.i c],[.i d]]]/\uZ a b c d=0):=by
  obtain⟨o,h,rfl⟩:=s0 _ rfl;by_cases e:ia a c=0
  ·rw[iP e]at h
   refine aR.next h ?_
   obtain⟨o,h,rfl⟩:=s1 _ rfl
   grind[aR.next,aR.stop,uZ]
  grind[aR.stop,uZ]
 refine aa.toEq ?_;unfold H9
 (dsimp only[go_sem])
 refine aa.loop (key.to ab) rfl ?_;rintro x g (⟨rfl,rfl⟩|⟨rfl,rfl,v⟩)
 ·exact aa.pos rfl (aa.some rfl)
 ·(dsimp only[go_sem])
  refine aa.neg rfl (aa.neg rfl (aa.some ?_));rw[v]
section
variable {X Y:List Nat}
structure u5 (X Y:List Nat):Prop where
 x:X.Pairwise (·<·)
 y:Y.Pairwise (·<·)
theorem IH{X:List Nat}(h:X.Pairwise (·<·))(hi:i<X.length)(v:j<X.length):X.getD i 0<X.getD j 0↔i<j:=by
 have e:∀k (d:k<X.length),X.getD k 0=X[k]:=fun k d=>by rw[dc,cB d]; rfl
 rw[e i hi,e j v];have key:=Et.1 h
 grind
theorem XG(a b:Nat):ia (a:Int) (b:Int)=if a<b then -1 else if b<a then 1 else 0:=by
 unfold ia;by_cases h:a<b
 ·rw[iP h,iP ab]
 ·rw[iN h,iN ab]
  by_cases d:b<a
  ·rw[iP d,iP ab]
  ·rw[iN d,iN ab]
theorem aoV(R:u5 X Y){p q:Nat × Nat}(d:p.1<X.length/\p.2<Y.length)(hq:q.1<X.length/\q.2<Y.length) :
  uZ ((X.getD p.1 0:Nat):Int) ((Y.getD p.2 0:Nat):Int) ((X.getD q.1 0:Nat):Int) ((Y.getD q.2 0:Nat):Int)=if p.1<q.1 then -1 else if q.1<p.1 then 1 else if p.2<q.2 then -1 else if q.2<p.2 then 1 else 0:=by
 unfold uZ;rw[XG,XG];have h1:=IH R.x d.1 hq.1;have h:=IH R.x hq.1 d.1;have k:=IH R.y d.2 hq.2;have v:=IH R.y hq.2 d.2;omega
theorem aoW(p:Nat × Nat):bg [.I,.I] (fv X Y p)=fv X Y p:=rfl
theorem XH(R:u5 X Y):∀(q d p k:List (Nat × Nat)),p.length=k.length->(∀x∈q,x.1<X.length/\x.2<Y.length)->(∀x∈d,x.1<X.length/\x.2<Y.length)->p.length+q.length<=100000 ->
  aR xd [.l ((p++q).map (fv X Y)),.l ((k++d).map (fv X Y)),.l ((p++q).map (fv X Y)),.i ((p.length+q.length:Nat):Int),.i (p.length:Int)] (q.length+1)
   fun x g=>(x=0/\g=[.i (j8 q d)])\/(x=1/\g=[.l ((p++q).map (fv X Y)),.l ((k++d).map (fv X Y))]/\q.length<=d.length/\j8 q d=if q.length<d.length then -1 else 0)
 |[],d,p,k,I,_,_,M=>by
  refine aR.stop (x:=1) (d':=[.l ((p++[]).map (fv X Y)),.l ((k++d).map (fv X Y))]) (aa.toEq ?_) (.inr ⟨rfl,rfl,fy _,?_⟩)
  ·unfold xd
   (dsimp only[go_sem])
   simp_all[cS,aa.some]
  ·cases d with
   |nil=>rfl
   |cons b d=>simp[j8]
 |a::q,[],p,k,I,_,_,M=>by
  simp only[cz]at M;refine aR.stop (x:=0) (d':=[.i 1]) (aa.toEq ?_) (.inl ⟨rfl,rfl⟩);unfold xd
  (dsimp only[go_sem])
  simp only[cP,fV,cz,km];exact aa.p (aa.p (aa.p (aa.some rfl)))
 |a::q,b::d,p,k,I,hq,U,M=>by
  simp only[cz]at M;have ga:((p++a::q).map (fv X Y)).getD p.length []=fv X Y a:=by
   rw[dc,dw,lf (aV _),oK];rfl
  have gb:((k++b::d).map (fv X Y)).getD p.length []=fv X Y b:=by
   rw[I,dc,dw,lf (aV _),oK];rfl
  have hc:=aoV R (hq a dx) (U b dx);have step:∀v,uZ ((X.getD a.1 0:Nat):Int) ((Y.getD a.2 0:Nat):Int) ((X.getD b.1 0:Nat):Int) ((Y.getD b.2 0:Nat):Int)=v ->
    xd [.l ((p++a::q).map (fv X Y)),.l ((k++b::d).map (fv X Y)),.l ((p++a::q).map (fv X Y)),.i ((p.length+(a::q).length:Nat):Int),.i (p.length:Int)] =
     some (if v=0 then (none,[.l ((p++a::q).map (fv X Y)),.l ((k++b::d).map (fv X Y)),.l ((p++a::q).map (fv X Y)),.i ((p.length+(a::q).length:Nat):Int),.i ((p.length:Int)+1)]) else (some 0,[.i v])):=fun v hv=>by
   refine aa.toEq ?_;unfold xd
   (dsimp only[go_sem])
   simp only[a7,ga,gb,aoW,cP,fV,cz];refine aa.p (aa.p (aa.n (aa.p ?_)));refine aa.call (P:=fun g=>g=[.i v]) ?_ ?_
   ·unfold Nq fv
    (dsimp only[go_sem])
    refine aa.cE (aoU _ _ _ _) ?_
    (dsimp only[go_sem])
    grind[aa.some]
   ·rintro _ rfl
    (dsimp only[go_sem])
    by_cases e:v=0
    ·rw[iP e]
     exact aa.neg (by simp[e]) (aa.p (aa.some rfl))
    simp_all[aa.pos,aa.some]
  have h:=step _ rfl;rw[hc]at h;have O:j8 (a::q) (b::d)=(if a.1<b.1 then -1 else if b.1<a.1 then 1 else if a.2<b.2 then -1 else if b.2<a.2 then 1 else j8 q d):=rfl;have e1:p++a::q=(p++[a])++q:=au;have e2:k++b::d=(k++[b])++d:=au;by_cases y:(if a.1<b.1 then (-1:Int) else if b.1<a.1 then 1 else if a.2<b.2 then -1 else if b.2<a.2 then 1 else 0)=0
  ·rw[iP y]at h
   refine aR.next h ?_
   have hlex2:j8 (a::q) (b::d)=j8 q d:=by
    rw[O];split at y
    ·cases y
    omega
   have W:=XH R q d (p++[a]) (k++[b]) (by simp[I]) (fun x N=>hq x (dh _ N)) (fun x N=>U x (dh _ N)) bS;have e3:(((p++[a]).length+q.length:Nat):Int)=((p.length+(a::q).length:Nat):Int):=bS;have e4:(((p++[a]).length:Nat):Int)=(p.length:Int)+1:=au;rw[<-e1,<-e2,e3,e4]at W;refine W.mono ?_;rintro x g (⟨rfl,rfl⟩|⟨rfl,rfl,h1,h2⟩)
   grind
   ·refine .inr ⟨rfl,rfl,by simpa using h1,?_⟩
    rw[hlex2,h2];simp
  ·rw[iN y]at h
   refine aR.stop h (.inl ⟨rfl,?_⟩);rw[O];split
   ·rfl
   ·rename_i n1
    rw[iN n1]at y;split<;>grind
theorem aoX(R:u5 X Y)(l l':List (Nat × Nat))(h1:∀ x∈l,x.1<X.length/\x.2<Y.length)(k:∀ x∈l',x.1<X.length/\x.2<Y.length)(hn:l.length<=100000) :
  H_ [.l (l.map (fv X Y)),.l (l'.map (fv X Y))]=some [.i (j8 l l')]:=by
 have h:=XH R l l' [] [] rfl h1 k (by simpa using hn);simp only[mY,km,dj]at h;refine aa.toEq ?_;unfold H_
 (dsimp only[go_sem])
 simp only[cP];refine aa.loop (h.to ab) rfl ?_;rintro x g (⟨rfl,rfl⟩|⟨rfl,rfl,v,d⟩)
 ·exact aa.pos rfl (aa.some rfl)
 ·(dsimp only[go_sem])
  simp only[cP];refine aa.neg rfl ?_;by_cases e:l.length<l'.length
  ·rw[d,iP e]
   exact aa.p (aa.some rfl)
  ·rw[d,iN e]
   exact aa.n (aa.some rfl)
def j_(X Y:List Nat)(x:Jn):LG:=[.l (x.1.map (fv X Y)),.i x.2]
theorem N8(R:u5 X Y)(x y:Jn)(h1:∀ p∈x.1,p.1<X.length/\p.2<Y.length)(h:∀ p∈y.1,p.1<X.length/\p.2<Y.length)(hn:x.1.length<=100000) :
  Aj [.l [j_ X Y x],.l [j_ X Y y]]=some [.t (j9 x y)]:=by
 refine aa.toEq ?_;unfold Aj j_ j9
 (dsimp only[go_sem])
 simp only[cP];by_cases e:x.1.length=y.1.length
 ·rw[iP e]
  refine aa.neg (by rw[e]; simp) ?_;by_cases d:x.2=y.2
  ·rw[iP d]
   refine aa.neg (by rw[d]; simp) ?_;refine aa.cE (aoX R x.1 y.1 h1 h hn) ?_;refine aa.some ?_
   (dsimp only[go_sem])
   rw[cS]
  simp_all[aa.pos,aa.some,cS]
 ·rw[iN e]
  refine aa.pos ?_ (aa.some ?_)
  grind
  simp_all[cS]
end
section
variable (J:Nat->Nat->Jn) (X Y:List Nat)
def u6(i t p j:Nat):LG:=if i<p\/(p=i/\t<=j) then j_ X Y (J p j) else [.l [],.i 0]
def gS(m i t p:Nat):LL:=(fm (m+1)).map (u6 J X Y i t p)
def jd(n m i t:Nat):LL:=(fm (n+1)).map fun p=>[G.l (gS J X Y m i t p)]
variable {J X Y}
theorem II(m i t p:Nat):(gS J X Y m i t p).length=m+1:=by unfold gS; rw[cP,sX]
theorem N9(n m i t:Nat):(jd J X Y n m i t).length=n+1:=by unfold jd; rw[cP,sX]
theorem IJ{m:Nat}(d:j<=m):(gS J X Y m i t p).getD j []=u6 J X Y i t p j:=by
 unfold gS
 grind
theorem N_{m:Nat}(d:p<=n):lR (jd J X Y n m i t) p=gS J X Y m i t p:=by
 unfold lR jd;rw[dc,dw,Jo ab];rfl
theorem D2(h:i<p\/(p=i/\t<=j)):u6 J X Y i t p j=j_ X Y (J p j):=by unfold u6; rw[iP h]
theorem aoY{m:Nat}:(gS J X Y m i (t+1) i).set t (j_ X Y (J i t))=gS J X Y m i t i:=by
 apply kg;intro j;unfold gS;rw[gh,dw,dw,cP,sX];by_cases d:j<m+1
 ·rw[Jo d]
  by_cases e:t=j
  simp_all[D2]
  ·rw[iN e]
   simp only[ki];unfold u6
   grind
 grind
theorem aoZ{m:Nat}:(jd J X Y n m i (t+1)).set i [.l (gS J X Y m i t i)]=jd J X Y n m i t:=by
 apply kg;intro p;unfold jd;rw[gh,dw,dw,cP,sX];by_cases d:p<n+1
 ·rw[Jo d]
  by_cases e:i=p
  grind
  ·rw[iN e]
   simp only[ki];have:gS J X Y m i (t+1) p=gS J X Y m i t p:=by
    unfold gS;refine oM fun j _=>?_;unfold u6;by_cases h:i<p
    grind
    grind
   rw[this]
 grind
theorem ao0{m:Nat}(h:J i m=([],0)):jd J X Y n m (i+1) 0=jd J X Y n m i m:=by
 unfold jd;refine oM fun p _=>?_;have:gS J X Y m (i+1) 0 p=gS J X Y m i m p:=by
  unfold gS;refine oM fun j k=>?_;rw[iQ]at k;unfold u6;by_cases h1:i<p
  grind
  ·rw[iN ab]
   by_cases d:p=i/\m<=j
   ·rw[iP (.inr d),d.1,show j=m from by omega,h]
    rfl
   ·rw[iN ab]
 rw[this]
theorem ao1{m:Nat}(h:∀j,J n j=([],0)):cn (n+1) ([.l (cn (m+1) ([.l [],.i 0]:LG))]:LG)=jd J X Y n m n 0:=by
 symm;rw[O0];refine⟨N9 n m n 0,fun x d=>?_⟩;unfold jd at d;obtain⟨p,v,rfl⟩:=dS.1 d;rw[iQ]at v;have:gS J X Y m n 0 p=cn (m+1) ([.l [],.i 0]:LG):=by
  rw[O0];refine⟨II m n 0 p,fun y k=>?_⟩;unfold gS at k;obtain⟨j,_,rfl⟩:=dS.1 k;unfold u6;by_cases e:p=n
  ·rw[iP (.inr ⟨e,fy _⟩),e,h]
   rfl
  ·rw[iN ab]
 rw[this]
end
def u7(a b:LL)(X Y:List Nat)(i k:Nat):Int:=kC (ic a X i) (ic b Y k)
def cL(a b:LL)(X Y:List Nat)(oF:Int):Nat->Nat->Jn:=jy X.length Y.length (dW a b X Y oF) (u7 a b X Y)
structure JnP (X Y:List Nat) (x:Jn):Prop where
 mem:∀p∈x.1,p.1<X.length/\p.2<Y.length
 uX:x.1.length<=1000
 s0:0<=x.2
 s1:x.2<10000000000
section
variable {a b:LL} {X Y:List Nat} {oF:Int}
theorem XI(J:JC a b X Y)(h1:oF<=3600000):AG X.length Y.length (dW a b X Y oF) (wJ a b X Y) (u7 a b X Y):=
 ⟨J.nX,fun i k hi d ho=>by
  have h:=As (J.Au hi).2 (J.Av d).2;obtain⟨_,_,v⟩:=W5.1 ho;refine⟨rfl,h.1,?_⟩;show kC (ic a X i) (ic b Y k)<=3600000
  omega⟩
theorem XJ(J:JC a b X Y)(h1:oF<=3600000)(i k:Nat):cL a b X Y oF i k=(bP (nK X.length Y.length (dW a b X Y oF) (wJ a b X Y)) Y.length (dW a b X Y oF) (wJ a b X Y) (X.length-i) i k,fS (u7 a b X Y) (bP (nK X.length Y.length (dW a b X Y oF) (wJ a b X Y)) Y.length (dW a b X Y oF) (wJ a b X Y) (X.length-i) i k)):=
 IG (Is _ _ _ _) (XI J h1) _ i k (aV _)
theorem N'(J:JC a b X Y)(h1:oF<=3600000)(i k:Nat):JnP X Y (cL a b X Y oF i k):=by
 rw[XJ J h1];have d:=D1 (Is X.length Y.length (dW a b X Y oF) (wJ a b X Y)) (XI J h1) (t:=X.length-i) (i:=i) (f:=k) rfl;have v:=D0 (F:=nK X.length Y.length (dW a b X Y oF) (wJ a b X Y)) (m:=Y.length) (ok:=dW a b X Y oF) (w:=wJ a b X Y) (X.length-i) i k;have:=J.nX;refine⟨fun p h=>?_,by simp only[]; omega,d.1,d.2⟩;obtain⟨y,I,_,M,_⟩:=sM _ i k p h;omega
def pH(a b:LL)(X Y:List Nat)(oF:Int)(i t:Nat):Jn:=((i,t)::(cL a b X Y oF (i+1) (t+1)).1,(cL a b X Y oF (i+1) (t+1)).2+kC (ic a X i) (ic b Y t))
theorem XK(J:JC a b X Y)(R:u5 X Y)(h1:oF<=3600000)(ac M:BY){i:Nat}(hi:i<X.length):∀t:Nat,t<=Y.length ->
  aR Dx [.s ac,.l a,.s M,.l b,.l [],.i 0,.l (jd (cL a b X Y oF) X Y X.length Y.length i t),.i ((X.length+1:Nat):Int),.l (bz X),.l (bz Y),.i oF,.i ((X.length+1:Nat):Int),.i (i:Int),.i ((t:Int)-1)] (t+1)
   fun c g=>c=0/\g=[.s ac,.l a,.s M,.l b,.l [],.i 0,.l (jd (cL a b X Y oF) X Y X.length Y.length i 0),.i ((X.length+1:Nat):Int),.l (bz X),.l (bz Y),.i oF,.i ((X.length+1:Nat):Int),.i (i:Int)]
 |0,_=>by
  refine aR.stop (x:=0) (aa.toEq ?_) ⟨rfl,rfl⟩;unfold Dx
  (dsimp only[go_sem])
  simp_all[fe,aa.some]
 |t+1,ht=>by
  have nX:=J.nX;have nY:=J.nY;have ih:=XK J R h1 ac M hi t ab;have e0:((t+1:Nat):Int)-1=(t:Int):=ab;rw[e0];refine aR.next (aa.toEq ?_) ih
  have e1:(0+((i:Int)+1).toNat)=i+1:=ab;have e2:((t:Int)+1).toNat=t+1:=ab;have e3:(0+(i:Int).toNat)=i:=ab;have pA:=N' J h1 (i+1) t;have U:=N' J h1 i (t+1);have y:=N' J h1 (i+1) (t+1);have hstep:cL a b X Y oF i t=_:=XB (ap:=u7 a b X Y) hi (show t<Y.length by omega);have hA:(gS (cL a b X Y oF) X Y Y.length i (t+1) (i+1)).getD t []=j_ X Y (cL a b X Y oF (i+1) t):=by rw[IJ ab,D2 (.inl ab)]
  have hB:(gS (cL a b X Y oF) X Y Y.length i (t+1) i).getD (t+1) []=j_ X Y (cL a b X Y oF i (t+1)):=by rw[IJ ab,D2 (.inr ⟨rfl,aV _⟩)]
  have hC:(gS (cL a b X Y oF) X Y Y.length i (t+1) (i+1)).getD (t+1) []=j_ X Y (cL a b X Y oF (i+1) (t+1)):=by rw[IJ ab,D2 (.inl ab)]
  have hR1:lR (jd (cL a b X Y oF) X Y X.length Y.length i (t+1)) (i+1)=gS (cL a b X Y oF) X Y Y.length i (t+1) (i+1):=N_ ab;have hR0:lR (jd (cL a b X Y oF) X Y X.length Y.length i (t+1)) i=gS (cL a b X Y oF) X Y Y.length i (t+1) i:=N_ ab;have hset:∀v:Jn,v=cL a b X Y oF i t->(jd (cL a b X Y oF) X Y X.length Y.length i (t+1)).set i [.l ((gS (cL a b X Y oF) X Y Y.length i (t+1) i).set t (j_ X Y v))]=jd (cL a b X Y oF) X Y X.length Y.length i t:=fun v W=>by
   rw[W,aoY,aoZ]
  have hl1:=II (J:=cL a b X Y oF) (X:=X) (Y:=Y) Y.length i (t+1) (i+1);have hl0:=II (J:=cL a b X Y oF) (X:=X) (Y:=Y) Y.length i (t+1) i;have hlt:=N9 (J:=cL a b X Y oF) (X:=X) (Y:=Y) X.length Y.length i (t+1);obtain⟨c1,N⟩:=J.Au hi;obtain⟨c3,O⟩:=J.Av (show t<Y.length by omega);have hin:=As N O;have hb1:=N8 R (cL a b X Y oF i (t+1)) (cL a b X Y oF (i+1) t) U.mem pA.mem (by have:=U.uX; omega);have ea:a.getD (X.getD i 0) []=ic a X i:=rfl;have eb:b.getD (Y.getD t 0) []=ic b Y t:=rfl;have ep:∀x:Jn,[G.l (x.1.map (fv X Y)),.i x.2]=j_ X Y x:=fun _=>rfl;have hput:∀r:LG,∀x:Jn,eh [.list [.I,.I],.I] r 0 (j_ X Y x)=j_ X Y x:=fun r x=>y9 rfl;have fin:∀v:Jn,v=cL a b X Y oF i t->aa (some ((none:Option Nat),(([.s ac,.l a,.s M,.l b,.l [],.i 0,.l ((jd (cL a b X Y oF) X Y X.length Y.length i (t+1)).set i [G.l ((gS (cL a b X Y oF) X Y Y.length i (t+1) i).set t (j_ X Y v))]),.i ((X.length+1:Nat):Int),.l (bz X),.l (bz Y),.i oF,.i ((X.length+1:Nat):Int),.i (i:Int),.i ((t:Int)-1)]):LG))) fun o=>o=(none,(([.s ac,.l a,.s M,.l b,.l [],.i 0,.l (jd (cL a b X Y oF) X Y X.length Y.length i t),.i ((X.length+1:Nat):Int),.l (bz X),.l (bz Y),.i oF,.i ((X.length+1:Nat):Int),.i (i:Int),.i ((t:Int)-1)]):LG)):=fun v W=>by
   rw[hset v W];exact aa.some rfl
  unfold Dx
  (dsimp only[go_sem])
  simp only[a7,dj,e2,show ((i:Int)+1).toNat=i+1 from by omega,hR1,hR0,hl1,hl0,hlt,hA,hB,hC,lE,uQ hi,uQ (show t<Y.length by omega)];have q0:∀x:Jn,(gi (j_ X Y x) 0).rZ=x.1.map (fv X Y):=fun _=>rfl;have q1:∀x:Jn,(gi (j_ X Y x) 1).iV=x.2:=fun _=>rfl;simp only[q0,q1,ep]
  (dsimp only[go_sem])
  simp only[a7,ea,eb,N.1,O.1,hb1];have hcan:=XF oF N O;have hap:=XE N O;have hO:∀p∈(i,t)::(cL a b X Y oF (i+1) (t+1)).1,p.1<X.length/\p.2<Y.length:=fun p hp=>by
   rcases c_.1 hp with rfl|hp
   omega
   ·exact y.mem p hp
  have nA:=J.na;have nB:=J.nb;refine aa.p (aa.p (aa.p (aa.p (aa.p (aa.p (aa.p (aa.p (aa.p (aa.p (aa.p ?_))))))))));refine aa.cE rfl ?_;refine aa.test (fun h=>?_) fun h=>?_
  ·have k:cL a b X Y oF i t=if dW a b X Y oF i t=true then (if j9 (pH a b X Y oF i t) (cL a b X Y oF i (t+1))=true then (pH a b X Y oF i t) else (cL a b X Y oF i (t+1))) else (cL a b X Y oF i (t+1)):=by
    rw[hstep];have h:j9 (jy X.length Y.length (dW a b X Y oF) (u7 a b X Y) i (t+1)) (jy X.length Y.length (dW a b X Y oF) (u7 a b X Y) (i+1) t)=true:=h;simp only[h,if_true,if_false];rfl
   refine aa.p (aa.p (aa.p (aa.p ?_)));refine aa.cE hcan ?_;refine aa.test (fun d=>?_) fun d=>?_
   ·have d:dW a b X Y oF i t=true:=d
    rw[iP d]at k;refine aa.p (aa.p (aa.p (aa.p (aa.p (aa.p (aa.p (aa.p (aa.pos (by have:=y.uX; grind) ?_))))))));refine aa.cE hap ?_;refine aa.pos (er.2 ⟨by have:=y.s0; show -9223372036854775808<=(cL a b X Y oF (i+1) (t+1)).2+kC (ic a X i) (ic b Y t); omega,by have:=y.s1; show (cL a b X Y oF (i+1) (t+1)).2+kC (ic a X i) (ic b Y t)<=9223372036854775807; omega⟩) (aa.pos au ?_);refine aa.cE (N8 R (pH a b X Y oF i t) (cL a b X Y oF i (t+1)) hO (U).mem (by have:=y.uX; show (cL a b X Y oF (i+1) (t+1)).1.length+1<=100000; omega)) ?_;refine aa.test (fun hb=>?_) fun hb=>?_
    ·have hb:j9 (pH a b X Y oF i t) (cL a b X Y oF i (t+1))=true:=hb
     rw[iP hb]at k;refine aa.p (aa.p (aa.p (aa.p (aa.p ?_))));exact fin (pH a b X Y oF i t) k.symm
    ·have hb:j9 (pH a b X Y oF i t) (cL a b X Y oF i (t+1))=false:=hb
     rw[iN (by rw[hb]; simp)]at k;refine aa.p (aa.p (aa.p (aa.p (aa.p ?_))))
     grind
   ·have d:dW a b X Y oF i t=false:=d
    rw[iN (by rw[d]; simp)]at k;refine aa.p (aa.p (aa.p (aa.p (aa.p ?_))))
    grind
  ·have k:cL a b X Y oF i t=if dW a b X Y oF i t=true then (if j9 (pH a b X Y oF i t) (cL a b X Y oF (i+1) t)=true then (pH a b X Y oF i t) else (cL a b X Y oF (i+1) t)) else (cL a b X Y oF (i+1) t):=by
    rw[hstep];have h:j9 (jy X.length Y.length (dW a b X Y oF) (u7 a b X Y) i (t+1)) (jy X.length Y.length (dW a b X Y oF) (u7 a b X Y) (i+1) t)=false:=h;simp only[h,Bool.false_eq_true,if_false];rfl
   refine aa.p (aa.p (aa.p (aa.p ?_)));refine aa.cE hcan ?_;refine aa.test (fun d=>?_) fun d=>?_
   ·have d:dW a b X Y oF i t=true:=d
    rw[iP d]at k;refine aa.p (aa.p (aa.p (aa.p (aa.p (aa.p (aa.p (aa.p (aa.pos (by have:=y.uX; grind) ?_))))))));refine aa.cE hap ?_;refine aa.pos (er.2 ⟨by have:=y.s0; show -9223372036854775808<=(cL a b X Y oF (i+1) (t+1)).2+kC (ic a X i) (ic b Y t); omega,by have:=y.s1; show (cL a b X Y oF (i+1) (t+1)).2+kC (ic a X i) (ic b Y t)<=9223372036854775807; omega⟩) (aa.pos au ?_);refine aa.cE (N8 R (pH a b X Y oF i t) (cL a b X Y oF (i+1) t) hO (pA).mem (by have:=y.uX; show (cL a b X Y oF (i+1) (t+1)).1.length+1<=100000; omega)) ?_;refine aa.test (fun hb=>?_) fun hb=>?_
    ·have hb:j9 (pH a b X Y oF i t) (cL a b X Y oF (i+1) t)=true:=hb
     rw[iP hb]at k;refine aa.p (aa.p (aa.p (aa.p (aa.p ?_))));exact fin (pH a b X Y oF i t) k.symm
    ·have hb:j9 (pH a b X Y oF i t) (cL a b X Y oF (i+1) t)=false:=hb
     rw[iN (by rw[hb]; simp)]at k;refine aa.p (aa.p (aa.p (aa.p (aa.p ?_))))
     grind
   ·have d:dW a b X Y oF i t=false:=d
    rw[iN (by rw[d]; simp)]at k;refine aa.p (aa.p (aa.p (aa.p (aa.p ?_))))
    grind
theorem XL(J:JC a b X Y)(R:u5 X Y)(h1:oF<=3600000)(ac d:BY):∀t:Nat,t<=X.length ->
  aR Dy [.s ac,.l a,.s d,.l b,.l [],.i 0,.l (jd (cL a b X Y oF) X Y X.length Y.length t 0),.i ((X.length+1:Nat):Int),.l (bz X),.l (bz Y),.i oF,.i ((X.length+1:Nat):Int),.i ((t:Int)-1)] (t+1)
   fun c g=>c=0/\g=[.l [],.i 0,.l (jd (cL a b X Y oF) X Y X.length Y.length 0 0),.i ((X.length+1:Nat):Int),.i ((X.length+1:Nat):Int)]
 |0,_=>by
  refine aR.stop (x:=0) (aa.toEq ?_) ⟨rfl,rfl⟩;unfold Dy
  (dsimp only[go_sem])
  simp_all[fe,aa.some]
 |t+1,v=>by
  have nX:=J.nX;have nY:=J.nY;have h:=XL J R h1 ac d t ab;have k:((t+1:Nat):Int)-1=(t:Int):=ab;rw[k];refine aR.next (aa.toEq ?_) h
  unfold Dy
  (dsimp only[go_sem])
  simp only[a7,lE];refine aa.p (aa.pos (er.2 ⟨ab,ab⟩) ?_);rw[ao0 (show cL a b X Y oF t Y.length=([],0) from N7 (.inr (aV _)))];refine aa.loop ((XK J R h1 ac d (show t<X.length by omega) Y.length (aV _)).to ab) rfl ?_;rintro x g ⟨rfl,rfl⟩
  (dsimp only[go_sem])
  simp only[a7];exact aa.pos (er.2 ⟨ab,ab⟩) (aa.some rfl)
theorem XM(X Y:List Nat)(nX:X.length<=1000)(nY:Y.length<=1000)(A B:LL)(ac d:BY)(oF:Int):∀r t:Nat,t+r=X.length+1 ->
  aR Dw [.s ac,.l A,.s d,.l B,.l [],.i 0,.l (cn t ([.l (cn (Y.length+1) ([.l [],.i 0]:LG))]:LG)),.i ((X.length+1:Nat):Int),.l (bz X),.l (bz Y),.i oF,.i ((X.length+1:Nat):Int),.i ((X.length+1:Nat):Int),.i (t:Int)] (r+1)
   fun c g=>c=0/\g=[.s ac,.l A,.s d,.l B,.l [],.i 0,.l (cn (X.length+1) ([.l (cn (Y.length+1) ([.l [],.i 0]:LG))]:LG)),.i ((X.length+1:Nat):Int),.l (bz X),.l (bz Y),.i oF,.i ((X.length+1:Nat):Int)]
 |0,t,h=>by
  refine aR.stop (x:=0) (aa.toEq ?_) ⟨rfl,rfl⟩;have:t=X.length+1:=ab;subst this;unfold Dw
  (dsimp only[go_sem])
  simp only[a7];refine aa.n ?_;exact aa.some rfl
 |r+1,t,h=>by
  have k:=XM X Y nX nY A B ac d oF r (t+1) ab;rw[List.replicate_succ',Int.natCast_add]at k;refine aR.next (aa.toEq ?_) k
  unfold Dw
  (dsimp only[go_sem])
  simp only[a7,lE,vt,dj,show ((Y.length:Int)+1).toNat=Y.length+1 from by omega];refine aa.p (aa.p (aa.p (aa.p (aa.p (aa.p ?_)))));exact aa.some rfl
theorem ao6(J:JC a b X Y)(R:u5 X Y)(h1:oF<=3600000)(ac d:BY) :
  Ia [.l [[.s ac,.l a]],.l [[.s d,.l b]],.l (bz X),.l (bz Y),.i oF]=some [.l [j_ X Y (cL a b X Y oF 0 0)]]:=by
 have nX:=J.nX;have nY:=J.nY;have h:=XL J R h1 ac d X.length (aV _);rw[<-ao1 (fun j=>show cL a b X Y oF X.length j=([],0) from N7 (.inl (aV _)))]at h;refine aa.toEq ?_;unfold Ia
 (dsimp only[go_sem])
 simp only[lE,vt,show ((X.length:Int)+1).toNat=X.length+1 from by omega];refine aa.p (aa.p (aa.p ?_));have hi:=XM X Y nX nY a b ac d oF (X.length+1) 0 ab;refine aa.loop (hi.to ab) rfl ?_;rintro x g ⟨rfl,rfl⟩
 (dsimp only[go_sem])
 simp only[a7,lE];refine aa.p ?_;refine aa.loop (h.to ab) rfl ?_;rintro x g ⟨rfl,rfl⟩
 (dsimp only[go_sem])
 have q:(lR (jd (cL a b X Y oF) X Y X.length Y.length 0 0) 0)=gS (cL a b X Y oF) X Y Y.length 0 0 0:=N_ (fy _);have k:(gS (cL a b X Y oF) X Y Y.length 0 0 0).getD 0 []=j_ X Y (cL a b X Y oF 0 0):=by rw[IJ ab,D2 (.inr ⟨rfl,aV _⟩)]
 have v:=N9 (J:=cL a b X Y oF) (X:=X) (Y:=Y) X.length Y.length 0 0;have hr:=II (J:=cL a b X Y oF) (X:=X) (Y:=Y) Y.length 0 0 0;simp only[a7,q,k,v,hr];refine aa.p (aa.p (aa.p (aa.p ?_)));exact aa.some rfl
end
def IK:BY:=⟨#[32]⟩
def ru(k:GK):BY:=(k.1++IK)++gx k.2
def ix(k:GK):LG:=[.s (ru k)]
structure Sm (k:GK):Prop where
 lo:0<=k.2
 hi:k.2<=9
 size:k.1.size<=1000
theorem ao7:((fm 10).all fun a=>decide ((gx (a:Nat)).data.toList=[O2 (48+a)]))=true:=aB
theorem Oa{n:Int}(h0:0<=n)(h1:n<=9):(gx n).data.toList=[O2 (48+n.toNat)]:=by
 obtain⟨k,rfl⟩:=O1 h0;exact of_decide_eq_true (eD.1 ao7 k (iQ.2 ab))
theorem XN{n:Int}(h0:0<=n)(h1:n<=9):(gx n).size=1:=by
 have h:=congrArg List.length (Oa h0 h1)
 simp_all
theorem XO{n:Int}(h0:0<=n)(h1:n<=9):mM [.i n]=some [.s (gx n)]:=by
 refine aa.toEq ?_;unfold mM
 (dsimp only[go_sem])
 exact aa.pos (by simp only[lq,cS,aO,dT]; omega) (aa.some rfl)
theorem ao8{k d:GK}(h:Sm k)(h':Sm d)(e:ru k=ru d):k=d:=by
 have v:=congrArg (fun b:BY=>b.data.toList) e;unfold ru at v;simp only[ByteArray.data_append,Array.toList_append,Oa h.lo h.hi,Oa h'.lo h'.hi]at v;obtain⟨y,I⟩:=asz v rfl;obtain⟨M,_⟩:=asz y rfl;refine Prod.ext (ByteArray.ext (ZP.1 M)) ?_;have N:O2 (48+k.2.toNat)=O2 (48+d.2.toNat):=by simpa using I
 have O:=congrArg UInt8.toNat N;simp only[UInt8.toNat_ofNat']at O;have:=h.lo;have:=h.hi;have:=h'.lo;have:=h'.hi;omega
theorem ao9(k:GK):aZ [.str] (ix k) (ix k)=true:=by
 show ((ru k).toList==(ru k).toList&&true)=true
 simp
theorem ao_{k d:GK}(h1:Sm k)(v:Sm d)(h:k≠d):aZ [.str] (ix k) (ix d)=false:=by
 show ((ru k).toList==(ru d).toList&&true)=false
 cases he:(ru k).toList==(ru d).toList with
 |false=>rfl
 |true=>grind[ao8,Kb]
abbrev EV:=GK × List Nat × List Nat
def qw(i:Nat)(e:EV):LG:=[.l [ix e.1],.l [[.l (bz e.2.1),.l (bz e.2.2)]],.i (i:Int),.t true]
def df:Nat->List EV->LL
 |_,[]=>[]
 |i,e::L=>qw i e::df (i+1) L
theorem IL:∀(i:Nat) (L:List EV),(df i L).length=L.length
 |_,[]=>rfl
 |i,_::L=>by simp[df,IL (i+1) L]
theorem D3:∀(i:Nat) (A B:List EV),df i (A++B)=df i A++df (i+A.length) B
 |i,[],B=>by simp[df]
 |i,e::A,B=>by
  simp only[mX,df,D3 (i+1) A B,cz]
  grind
def pI(k:GK)(p:List Nat × List Nat):List EV->List EV
 |[]=>[(k,p)]
 |e::L=>if e.1=k then (k,p)::L else e::pI k p L
theorem IM(k:GK):∀ L:List EV,(∀ e∈L,e.1≠k)\/∃ A p B,L=A++(k,p)::B/\∀ e∈A,e.1≠k
 |[]=>.inl fun e h=>by cases h
 |e::L=>by
  by_cases he:e.1=k
  ·exact .inr ⟨[],e.2,L,by rw[<-he]; rfl,fun e h=>by cases h⟩
  ·rcases IM k L with h|⟨A,d,B,rfl,h⟩<;>grind
theorem D4{k:GK}(p:List Nat × List Nat):∀{L:List EV},(∀ e∈L,e.1≠k)->pI k p L=L++[(k,p)]
 |[],_=>rfl
 |e::L,h=>by
  rw[pI,iN (h e dx),D4 p fun x d=>h x (dh _ d)];rfl
theorem D5{k:GK}(p q:List Nat × List Nat)(B:List EV):∀{A:List EV},(∀ e∈A,e.1≠k)->pI k p (A++(k,q)::B)=A++(k,p)::B
 |[],_=>by rw[mY,pI,iP rfl,mY]
 |e::A,h=>by
  rw[mX,pI,iN (h e dx),D5 p q B fun x d=>h x (dh _ d)];rfl
theorem Ob{k:GK}(v:Sm k)(R:LL):∀(A:List EV) (i j:Nat),(∀ e∈A,e.1≠k)->(∀ e∈A,Sm e.1)->cH [.str] (ix k) (df i A++R) j=cH [.str] (ix k) R (j+A.length)
 |[],_,_,_,_=>rfl
 |e::A,i,j,h,y=>by
  rw[df,mX,cH,show (gi (qw i e) 0).rV=ix e.1 from rfl,ao_ v (y e dx) (Ne.symm (h e dx)),cF,Ob v R A (i+1) (j+1) (fun x d=>h x (dh _ d)) (fun x d=>y x (dh _ d)),cz]
  grind
theorem ao'{k:GK}(d:Sm k){L:List EV}(h:∀e∈L,e.1≠k)(v:∀e∈L,Sm e.1)(i j:Nat):cH [.str] (ix k) (df i L) j=none:=by
 have:=Ob d [] L i j h v;rw[dY]at this;exact this
theorem XP{k:GK}(d:Sm k){A:List EV}(h:∀e∈A,e.1≠k)(v:∀e∈A,Sm e.1)(i:Nat)(r:LG)(hr:(gi r 0).rV=ix k)(R:LL):cH [.str] (ix k) (df i A++r::R) 0=some (A.length,r):=by
 rw[Ob d (r::R) A i 0 h v,cH,hr,ao9,cT,dj]
structure HI (F:GK->List Nat × List Nat) (L:List EV):Prop where
 nd:(L.map (·.1)).Nodup
 sm:∀e∈L,Sm e.1
 nO:∀e∈L,e.2=F e.1
 all:∀k,F k≠([],[])->∃e∈L,e.1=k
theorem HI.zero:HI (fun _=>([],[])) []:=⟨au,au,au,fun k h=>(h rfl).elim⟩
theorem HI.congr{F d:GK->List Nat × List Nat}{L:List EV}(h:HI F L)(e:∀k,F k=d k):HI d L:=by
 rw[<-show F=d from funext e];exact h
theorem HI.out{F:GK->List Nat × List Nat}{L:List EV}(h:HI F L){k:GK}(h1:∀e∈L,e.1≠k):F k=([],[]):=by
 by_cases e:F k=([],[])
 ·exact e
 ·obtain⟨x,d,he⟩:=h.all k e
  grind
theorem HI.set{F:GK->List Nat × List Nat}{L:List EV}(h:HI F L){k:GK}(I:Sm k)(p:List Nat × List Nat):HI (fun v=>if v=k then p else F v) (pI k p L):=by
 rcases IM k L with h1|⟨A,q,B,rfl,N⟩
 ·rw[D4 p h1]
  refine⟨?_,fun x d=>?_,fun x d=>?_,fun v y=>?_⟩
  ·rw[kj,Ez]
   refine⟨h.nd,au,fun a ha b hb=>?_⟩
   grind
  ·rcases dm.1 d with d | d
   ·exact h.sm x d
   grind
  ·rcases dm.1 d with d | d
   ·rw[iN (h1 x d)]
    exact h.nO x d
   grind
  ·by_cases e:v=k
   simp_all
   ·rw[iN e]at y
    obtain⟨x,d,O⟩:=h.all v y
    grind
 ·rw[D5 p q B N]
  have M:=h.nd;rw[kj,e9]at M;have hB:∀e∈B,e.1≠k:=fun e he I=>by
   have:=(Ez.1 M).2.1;rw[oL]at this;exact this.1 (I▸dS.2 ⟨e,he,rfl⟩)
  refine⟨?_,fun x d=>?_,fun x d=>?_,fun v y=>?_⟩
  grind
  ·rcases dm.1 d with d | d
   ·exact h.sm x (A5 _ d)
   ·rcases c_.1 d with rfl | d
    ·exact I
    ·exact h.sm x (Es _ (dh _ d))
  ·rcases dm.1 d with d | d
   ·rw[iN (N x d)]
    exact h.nO x (A5 _ d)
   ·rcases c_.1 d with rfl | d
    grind
    ·rw[iN (hB x d)]
     exact h.nO x (Es _ (dh _ d))
  ·by_cases e:v=k
   ·exact⟨(k,p),Es _ dx,e.symm⟩
   ·rw[iN e]at y
    obtain⟨x,d,O⟩:=h.all v y
    grind
theorem XQ{L:List EV}(k:GK)(p:List Nat × List Nat):(pI k p L).length<=L.length+1:=by
 rcases IM k L with h1|⟨A,q,B,rfl,d⟩
 ·rw[D4 p h1]
  simp
 ·rw[D5 p q B d]
  simp
theorem XR{F:GK->List Nat × List Nat}{L:List EV}(h:HI F L){k:GK}(N:Sm k) :
  fG [.str] (df 0 L) (ix k)=true/\oh [.str] (df 0 L) (ix k) 0=bz (F k).1/\oh [.str] (df 0 L) (ix k) 1=bz (F k).2 /\
   (∀I M,wb [.str] (iq [.str] (df 0 L) (ix k)) (ix k) (bz I) (bz M) L.length=df 0 (pI k (I,M) L)) /\
   (∀p,dK [.str] (iq [.str] (df 0 L) (ix k)) (ix k) L.length=(pI k p L).length):=by
 rcases IM k L with h1|⟨A,d,B,rfl,O⟩
 ·have v:=ao' N h1 h.sm 0 0
  have y:=h.out h1;have U:iq [.str] (df 0 L) (ix k)=df 0 L:=by unfold iq; rw[v]
  refine⟨by unfold fG; rw[v],by unfold oh; rw[v,y]; rfl,by unfold oh; rw[v,y]; rfl,fun I M=>?_,fun p=>?_⟩
  ·rw[U,D4 _ h1,D3,dj]
   unfold wb;rw[v];rfl
  grind[D4,dK,dJ]
 ·have W:∀e∈A,Sm e.1:=fun e he=>h.sm e (A5 _ he)
  have y:d=F k:=h.nO (k,d) au;have v:cH [.str] (ix k) (df 0 (A++(k,d)::B)) 0=some (A.length,qw A.length (k,d)):=by
   rw[D3,df,dj];exact XP N O W 0 (qw A.length (k,d)) rfl _
  have U:iq [.str] (df 0 (A++(k,d)::B)) (ix k)=df 0 A++[.l [ix k],.l [[.l (bz d.1),.l (bz d.2)]],.i (A.length:Int),.t false]::df (A.length+1) B:=by
   unfold iq;rw[v,D3,df,dj];exact xm _ _ _ _ _ (IL 0 A)
  have hf2:=XP N O W 0 [.l [ix k],.l [[.l (bz d.1),.l (bz d.2)]],.i (A.length:Int),.t false] rfl (df (A.length+1) B);refine⟨by unfold fG; rw[v]; rfl,by unfold oh; rw[v,<-y]; rfl,by unfold oh; rw[v,<-y]; rfl,fun I M=>?_,fun p=>?_⟩
  ·rw[U,D5 _ d B O,D3,df,dj]
   unfold wb;rw[hf2];simp only[];rw[xm _ _ _ _ _ (IL 0 A)];rfl
  grind[D5,dK,dJ]
structure xq (A B:LL):Prop where
 two:jM A B
 sa:∀z∈A,Sm (cy z)
 sb:∀z∈B,Sm (cy z)
 la:A.length<=500
 lb:B.length<=500
theorem XT(l:LL)(s:BY)(k:GK)(n:Nat):(eO l s k n).length<=n:=by
 unfold eO;have:=vu (fun i=>iv l s i&&decide (cy (l.getD i [])=k)) (fm n)
 rwa [sX]at this
theorem XU:IK.size=1:=rfl
theorem apa{F:GK->List Nat × List Nat}{L:List EV}(X:LL)(w:BY)(i:Nat) (h:HI (fun k=>(eO X w k i,(F k).2)) L) (v:Sm (cy (X.getD i []))) :
  HI (fun k=>(eO X w k (i+1),(F k).2)) (bif iv X w i then pI (cy (X.getD i [])) (eO X w (cy (X.getD i [])) i++[i],(F (cy (X.getD i []))).2) L else L):=by
 cases d:iv X w i with
 |false=>
  rw[cF];exact h.congr fun k=>by rw[xo,iN (by rw[d]; simp),dY]
 |true=>
  rw[cT];refine(h.set v _).congr fun k=>?_;rw[xo];by_cases e:k=cy (X.getD i [])
  ·rw[iP e,e,iP ⟨d,rfl⟩]
  ·rw[iN e,iN fun h=>e h.2.symm,dY]
theorem apb{F:GK->List Nat × List Nat}{L:List EV}(X:LL)(w:BY)(i:Nat) (h:HI (fun k=>((F k).1,eO X w k i)) L) (d:Sm (cy (X.getD i []))) :
  HI (fun k=>((F k).1,eO X w k (i+1))) (bif iv X w i then pI (cy (X.getD i [])) ((F (cy (X.getD i []))).1,eO X w (cy (X.getD i [])) i++[i]) L else L):=by
 cases v:iv X w i with
 |false=>
  grind[xo]
 |true=>
  rw[cT];refine(h.set d _).congr fun k=>?_
  grind[xo]
theorem apc(X:LL)(hX:∀ z∈X,Sm (cy z))(hn:X.length<=1000)(S:LL)(oF:Int){F:GK->List Nat × List Nat}{v:List EV}(hF:∀ k,(F k).1=[])(h0:HI F v):
  kT rj [.s ac,.l A,.s bc,.l B,.l (df 0 v),.i (v.length:Int),.i oF,.i 0,.l S,.i 2,.i 0,.l X,.i (X.length:Int),.i 0]
   fun c g=>c=0/\∃L,HI (fun k=>(eO X bc k X.length,(F k).2)) L/\L.length<=v.length+X.length/\g=[.s ac,.l A,.s bc,.l B,.l (df 0 L),.i (L.length:Int),.i oF,.l S,.i 2,.i 0]:=by
 have r:=uu (st:=rj) (σ:=List EV) (fun L i=>[.s ac,.l A,.s bc,.l B,.l (df 0 L),.i (L.length:Int),.i oF,.i 0,.l S,.i 2,.i 0,.l X,.i (X.length:Int),.i (i:Int)]) X (fun L=>(0,[.s ac,.l A,.s bc,.l B,.l (df 0 L),.i (L.length:Int),.i oF,.l S,.i 2,.i 0]))
  (fun L i=>HI (fun k=>(eO X bc k i,(F k).2)) L/\L.length<=v.length+i) v ab ⟨h0.congr fun k=>Prod.ext (hF k) rfl,aV _⟩
  (fun L i z O hi I hm ht=>by
   have d:Sm (cy z):=hX z hm;obtain⟨U,hl⟩:=O;have y:=apa X bc i U (by rw[I]; exact d);have hlen:=XQ (L:=L) (cy z) (eO X bc (cy z) i++[i],(F (cy z)).2);rw[I]at y;obtain⟨a1,a2,a3,M,N⟩:=XR U d;have N:=N (eO X bc (cy z) i++[i],(F (cy z)).2);have M:=M (eO X bc (cy z) i++[i]) (F (cy z)).2;have hsl:=XT X bc (cy z) i;have W:bz (eO X bc (cy z) i)++[[G.i (i:Int)]]=bz (eO X bc (cy z) i++[i]):=by unfold bz; rw[kj]; rfl
   unfold rj
   (dsimp only[go_sem])
   simp only[a7,I];refine aa.p (aa.p (aa.pos rfl ?_));refine aa.test (fun h=>?_) fun h=>?_
   ·have h:iv X bc i=true:=by
     unfold iv;rw[I];exact h
    rw[h,cT]at y;refine aa.pos (show dv ((cy z).1.size+1) 9223372036854775807=true by have:=d.size; grind[ml]) ?_;refine aa.call (P:=fun g=>g=[.s (gx (cy z).2)]) (aa.eq (XO d.lo d.hi)) ?_;rintro _ rfl;refine aa.pos (show dv (((cy z).1++IK).size+(gx (cy z).2).size) 9223372036854775807=true by have:=d.size; rw[ml,ZS,XU,XN d.lo d.hi]; omega) ?_
    (dsimp only[go_sem])
    have ek:([.s (((gi z 2).sV++(⟨#[32]⟩:BY))++gx (cy z).2)]:LG)=ix (cy z):=rfl;simp only[ek];rw[a1,a2,a3];simp only[W,M,N];refine aa.pos rfl (aa.pos rfl (aa.pos rfl (aa.pos ?_ (aa.pos rfl (aa.pos rfl (aa.pos ?_ (aa.p (aa.some ⟨_,rfl,y,ab⟩))))))))
    ·rw[jD,iD,dT,lE]
     omega
    simp
   ·have h:iv X bc i=false:=by
     unfold iv;rw[I];exact h
    rw[h,cF]at y;exact aa.p (aa.some ⟨L,rfl,y,ab⟩))
  (fun L O=>by
   unfold rj
   (dsimp only[go_sem])
   simp only[a7];exact aa.n (aa.some rfl))
 grind
theorem apd(X:LL)(hX:∀ z∈X,Sm (cy z))(hn:X.length<=1000)(S:LL)(oF:Int){F:GK->List Nat × List Nat}{v:List EV}(hF:∀ k,(F k).2=[])(h0:HI F v):
  kT rj [.s ac,.l A,.s bc,.l B,.l (df 0 v),.i (v.length:Int),.i oF,.i 1,.l S,.i 2,.i 1,.l X,.i (X.length:Int),.i 0]
   fun c g=>c=0/\∃L,HI (fun k=>((F k).1,eO X ac k X.length)) L/\L.length<=v.length+X.length/\g=[.s ac,.l A,.s bc,.l B,.l (df 0 L),.i (L.length:Int),.i oF,.l S,.i 2,.i 1]:=by
 have r:=uu (st:=rj) (σ:=List EV) (fun L i=>[.s ac,.l A,.s bc,.l B,.l (df 0 L),.i (L.length:Int),.i oF,.i 1,.l S,.i 2,.i 1,.l X,.i (X.length:Int),.i (i:Int)]) X (fun L=>(0,[.s ac,.l A,.s bc,.l B,.l (df 0 L),.i (L.length:Int),.i oF,.l S,.i 2,.i 1]))
  (fun L i=>HI (fun k=>((F k).1,eO X ac k i)) L/\L.length<=v.length+i) v ab ⟨h0.congr fun k=>Prod.ext rfl (hF k),aV _⟩
  (fun L i z I hi M hm ht=>by
   have d:Sm (cy z):=hX z hm;obtain⟨U,hl⟩:=I;have y:=apb X ac i U (by rw[M]; exact d);have hlen:=XQ (L:=L) (cy z) ((F (cy z)).1,eO X ac (cy z) i++[i]);rw[M]at y;obtain⟨a1,a2,a3,N,O⟩:=XR U d;have O:=O ((F (cy z)).1,eO X ac (cy z) i++[i]);have N:=N (F (cy z)).1 (eO X ac (cy z) i++[i]);have hsl:=XT X ac (cy z) i;have W:bz (eO X ac (cy z) i)++[[G.i (i:Int)]]=bz (eO X ac (cy z) i++[i]):=by unfold bz; rw[kj]; rfl
   unfold rj
   (dsimp only[go_sem])
   simp only[a7,M];refine aa.p (aa.p (aa.pos rfl ?_));refine aa.test (fun h=>?_) fun h=>?_
   ·have h:iv X ac i=true:=by
     unfold iv;rw[M];exact h
    rw[h,cT]at y;refine aa.pos (show dv ((cy z).1.size+1) 9223372036854775807=true by have:=d.size; rw[ml]; omega) ?_;refine aa.call (P:=fun g=>g=[.s (gx (cy z).2)]) (aa.eq (XO d.lo d.hi)) ?_;rintro _ rfl;refine aa.pos (show dv (((cy z).1++IK).size+(gx (cy z).2).size) 9223372036854775807=true by have:=d.size; rw[ml,ZS,XU,XN d.lo d.hi]; omega) ?_
    (dsimp only[go_sem])
    have ek:([.s (((gi z 2).sV++(⟨#[32]⟩:BY))++gx (cy z).2)]:LG)=ix (cy z):=rfl;simp only[ek];rw[a1,a2,a3];simp only[W,N,O];refine aa.pos rfl (aa.pos rfl (aa.neg rfl (aa.pos ?_ (aa.pos rfl (aa.neg rfl (aa.pos ?_ (aa.p (aa.some ⟨_,rfl,y,ab⟩))))))))
    ·rw[jD,iD,dT,lE]
     omega
    ·rw[jD,jD]
     rfl
   ·have h:iv X ac i=false:=by
     unfold iv;rw[M];exact h
    rw[h,cF]at y;exact aa.p (aa.some ⟨L,rfl,y,ab⟩))
  (fun L I=>by
   unfold rj
   (dsimp only[go_sem])
   simp only[a7];exact aa.n (aa.some rfl))
 refine r.mono ?_;rintro c g ⟨L,I,rfl,rfl⟩;exact⟨rfl,L,I.1,I.2,rfl⟩
def u9(A B:LL)(ac d:BY)(k:GK):List Nat × List Nat:=(dR A d k,dR B ac k)
theorem ape(h:xq A B)(ac d:BY)(oF:Int):
  kT rk [.s ac,.l A,.s d,.l B,.l [],.i 0,.i oF,.l [[.s ac,.l A],[.s d,.l B]],.i 2,.i 0]
   fun c g=>c=0/\∃L,HI (u9 A B ac d) L/\L.length<=1000/\g=[.s ac,.l A,.s d,.l B,.l (df 0 L),.i (L.length:Int),.i oF]:=by
 have na:=h.la;have nb:=h.lb;have s0:aa (rk [.s ac,.l A,.s d,.l B,.l [],.i 0,.i oF,.l [[.s ac,.l A],[.s d,.l B]],.i 2,.i 0]) fun o=>
   ∃L,HI (fun k=>(dR A d k,[])) L/\L.length<=500/\o=(none,[.s ac,.l A,.s d,.l B,.l (df 0 L),.i (L.length:Int),.i oF,.l [[.s ac,.l A],[.s d,.l B]],.i 2,.i 1]):=by
  unfold rk
  (dsimp only[go_sem])
  refine aa.pos rfl (aa.pos rfl ?_);refine aa.loop (apc (A:=A) (B:=B) (ac:=ac) (bc:=d) A h.sa ab [[.s ac,.l A],[.s d,.l B]] oF (F:=fun _=>([],[])) (fun _=>rfl) HI.zero) fk ?_;rintro c g ⟨rfl,L,y,I,rfl⟩
  (dsimp only[go_sem])
  simp only[a7];exact aa.pos rfl (aa.some ⟨L,y,by simp at I; omega,rfl⟩)
 have s1:∀L,HI (fun k=>(dR A d k,[])) L->L.length<=500->aa (rk [.s ac,.l A,.s d,.l B,.l (df 0 L),.i (L.length:Int),.i oF,.l [[.s ac,.l A],[.s d,.l B]],.i 2,.i 1]) fun o=>
   ∃L,HI (u9 A B ac d) L/\L.length<=1000/\o=(none,[.s ac,.l A,.s d,.l B,.l (df 0 L),.i (L.length:Int),.i oF,.l [[.s ac,.l A],[.s d,.l B]],.i 2,.i 2]):=fun L y I=>by
  unfold rk
  (dsimp only[go_sem])
  simp only[a7];refine aa.pos rfl (aa.pos rfl ?_);refine aa.loop (apd (A:=A) (B:=B) (ac:=ac) (bc:=d) B h.sb ab [[.s ac,.l A],[.s d,.l B]] oF (F:=fun k=>(dR A d k,[])) (fun _=>rfl) y) fk ?_;rintro c g ⟨rfl,v,M,N,rfl⟩
  (dsimp only[go_sem])
  simp only[a7];exact aa.pos rfl (aa.some ⟨v,M,ab,rfl⟩)
 obtain⟨o,h0,L,y,I,rfl⟩:=s0;obtain⟨o,h1,v,M,N,rfl⟩:=s1 L y I;have s2:rk [.s ac,.l A,.s d,.l B,.l (df 0 v),.i (v.length:Int),.i oF,.l [[.s ac,.l A],[.s d,.l B]],.i 2,.i 2]=some (some 0,[.s ac,.l A,.s d,.l B,.l (df 0 v),.i (v.length:Int),.i oF]):=by
  refine aa.toEq ?_;unfold rk
  (dsimp only[go_sem])
  simp only[a7];exact aa.neg rfl (aa.some rfl)
 have key:aR rk [.s ac,.l A,.s d,.l B,.l [],.i 0,.i oF,.l [[.s ac,.l A],[.s d,.l B]],.i 2,.i 0] 3 fun c g=>c=0/\∃L,HI (u9 A B ac d) L/\L.length<=1000/\g=[.s ac,.l A,.s d,.l B,.l (df 0 L),.i (L.length:Int),.i oF]:=aR.next h0 (aR.next h1 (aR.stop s2 ⟨rfl,v,M,N,rfl⟩))
 exact key.to ab
def IN(r:LG):List Nat × List Nat:=((gi (gi r 1).rV 0).rZ.map fun x=>(gi x 0).iV.toNat,(gi (gi r 1).rV 1).rZ.map fun x=>(gi x 0).iV.toNat)
theorem XV:∀(i:Nat) (L:List EV) (r:LG),r∈df i L->∃(j:Nat) (e:EV),e∈L/\r=qw j e
 |_,[],_,h=>by cases h
 |i,e::L,r,h=>by
  rcases c_.1 h with rfl|h
  grind
  ·obtain⟨j,d,h1,k⟩:=XV (i+1) L r h
   grind
theorem XW(j:Nat)(e:EV):IN (qw j e)=e.2:=by
 have key:∀X:List Nat,(bz X).map (fun x=>(gi x 0).iV.toNat)=X:=fun X=>by
  unfold bz;rw[oI]
  conv=>rhs; rw[<-List.map_id X]
  exact oM fun x _=>a7 x
 exact Prod.ext (key e.2.1) (key e.2.2)
theorem XX{β:Type}(f:List Nat × List Nat->β):∀(i:Nat) (L:List EV),(df i L).map (fun r=>f (IN r))=L.map fun e=>f e.2
 |_,[]=>rfl
 |i,e::L=>by
  simp only[df,e9,XX f (i+1) L,XW]
theorem XY:∀(i:Nat) (L:List EV),(df i L).map dM=(fm L.length).map (i+·)
 |_,[]=>rfl
 |i,e::L=>by
  simp only[df,e9,XY (i+1) L,cz,asu,oI];rw[show dM (qw i e)=i from by simp[dM,qw,gi,G.iV]];congr 1;refine oM fun x _=>?_
  grind
theorem apf(L:List EV):mH (df 0 L) L.length=true:=by
 have hb:(df 0 L).map dM=fm L.length:=by
  rw[XY];simp
 unfold mH;rw[hb,aO];refine⟨IC _ asv,?_⟩;rw[eD];intro r hr;have:dM r∈(df 0 L).map dM:=dS.2 ⟨r,hr,rfl⟩;rw[hb,iQ]at this;simpa using this
theorem XZ:∀(i:Nat) (L:List EV),ui (df i L)=true
 |_,[]=>rfl
 |i,e::L=>by
  have:=XZ (i+1) L;unfold ui at this|-;rw[df,pM,this];rfl
def AH(A B:LL)(oF:Int)(p:List Nat × List Nat):LL:=(DR A B oF p.1 p.2).map (fv p.1 p.2)
theorem X5{k:GK}:AH A B oF (u9 A B ac d k)=ig A B ac d oF k:=rfl
theorem apg(h:xq A B){k:GK}:(ig A B ac bc oF k).length<=1000:=by
 unfold ig;rw[cP];exact mU (WZ _ _ _ _ _) (h.two.jc ac bc k).nX
theorem X6{A B:LL}(h:xq A B)(ac v:BY){oF:Int}(h1:oF<=3600000)(da:Nat){L:List EV}(y:HI (u9 A B ac v) L):∀(q out:LL),(∀r∈q,r∈df 0 L)->out.length+1000*q.length<=1048576-1 ->
  h_ Ic (fun d=>(gi d 6).iV.toNat) q [.s ac,.l A,.s v,.l B,.l out,.i oF,.i (da:Int)] =
   some [.s ac,.l A,.s v,.l B,.l (out++(q.map fun r=>AH A B oF (IN r)).flatten),.i oF,.i (da:Int)]
 |[],out,_,_=>by simp[h_]
 |r::q,out,hq,N=>by
  simp only[cz]at N;obtain⟨j,e,he,rfl⟩:=XV 0 _ r (hq r dx);have I:=y.nO e he;have J:=h.two.jc ac v e.1;have R:u5 (dR A v e.1) (dR B ac e.1):=⟨Iw A v e.1,Iw B ac e.1⟩
  have hlen:=apg h (ac:=ac) (bc:=v) (oF:=oF) (k:=e.1);have O:=ao6 J R h1 ac v;have M:(cL A B (dR A v e.1) (dR B ac e.1) oF 0 0).1.map (fv (dR A v e.1) (dR B ac e.1))=ig A B ac v oF e.1:=by
   rw[XJ J h1];rfl
  have st:Ic (qw j e) [.s ac,.l A,.s v,.l B,.l out,.i oF,.i (da:Int)]=some [.s ac,.l A,.s v,.l B,.l (out++ig A B ac v oF e.1),.i oF,.i (da:Int)]:=by
   have U:(gi (gi (qw j e) 1).rV 0).rZ=bz (dR A v e.1):=by
    show bz e.2.1=_
    rw[I];rfl
   have W:(gi (gi (qw j e) 1).rV 1).rZ=bz (dR B ac e.1):=by
    show bz e.2.2=_
    rw[I];rfl
   refine aa.toEq ?_;unfold Ic;rw[U,W]
   (dsimp only[go_sem])
   refine aa.call (P:=fun g=>g=[.l [j_ (dR A v e.1) (dR B ac e.1) (cL A B (dR A v e.1) (dR B ac e.1) oF 0 0)]]) (aa.eq O) ?_;rintro _ rfl
   (dsimp only[go_sem])
   have e3:(gi (j_ (dR A v e.1) (dR B ac e.1) (cL A B (dR A v e.1) (dR B ac e.1) oF 0 0)) 0).rZ=ig A B ac v oF e.1:=M;simp only[a7,e3];exact aa.pos (by
    show ((aD out.length out.length)&&decide (out.length+(ig A B ac v oF e.1).length<=1048576))=true
    rw[jD,iD,dT];omega) (aa.pos (by rw[jD]; rfl) (aa.some rfl))
  rw[W3 st rfl,X6 h ac v h1 da y q _ (fun x hx=>hq x (dh _ hx)) (by rw[fV]; omega)]
  grind[XW,X5]
theorem aph:wT Ak DS nP:=by
 rintro _ _ ⟨i,k,rfl,h1,y⟩ ⟨d,I,rfl,M,N⟩;have v:∀n:Int,uB [.i n]=some [.i (if n<0 then -1 else if 0<n then 1 else 0)]:=fun n=>by
  refine aa.toEq ?_;unfold uB
  (dsimp only[go_sem])
  refine aa.test (fun h=>?_) fun h=>?_
  ·rw[cS,dT]at h
   rw[iP h];exact aa.some rfl
  ·rw[cS,dF]at h
   rw[iN h];refine aa.test (fun h=>?_) fun h=>?_
   ·rw[cS,dT]at h
    rw[iP h];exact aa.some rfl
   ·rw[cS,dF]at h
    rw[iN h];exact aa.some rfl
 refine⟨if (i:Int)-(d:Int)<0 then -1 else if 0<(i:Int)-(d:Int) then 1 else 0,?_,?_⟩
 ·refine aa.toEq ?_
  unfold Ak
  (dsimp only[go_sem])
  refine aa.pos (er.2 ⟨ab,ab⟩) ?_;refine aa.cE (v _) ?_;exact aa.some rfl
 ·show (if (i:Int) - (d:Int)<0 then (-1:Int) else if 0<(i:Int) - (d:Int) then 1 else 0)<0↔ia (i:Int) (d:Int)<0
  rw[xk];split
  ·omega
  ·split<;>omega
theorem api(h:jM A B)(ac d:BY)(oF:Int){out:LL}(k:out.Perm (iw A B ac d oF))(hn:out.length<100000):Ib [.l out]=some [.l (kY A B ac d oF)]:=by
 have h1:=S9 (C:=Ak) (Q:=DS) aph (DT.mono fun _ _=>trivial) out (fun y v=>Az h y (k.mem_iff.1 v)) hn fun a ha b hb=>IA h ac d oF a (k.mem_iff.1 ha) b (k.mem_iff.1 hb);unfold Ib;rw[h1];have e:eP (cr nP) (iw A B ac d oF)=eP (cr nP) out:=S4 DT k.symm (fun _ _=>trivial) (IA h ac d oF);rw[<-e];rfl
theorem apj(h:jM A B)(ac v:BY)(oF:Int):(iw A B ac v oF).length<=1000:=by
 have na:=h.na;have N:((iw A B ac v oF).map fun r=>(gi r 0).iV.toNat).Nodup:=by
  unfold Jv;rw[qA];refine(Iz h ac v oF).imp_of_mem fun {x y} d U O he=>O ?_;obtain⟨i,k,rfl,_⟩:=Az h x d;obtain⟨I,W,rfl,_⟩:=Az h y U;have he:((i:Int)).toNat=((I:Int)).toNat:=he;show (i:Int)=(I:Int)
  omega
 have M:((iw A B ac v oF).map fun r=>(gi r 0).iV.toNat) ⊆ fm A.length:=by
  intro x d;obtain⟨r,hr,rfl⟩:=dS.1 d;obtain⟨k,i,j,rfl,h1,_⟩:=Iy h hr;rw[iQ];exact(qu.1 h1).1
 have:=DU A.length _ N fun x d=>iQ.1 (M d)
 grind
theorem apk{L:List EV}(v:HI (u9 A B ac d) L):((L.map fun e=>AH A B oF e.2).flatten).Perm (iw A B ac d oF):=by
 have I:=GI.to A d A.length;have M:(L.map fun e=>AH A B oF e.2)=(L.map (·.1)).map fun k=>ig A B ac d oF k:=by
  rw[oI];exact oM fun e he=>by
   rw[v.nO e he];rfl
 have N:(iO A d).map (fun e=>ig A B ac d oF e.1)=((iO A d).map (·.1)).map fun k=>ig A B ac d oF k:=by
  rw[oI];rfl
 unfold iw;rw[M,N];have drop:∀l:List GK,(l.map fun k=>ig A B ac d oF k).flatten=((l.filter fun k=>decide (dR A d k≠[])).map fun k=>ig A B ac d oF k).flatten:=by
  intro l
  induction l with
  |nil=>rfl
  |cons k l O=>
   rw[e9,El,O,Jp];by_cases y:dR A d k=[]
   ·rw[iN (by simp[y])]
    have:ig A B ac d oF k=[]:=by
     rw[<-X5];unfold u9;rw[y];rfl
    rw[this,mY]
   ·rw[iP (by simp[y]),e9,El]
 rw[drop,drop ((iO A d).map (·.1))];refine((?_:List.Perm _ _).map _).flatten;refine(List.perm_ext_iff_of_nodup (v.nd.filter _) (I.nd.filter _)).2 fun k=>?_;rw[mn,mn];refine⟨fun⟨_,h⟩=>⟨?_,h⟩,fun⟨_,h⟩=>⟨?_,h⟩⟩
 ·have h:dR A d k≠[]:=of_decide_eq_true h
  obtain⟨e,he,rfl⟩:=I.all k h;exact dS.2 ⟨e,he,rfl⟩
 ·have h:dR A d k≠[]:=of_decide_eq_true h
  obtain⟨e,he,rfl⟩:=v.all k fun e=>h (congrArg Prod.fst e);exact dS.2 ⟨e,he,rfl⟩
theorem apl(h:xq A B)(ac d:BY)(h1:oF<=3600000){L:List EV}(y:HI (u9 A B ac d) L)(N:L.length<=1000):
  Ns [.s ac,.l A,.s d,.l B,.l (df 0 L),.i (L.length:Int),.l [],.i oF]=some (some 0,[.l (kY A B ac d oF)]):=by
 show sn Ie If (df 0 L) ((L.length:Int).toNat) _=_
 rw[a7];refine S5 (apf _) fun b p k=>⟨rfl,?_⟩
 have M:p.length<=1000:=by
  have:=k.length_eq;rw[IL]at this;omega
 have v:((p.map fun r=>AH A B oF (IN r)).flatten).Perm (iw A B ac d oF):=by
  refine List.Perm.trans ?_ (apk y);rw[<-XX (fun x=>AH A B oF x) 0 L];exact(k.map _).flatten
 have I:=apj h.two ac d oF;refine⟨_,X6 h ac d h1 b y p [] (fun r hr=>k.mem_iff.1 hr) bS,?_⟩;rw[mY];refine aa.toEq ?_;unfold If
 (dsimp only[go_sem])
 have O:=v.length_eq;refine aa.jx (aa.eq (api h.two ac d oF v ab)) au ?_;rintro _ rfl
 (dsimp only[go_sem])
 simp_all[aa.some,kY,y8]
theorem X8(h:xq A B)(ac d:BY)(h1:oF<=3600000):DA [.l [[.s ac,.l A]],.l [[.s d,.l B]],.i oF]=some [.l (kY A B ac d oF)]:=by
 refine aa.toEq ?_;unfold DA
 (dsimp only[go_sem])
 refine aa.loop (ape h ac d oF) fk ?_;rintro _ _ ⟨rfl,L,k,v,rfl⟩
 (dsimp only[go_sem])
 simp only[a7];refine aa.pos (by rw[XZ]; rfl) ?_;refine aa.tail (P:=fun u g=>u=0/\g=[.l (kY A B ac d oF)]) ⟨_,apl h ac d h1 k v,0,rfl,rfl,rfl⟩ fk ?_;rintro _ _ ⟨rfl,rfl⟩
 (dsimp only[go_sem])
 simp_all[aa.some]
end
end Go.Proofs.jI
