/-
 What is proved: the law on data. No condition.
-/
import Derived.Test.YtomcmchdbdnclaaGreatDoorMF
set_option linter.all false
open Bool renaming and_eq_true->ax,false_eq_true->kV,true_and->jm,eq_iff_iff->lJ
open ByteArray renaming size_append->al_,data->WX
open Function renaming comp->Ak
open Go.ByteArray renaming toList_eq->tq
open Go.Op renaming bytesLess->pk
open Int renaming toNat_natCast->aK,eq_ofNat_of_zero_le->Ei
open List renaming length_cons->bG,append_nil->cB,append_assoc->fq,length_map->bN,mem_map->cH,getElem?_map->bB,getElem?_eq_getElem->bx,getElem?_eq_none->nh,getElem?_append_right->iJ,getElem?_set_self->bf,getElem?_set->dv,all_eq_true->da,getD_eq_getElem?_getD->bP,mem_cons->bC,map_cons->bX,cons_append->kY,foldl_cons->Wi,ext_getElem?->iK,length_set->ib,length_append->en,mem_append->cw,flatten_cons->jl,map_map->kf,nil_append->iY,flatten_append->nl,replicate->bQ,flatten_nil->D6,length_range->mr,mem_cons_self->bZ,mem_cons_of_mem->cq,drop_append->Wu,drop_eq_nil_of_le->D8,length_replicate->tc,map_append->eO,nodup_cons->nq,mem_singleton->iZ,range->dB,mem_append_left->my,map_congr_left->ki,mem_range->fu,drop_zero->WG,length_nil->k6,map_nil->k8,length->Ec,take_zero->WH,not_mem_nil->nr,getD_cons_succ->Lj,getElem?_range->om,mem_filter->wM,mem_append_right->oq,filter_cons->tm,range_succ->wN,take_add_one->Ln,pairwise_cons->ot,any_cons->As,eq_replicate_iff->Lp,filter_append->WO,nodup_append->Eh,length_filter_le->Lq,range_succ_eq_map->WR,nodup_range->WS,append_inj'->al9,map_id->WT,count_pos_iff->WU,dropWhile_sublist->WV,head_dropWhile_not->ama,takeWhile_append_dropWhile->Lt,count_append->WW,count_eq_zero->amb,takeWhile_sublist->amc,take_length->amd
open List.Perm renaming refl->ra
open Nat renaming le_refl->aB,le_trans->lD,zero_le->dX,zero_add->cn,mul_le_mul->zU,succ_mul->zZ,sub_self->lH,ble->dD,blt->cC,ble_eq->q9,blt_eq->gG,beq_refl->fe,lt_trichotomy->Eg,le_succ_of_le->Au
open Option renaming map_some->dS,getD_some->np
open UInt8 renaming ofNat->Ls
namespace Go.Proofs.iy
open Go Go.AL Go.Proofs
noncomputable section
theorem ajH(f:Nat->List G){ks:List Nat}{n k:Nat}(h:gP k ks=some n):kC (ks.map f) (some n)=f k:=by
 obtain⟨h1,d⟩:=DG h;show (ks.map f).getD n []=_
 rw[bP,bB];rw[bP]at d;rw[bx h1]at d|-;simp only[np]at d;simp only[dS,np,d]
theorem ajI(f:Nat->List G){ks:List Nat}{n k:Nat}(h:gP k ks=some n):mQ (ks.map f) (some n)=true:=by
 obtain⟨h1,d⟩:=DG h;show cC n (ks.map f).length=true
 rw[bN];simpa using h1
section
variable {L:List (List G)} {C:Nat->ByteArray} {A:Nat->List (List G)} (S:pe L C A)
include S
theorem pe.inj{i j:Nat}(hi:i<L.length)(g:j<L.length)(h:C i=C j):i=j:=by
 rcases Eg i j with d|d|d
 ·have := S.wv i j d g
  rw[sR.2 h]at this;omega
 ·exact d
 ·have := S.wv j i d hi
  rw[sR.2 h.symm]at this;omega
end
def KD(L:List (List G))(C:Nat->ByteArray)(A:Nat->List (List G))(own:Nat)(off:Int)(i:Nat):Prop :=
 ∃ k j:Nat,k<L.length/\C k=(gi ((A own).getD i []) 3).str/\[G.i (i:Int),.i (j:Int)]∈bJ A C own off k
def sX(L:List (List G))(C:Nat->ByteArray)(A:Nat->List (List G))(own:Nat)(off:Int)(i:Nat)(row:List G):Prop :=
 ∃ (d:Int) (w:ByteArray) (v:Int),row=[.i (i:Int),.i d,.s w,.i v] /\
  ((∃ k j : Nat, k < L.length /\ j < (A k).length /\ C k = (gi ((A own).getD i []) 3).str /\ w = C k /\ v = (j : Int) /\ [G.i (i : Int), .i (j : Int)] ∈ bJ A C own off k /\
    ((d=1/\DI ((A k).getD j []) ((A own).getD i [])=true)\/(d=3/\DI ((A k).getD j []) ((A own).getD i [])=false))) \/
   (¬ KD L C A own off i/\((d=2/\∃ k:Nat,k<L.length/\w=C k/\0<=v/\v<((A k).length:Int))\/((d=4\/d=5)/\w=⟨#[]⟩/\v = -1))))
section
variable {L:List (List G)} {C:Nat->ByteArray} {A:Nat->List (List G)} (S:pe L C A) {own:Nat} (ho:own<L.length) (off:Int)
include S ho
theorem ajJ{k:Nat}(hk:k<L.length)(i:Nat):(dK [.int .i64] (iG wu (bJ A C own off k) ([],0)).1 [.i (i:Int)]=true->∃ j:Nat,j<(A k).length/\[G.i (i:Int),.i (j:Int)]∈bJ A C own off k/\cS [.int .i64] (iG wu (bJ A C own off k) ([],0)).1 [.i (i:Int)] [.i 0]=[.i (j:Int)]) /\
  (dK [.int .i64] (iG wu (bJ A C own off k) ([],0)).1 [.i (i:Int)]=false->∀ j:Nat,[G.i (i:Int),.i (j:Int)]∉bJ A C own off k):=by
 have q:∀ r∈bJ A C own off k,∃ a b:Nat,r=[.i (a:Int),.i (b:Int)]/\b<(A k).length:=fun r hr=>by
  obtain⟨a,b,h1,_,d,_⟩:=DF (S.two ho hk) hr;exact⟨a,b,h1,d⟩
 rw[US,Pq,Bool.or_false];constructor
 ·intro h
  rcases UT wu [.i (i:Int)] [.i 0] (bJ A C own off k) ([],0)with⟨r,h1,d,g⟩|⟨h1,_⟩
  ·obtain ⟨a, b, rfl, hb⟩ := q r h1
   have d:a8 [.int .i64] [.i (i:Int)] [.i (a:Int)]=true:=d;rw[Kx,decide_eq_true_eq]at d;have:i=a:=by omega
   subst this;exact⟨b,hb,h1,g⟩
  ·obtain ⟨r, d, g⟩ := List.any_eq_true.1 h
   rw[h1 r d]at g;cases g
 ·intro h j u
  have:=List.any_eq_false.1 h _ u;apply this;show a8 [.int .i64] [.i (i:Int)] [.i (i:Int)]=true
  rw[Kx];simp
theorem ajK{i:Nat}(hi:i<(A own).length)(ks:List Nat):aa (Dl [G.l L,.i (own:Int),.i off,.l (bD 0 ks),.l (ks.map fun k=>eZ (bJ A C own off k)),.i ((ks.length:Nat):Int),.l (bD 0 ks),.l (ks.map fun k=>e9 (bJ A C own off k)),.i ((ks.length:Nat):Int),.i (i:Int)]) fun g=>∃(d:List Nat) (row:List G),g=[G.l L,.i (own:Int),.i off,.l (bD 0 d),.l (d.map fun k=>eZ (bJ A C own off k)),.i ((d.length:Nat):Int),.l (bD 0 d),.l (d.map fun k=>e9 (bJ A C own off k)),.i ((d.length:Nat):Int),.l [row]]/\sX L C A own off i row:=by
 obtain⟨O,hzs⟩:=S.mem ho hi;have hna:=S.na own ho;have M:=S.n;have hzm:fJ (aT [.int .i64,.int .i64,.str,.str,.int .i64,.int .i64,.str,.str] ((A own).getD i [])):=by rw[O.1]; exact O
 unfold Dl;dsimp +instances only[Aa,Ab,Ac,Ad,Ae,Af,Ag];simp only[aK,S.get own ho];dsimp +instances only[Aa,Ab,Ac,Ad,Ae,Af,Ag];refine aa.p (aa.p ?_);refine aa.call (UX S _) ?_;rintro _ ⟨p,b,rfl,hT,hF⟩;dsimp +instances only[Aa,Ab,Ac,Ad,Ae,Af,Ag];have last:∀(ks:List Nat) (b:Bool),¬ KD L C A own off i->aa (ar (vU [G.l L,.i (own:Int),.i off,.l (bD 0 ks),.l (ks.map fun k=>eZ (bJ A C own off k)),.i ((ks.length:Nat):Int),.l (bD 0 ks),.l (ks.map fun k=>e9 (bJ A C own off k)),.i ((ks.length:Nat):Int),.l [aT [.int .i64,.int .i64,.str,.str,.int .i64,.int .i64,.str,.str] ((A own).getD i [])]]) fun g=>(bif aZ 0 (gi g 9).int then (bif (az (gi g 9).int)&&(aj (gi g 9).int (((gi g 0).rows.length:Nat):Int)) then some [.l (gi g 0).rows,.i (gi g 1).int,.i (gi g 2).int,.l (gi g 3).rows,.l (gi g 4).rows,.i (((gi g 5).int.toNat:Nat):Int),.l (gi g 6).rows,.l (gi g 7).rows,.i (((gi g 8).int.toNat:Nat):Int),.l [[.i (i:Int),.i 2,.s (gi ((gi g 0).rows.getD ((gi g 9).int.toNat) []) 0).str,.i (gi g 10).int]]] else none) else (bif b then some [.l (gi g 0).rows,.i (gi g 1).int,.i (gi g 2).int,.l (gi g 3).rows,.l (gi g 4).rows,.i (((gi g 5).int.toNat:Nat):Int),.l (gi g 6).rows,.l (gi g 7).rows,.i (((gi g 8).int.toNat:Nat):Int),.l [[.i (i:Int),.i 4,.s ⟨#[]⟩,.i (-1)]]] else some [.l (gi g 0).rows,.i (gi g 1).int,.i (gi g 2).int,.l (gi g 3).rows,.l (gi g 4).rows,.i (((gi g 5).int.toNat:Nat):Int),.l (gi g 6).rows,.l (gi g 7).rows,.i (((gi g 8).int.toNat:Nat):Int),.l [[.i (i:Int),.i 5,.s ⟨#[]⟩,.i (-1)]]])))
   fun g=>∃(d:List Nat) (row:List G),g=[G.l L,.i (own:Int),.i off,.l (bD 0 d),.l (d.map fun k=>eZ (bJ A C own off k)),.i ((d.length:Nat):Int),.l (bD 0 d),.l (d.map fun k=>e9 (bJ A C own off k)),.i ((d.length:Nat):Int),.l [row]]/\sX L C A own off i row:=fun ks b y=>by
  refine aa.call (ajG S ho off hzm hzs ks) ?_;rintro _ ⟨d,u,v,rfl,hm⟩;dsimp +instances only[Aa,Ab,Ac,Ad,Ae,Af,Ag];simp only[aK];refine aa.test (fun h0=>?_) fun _=>?_
  ·rw [eT, decide_eq_true_eq] at h0
   obtain⟨k,rfl,hk,hv0,hv1⟩:=hm h0;simp only[aK,S.get k hk];refine aa.p (aa.some ⟨d,_,rfl,2,C k,v,rfl,.inr ⟨y,.inl ⟨rfl,k,hk,rfl,hv0,hv1⟩⟩⟩)
  ·refine aa.test (fun _=>aa.some ⟨d,_,rfl,4,⟨#[]⟩,-1,rfl,.inr ⟨y,.inr ⟨.inl rfl,rfl,rfl⟩⟩⟩) fun _=>aa.some ⟨d,_,rfl,5,⟨#[]⟩,-1,rfl,.inr ⟨y,.inr ⟨.inr rfl,rfl,rfl⟩⟩⟩
 refine aa.test (fun hb=>?_) fun hb=>?_
 ·obtain ⟨q, I⟩ := hT hb
  refine aa.cE (U0 S ho off q ks) ?_;dsimp +instances only[Aa,Ab,Ac,Ad,Ae,Af,Ag];obtain⟨n,M⟩:=UY p ks;simp only[aK,DH,M,ajH (fun k=>eZ (bJ A C own off k)) M];refine aa.pos rfl (aa.pos (ajI _ M) ?_);obtain⟨j1,j2⟩:=ajJ S ho off q i;refine aa.test (fun hm=>?_) fun hm=>?_
  ·obtain ⟨j, y, V, hjg⟩ := j1 hm
   have hnk:=S.na p q;have hg:cS [.int .i64] (gi (eZ (bJ A C own off p)) 0).rows [.i (i:Int)] [.i 0]=[.i (j:Int)]:=hjg;simp only[hg];dsimp +instances only[Aa,Ab,Ac,Ad,Ae,Af,Ag];simp only[aK,S.get own ho,S.get p q];dsimp +instances only[Aa,Ab,Ac,Ad,Ae,Af,Ag];obtain⟨hy,hys⟩:=S.mem q y;simp only[O.1,hy.1];refine aa.p (aa.p ?_);refine aa.cE (U1 _ _) ?_;dsimp +instances only[Aa,Ab,Ac,Ad,Ae,Af,Ag];refine aa.test (fun U=>?_) fun U=>?_
   ·exact aa.some ⟨kR p ks,_,rfl,1,_,(j:Int),rfl,.inl ⟨p,j,q,y,I,I.symm,rfl,V,.inl ⟨rfl,U⟩⟩⟩
   ·exact aa.some ⟨kR p ks,_,rfl,3,_,(j:Int),rfl,.inl ⟨p,j,q,y,I,I.symm,rfl,V,.inr ⟨rfl,U⟩⟩⟩
  ·refine last (kR p ks) b ?_
   rintro⟨k,j,hk,N,W⟩;have:=S.inj hk q (N.trans I.symm);subst this;exact j2 hm j W
 ·refine last ks b ?_
  rintro⟨k,j,hk,N,W⟩;exact hF hb k hk N
end
theorem ajL{r:List G}:gO r=0↔dP (gi r 0).int 0 345686399999=true/\dP (gi r 1).int 1 3=true/\nT (gi r 2).str=true/\iz (gi r 3).str=true/\dP (gi r 4).int 0 99999=true/\dP (gi r 5).int 0 99999=true /\
  nU (gi r 6).str=true/\nU (gi r 7).str=true:=by
 unfold gO;generalize dP (gi r 0).int 0 345686399999=b1;generalize dP (gi r 1).int 1 3=d;generalize nT (gi r 2).str=g;generalize iz (gi r 3).str=k;generalize dP (gi r 4).int 0 99999=q;generalize dP (gi r 5).int 0 99999=u;generalize nU (gi r 6).str=v;generalize nU (gi r 7).str=y;cases b1<;>cases d<;>cases g<;>cases k<;>cases q<;>cases u<;>cases v<;>cases y<;>simp
theorem U4:∀{l:List (List G)} {o:Option (List G)},iD o l=0->∀ x∈l,gO x=0
 | [],_,_,_,h=>by cases h
 | y::q,o,h,x,d=>by
  have key:gO y=0/\iD (some y) q=0:=by
   cases o with
   | none =>
    simp only[iD]at h;split at h
    ·contradiction
    ·rename_i h1
     exact⟨by simpa using h1,h⟩
   | some z =>
    simp only[iD]at h;split at h
    ·contradiction
    ·rename_i h1
     split at h
     ·cases h
     ·exact⟨by simpa using h1,h⟩
  rcases bC.1 d with rfl|d
  ·exact key.1
  ·exact U4 key.2 x d
theorem KE{l:List (List G)}(h:j7 l=0):∀ x∈l,gO x=0:=by
 unfold j7 at h;split at h
 ·cases h
 ·exact U4 h
structure U5 (L:List (List G)) (C:Nat->ByteArray) (A:Nat->List (List G)):Prop where
 get:∀ i,i<L.length->L.getD i []=[.s (C i),.l (A i)]
 n:L.length<=40
 oa:∀ i,i<L.length->∀ z∈A i,cU z
 na:∀ i,i<L.length->(A i).length<=40
 call:∀ i,i<L.length->C i∈calls
 wv:∀ i j,i<j->j<L.length->eX (C i) (C j)<0
 less:∀ i,0<i->i<L.length->(pk (C i).toList (C (i-1)).toList||((C i).toList==(C (i-1)).toList))=false
 fault:∀ i,i<L.length->eM (C i) (A i)=0
section
variable {L:List (List G)} {C:Nat->ByteArray} {A:Nat->List (List G)} (R:U5 L C A)
include R
theorem U5.ams{i:Nat}(hi:i<L.length):∀ z∈A i,cU z/\gO z=0:=fun z d=>⟨R.oa i hi z d,KE (Kt (R.fault i hi)) z d⟩
end
def g_:List (Nat × Nat)->List (Nat × Nat)->Int
 | [],[]=>0
 | [],_::_ => -1
 |_::_,[]=>1
 |a::l,b::l'=>if a.1<b.1 then -1 else if b.1<a.1 then 1 else if a.2<b.2 then -1 else if b.2<a.2 then 1 else g_ l l'
theorem U6:∀ l,g_ l l=0
 | []=>rfl
 |a::l=>by simp[g_,U6 l]
theorem U7{a b:Nat × Nat}{l l':List (Nat × Nat)}(h:a.1<b.1):g_ (a::l) (b::l') = -1:=by rw[g_,if_pos h]
theorem U8{a b:Nat × Nat}{l l':List (Nat × Nat)}(h:a.1<b.1\/a.1=b.1/\a.2<b.2):g_ (a::l) (b::l') = -1:=by
 rcases h with h|⟨h1,d⟩
 ·exact U7 h
 ·rw[g_,if_neg (by omega),if_neg (by omega),if_pos d]
abbrev Jn:=List (Nat × Nat) × Int
def hR(x y:Jn):Bool:=if x.1.length=y.1.length then (if x.2=y.2 then decide (g_ x.1 y.1<0) else decide (x.2<y.2)) else decide (y.1.length<x.1.length)
def gC(n m:Nat)(ok:Nat->Nat->Bool)(ap:Nat->Nat->Int)(i k:Nat):Jn :=
 if h:i<n/\k<m then
  let one:=if hR (gC n m ok ap i (k+1)) (gC n m ok ap (i+1) k)=true then gC n m ok ap i (k+1) else gC n m ok ap (i+1) k
  let o:Jn:=((i,k)::(gC n m ok ap (i+1) (k+1)).1,(gC n m ok ap (i+1) (k+1)).2+ap i k)
  if ok i k=true then (if hR o one=true then o else one) else one
 else ([],0)
termination_by (n-i)+(m-k)
theorem KF{n m:Nat}{ok:Nat->Nat->Bool}{ap:Nat->Nat->Int}{i k:Nat}(h:n<=i\/m<=k):gC n m ok ap i k=([],0):=by
 rw[gC,dif_neg (by omega)]
theorem U9{n m:Nat}{ok:Nat->Nat->Bool}{ap:Nat->Nat->Int}{i k:Nat}(hi:i<n)(hk:k<m) :
  gC n m ok ap i k=(let one:=if hR (gC n m ok ap i (k+1)) (gC n m ok ap (i+1) k)=true then gC n m ok ap i (k+1) else gC n m ok ap (i+1) k
   let o:Jn:=((i,k)::(gC n m ok ap (i+1) (k+1)).1,(gC n m ok ap (i+1) (k+1)).2+ap i k)
   if ok i k=true then (if hR o one=true then o else one) else one):=by
 rw[gC,dif_pos ⟨hi,hk⟩]
def nc(x:Jn):Int:=10000000000*(x.1.length:Int)-x.2
theorem DK{x y:Jn}(k:0<=x.2/\x.2<10000000000)(q:0<=y.2/\y.2<10000000000):hR x y=true↔nc y<nc x\/nc y=nc x/\g_ x.1 y.1<0:=by
 unfold hR nc;split
 ·rename_i h
  rw[h];split
  ·rename_i g
   rw[g,decide_eq_true_eq];constructor
   ·intro d; exact .inr ⟨rfl,d⟩
   ·rintro (d | d)
    ·omega
    ·exact d.2
  ·rw [decide_eq_true_eq]
   constructor
   ·intro d; left; omega
   ·rintro(d|⟨d,_⟩)<;>omega
 ·rw [decide_eq_true_eq]
  constructor
  ·intro d; left; omega
  ·rintro(d|⟨d,_⟩)<;>omega
def dR(ap:Nat->Nat->Int):List (Nat × Nat)->Int
 | []=>0
 |x::l=>dR ap l+ap x.1 x.2
structure wx (n m:Nat) (ok:Nat->Nat->Bool) (w ap:Nat->Nat->Int):Prop where
 qH:n<=1000
 wo:∀ i k,i<n->k<m->ok i k=true->w i k=10000000000-ap i k/\0<=ap i k/\ap i k<=3600000
section
variable {F:Nat->Nat->Int} {n m:Nat} {ok:Nat->Nat->Bool} {w ap:Nat->Nat->Int}
theorem zG:∀(t i f:Nat),(be F m ok w t i f).length<=t
 |0,_,_=>aB _
 | t+1,i,f=>by
  rw[be];split
  ·rw[bG]; exact Nat.succ_le_succ (zG t _ _)
  ·exact Au (zG t _ _)
theorem qI(h:dV F n m ok w)(W:wx n m ok w ap):∀(t i f:Nat),n-i=t ->
  F i f=10000000000*((be F m ok w t i f).length:Int)-dR ap (be F m ok w t i f)/\0<=dR ap (be F m ok w t i f)/\dR ap (be F m ok w t i f)<=3600000*((be F m ok w t i f).length:Int)
 | 0,i,f,g=>by
  rw[h.ly i f (.inl (by omega)),be];simp[dR]
 | t+1,i,f,g=>by
  have hi:i<n:=by omega
  cases d:fk (fA F ok w (F i f) i) f (m-f)with
  | none =>
   have e:=Ds h hi fun q h1 v=>vX d q h1 (by omega);rw[pc d,e];exact qI h W t (i+1) f (by omega)
  | some q =>
   obtain⟨y,I,k,_⟩:=qB d;obtain⟨o1,o2⟩:=sT.1 k;obtain⟨u,M,N⟩:=W.wo i q hi (by omega) o1;obtain⟨r1,r2,r3⟩:=qI h W t (i+1) (q+1) (by omega);rw[me d,<-o2,r1,u,bG];simp only[dR];refine⟨?_,?_,?_⟩<;>omega
theorem wy(h:dV F n m ok w)(W:wx n m ok w ap){t i f:Nat}(d:n-i=t):0<=dR ap (be F m ok w t i f)/\dR ap (be F m ok w t i f)<10000000000:=by
 obtain⟨_,g,k⟩:=qI h W t i f d;have q:=zG (F:=F) (m:=m) (ok:=ok) (w:=w) t i f;have:=W.qH;exact⟨g,by omega⟩
theorem U_(h:dV F n m ok w)(W:wx n m ok w ap){t i f t' d f':Nat}(k:n-i=t)(g:n-d=t')(e:F i f=F d f'):(be F m ok w t i f).length=(be F m ok w t' d f').length:=by
 obtain⟨h1,_⟩:=qI h W t i f k;obtain⟨q,_⟩:=qI h W t' d f' g;have u:=wy h W (f:=f) k;have v:=wy h W (f:=f') g;omega
theorem U'(h:dV F n m ok w)(W:wx n m ok w ap):∀(t i k:Nat),n-i=t->k<m->F i k=F i (k+1)->¬ g_ (be F m ok w t i (k+1)) (be F m ok w t i k)<0
 |0,i,k,_,_,_=>by rw[be,be]; simp[g_]
 | t+1,i,k,I,hk,he=>by
  have hi:i<n:=by omega
  obtain⟨r,hr⟩:∃ r,m-k=r+1:=⟨m-k-1,by omega⟩
  have U:m-(k+1)=r:=by omega
  have hlen:=U_ h W I I he;cases d:fk (fA F ok w (F i k) i) k (m-k)with
  | some q =>
   obtain⟨V,q2,N,O⟩:=qB d;by_cases e:q=k
   ·subst e
    rw[me d]at hlen|-;cases v:be F m ok w (t+1) i (q+1)with
    |nil=>rw[v]at hlen; simp at hlen
    | cons b l' =>
     obtain⟨b1,_,b3,_,_⟩:=pd (F:=F) (m:=m) (ok:=ok) (w:=w) (t+1) i (q+1) b (by rw[v]; exact bZ);rw[g_];simp only[];by_cases hb:i<b.1
     ·rw [if_neg (by omega), if_pos hb]
      decide
     ·rw [if_neg (by omega), if_neg hb, if_neg (by omega), if_pos (by omega)]
      decide
   ·have g:fk (fA F ok w (F i (k+1)) i) (k+1) (m-(k+1))=some q:=by
     rw[<-he];exact Kb (by omega) (by omega) N fun y h1 u=>O y (by omega) u
    rw[me d,me g,U6]
    decide
  | none =>
   have M:=vX d;have g:fk (fA F ok w (F i (k+1)) i) (k+1) (m-(k+1))=none:=by
    rw[<-he];exact ai9 fun y h1 u=>M y (by omega) (by omega)
   have e1:=Ds h hi fun q h1 u=>M q h1 (by omega);have e2:=Ds h hi fun q h1 u=>vX g q h1 (by omega);rw[pc d,pc g];exact U' h W t (i+1) k (by omega) hk (by omega)
theorem DL(h:dV F n m ok w)(W:wx n m ok w ap):∀(s i k:Nat),(n-i)+(m-k)<=s->gC n m ok ap i k=(be F m ok w (n-i) i k,dR ap (be F m ok w (n-i) i k))
 | s,i,k,hs=>by
  by_cases hik:i<n/\k<m
  case neg =>
   rw[KF (by omega)];have:be F m ok w (n-i) i k=[]:=by
    by_cases hi:i<n
    ·have hk : m <= k := by omega
     have key:∀ t i,be F m ok w t i k=[]:=by
      intro t
      induction t with
      |zero=>intro i; rfl
      | succ t ih =>
       intro i;rw[pc (by rw[show m-k=0 from by omega]; rfl)];exact ih (i+1)
     exact key _ _
    ·rw [show n - i = 0 from by omega]
     rfl
   rw[this];rfl
  case pos =>
   obtain⟨hi,hk⟩:=hik;cases s with
   |zero=>omega
   | succ s =>
    obtain⟨t,N⟩:∃ t,n-i=t+1:=⟨n-i-1,by omega⟩
    have v:n-(i+1)=t:=by omega
    have iA:=DL h W s (i+1) k (by omega);have iB:=DL h W s i (k+1) (by omega);have iC:=DL h W s (i+1) (k+1) (by omega);rw[v]at iA iC;rw[N]at iB|-;rw[U9 hi hk,iA,iB,iC];simp only[];have vA:=qI h W t (i+1) k v;have vB:=qI h W (t+1) i (k+1) N;have vC:=qI h W t (i+1) (k+1) v;have sA:=wy h W (f:=k) v;have sB:=wy h W (f:=k+1) N;have sC:=wy h W (f:=k+1) v;have mA:=h.down i k;have mB:=h.right i k;have hone:∀ one:Jn,one=(if hR (be F m ok w (t+1) i (k+1),dR ap (be F m ok w (t+1) i (k+1))) (be F m ok w t (i+1) k,dR ap (be F m ok w t (i+1) k))=true then (be F m ok w (t+1) i (k+1),dR ap (be F m ok w (t+1) i (k+1))) else (be F m ok w t (i+1) k,dR ap (be F m ok w t (i+1) k))) ->
      (one=(be F m ok w (t+1) i (k+1),dR ap (be F m ok w (t+1) i (k+1)))\/one=(be F m ok w t (i+1) k,dR ap (be F m ok w t (i+1) k)))/\nc one=max (F (i+1) k) (F i (k+1)):=by
     intro one he;have hb:=DK (x:=(be F m ok w (t+1) i (k+1),dR ap (be F m ok w (t+1) i (k+1)))) (y:=(be F m ok w t (i+1) k,dR ap (be F m ok w t (i+1) k))) sB sA;unfold nc at hb|-;simp only[<-vA.1,<-vB.1]at hb;rw[he];split
     ·rename_i h1
      refine⟨.inl rfl,?_⟩;simp only[<-vB.1];rcases hb.1 h1 with g|g<;>omega
     ·rename_i h1
      refine⟨.inr rfl,?_⟩;simp only[<-vA.1];have:¬ F (i+1) k<F i (k+1):=fun g=>h1 (hb.2 (.inl g));omega
    generalize hO:(if hR (be F m ok w (t+1) i (k+1),dR ap (be F m ok w (t+1) i (k+1))) (be F m ok w t (i+1) k,dR ap (be F m ok w t (i+1) k))=true then (be F m ok w (t+1) i (k+1),dR ap (be F m ok w (t+1) i (k+1))) else (be F m ok w t (i+1) k,dR ap (be F m ok w t (i+1) k)):Jn)=one;obtain⟨ho,hv⟩:=hone one hO.symm;have so:0<=one.2/\one.2<10000000000:=by rcases ho with rfl|rfl<;>assumption
    have hst:=h.step i k hi hk;have hl:=zG (F:=F) (m:=m) (ok:=ok) (w:=w) t (i+1) (k+1);have hn0:=W.qH;have hvC:ok i k=true->nc ((i,k)::be F m ok w t (i+1) (k+1),dR ap (be F m ok w t (i+1) (k+1))+ap i k)=w i k+F (i+1) (k+1)/\0<=dR ap (be F m ok w t (i+1) (k+1))+ap i k/\dR ap (be F m ok w t (i+1) (k+1))+ap i k<10000000000:=fun M=>by
     obtain⟨w1,w2,w3⟩:=W.wo i k hi hk M;refine⟨?_,by omega,by omega⟩;unfold nc;simp only[bG];omega
    have hC:fA F ok w (F i k) i k=false->(if ok i k=true then (if hR ((i,k)::be F m ok w t (i+1) (k+1),dR ap (be F m ok w t (i+1) (k+1))+ap i k) one=true then ((i,k)::be F m ok w t (i+1) (k+1),dR ap (be F m ok w t (i+1) (k+1))+ap i k) else one) else one)=one:=fun O=>by
     split
     ·rename_i M
      obtain⟨c1,c2,c3⟩:=hvC M;rw[if_pos M]at hst;have hne:w i k+F (i+1) (k+1)≠F i k:=fun e=>by rw[sT.2 ⟨M,e⟩]at O; cases O
      rw[if_neg];intro hb;have hb:=(DK (x:=((i,k)::be F m ok w t (i+1) (k+1),dR ap (be F m ok w t (i+1) (k+1))+ap i k)) (y:=one) ⟨c2,c3⟩ so).1 hb;rw[c1,hv]at hb;rcases hb with hb|⟨hb,_⟩<;>omega
     ·rfl
    have I:=DK (x:=(be F m ok w (t+1) i (k+1),dR ap (be F m ok w (t+1) i (k+1)))) (y:=(be F m ok w t (i+1) k,dR ap (be F m ok w t (i+1) k))) sB sA;unfold nc at I;simp only[<-vA.1,<-vB.1]at I;cases u:fk (fA F ok w (F i k) i) k (m-k)with
    | none =>
     have hn:=vX u;have eA:=Ds h hi fun q h1 g=>hn q h1 (by omega);rw[hC (hn k (aB _) (by omega)),pc u];by_cases hb:hR (be F m ok w (t+1) i (k+1),dR ap (be F m ok w (t+1) i (k+1))) (be F m ok w t (i+1) k,dR ap (be F m ok w t (i+1) k))=true
     ·exfalso
      rcases I.1 hb with h1|⟨h1,g⟩
      ·omega
      ·have := U' h W (t + 1) i k N hk (by omega)
       rw[pc u]at this;exact this g
     ·rw [if_neg hb] at hO
      exact hO.symm
    | some q =>
     obtain⟨q1,q2,q3,q4⟩:=qB u;obtain⟨o1,o2⟩:=sT.1 q3;by_cases e:q=k
     ·subst e
      obtain⟨c1,c2,c3⟩:=hvC o1;rw[if_pos o1,me u,if_pos]
      ·rfl
      ·refine (DK (x := ((i, q) :: be F m ok w t (i + 1) (q + 1), dR ap (be F m ok w t (i + 1) (q + 1)) + ap i q)) (y := one) ⟨c2, c3⟩ so).2 ?_
       rw[c1,hv];by_cases V:max (F (i+1) q) (F i (q+1))<w i q+F (i+1) (q+1)
       ·exact .inl V
       ·right
        have U:max (F (i+1) q) (F i (q+1))=w i q+F (i+1) (q+1):=by omega
        refine⟨U,?_⟩;have hlen:one.1.length=(be F m ok w t (i+1) (q+1)).length+1:=by
         rw[<-hv]at U;unfold nc at U c1;simp only[bG]at c1;omega
        rcases ho with e|e
        ·rw [e] at hlen |-
         simp only[]at hlen|-;cases d:be F m ok w (t+1) i (q+1)with
         |nil=>rw[d]at hlen; simp at hlen
         | cons b l' =>
          obtain⟨b1,_,b3,_,_⟩:=pd (F:=F) (m:=m) (ok:=ok) (w:=w) (t+1) i (q+1) b (by rw[d]; exact bZ);rw[U8 (by simp only[]; omega)]
          decide
        ·rw [e] at hlen |-
         simp only[]at hlen|-;cases d:be F m ok w t (i+1) q with
         |nil=>rw[d]at hlen; simp at hlen
         | cons b l' =>
          obtain⟨b1,_,b3,_,_⟩:=pd (F:=F) (m:=m) (ok:=ok) (w:=w) t (i+1) q b (by rw[d]; exact bZ);rw[U8 (by simp only[]; omega)]
          decide
     ·have O := q4 k (aB _) (by omega)
      rw[hC O];have tk:=h.take (i:=i) (k:=k+1) (aB i) (show k+1<=q by omega) hi (by omega) o1;have eB:F i k=F i (k+1):=by omega
      have hq2:fk (fA F ok w (F i (k+1)) i) (k+1) (m-(k+1))=some q:=by
       rw[<-eB];exact Kb (by omega) (by omega) q3 fun y h1 g=>q4 y (by omega) g
      rw[me u] ;rw[me hq2]at hO I;rw[<-hO,if_pos];refine I.2 ?_;by_cases V:F (i+1) k<F i (k+1)
      ·exact .inl V
      ·right
       refine⟨by omega,?_⟩;have hlen:=U_ h W (f:=k) (f':=k) v N (by omega);rw[me u]at hlen;cases d:be F m ok w t (i+1) k with
       |nil=>rw[d]at hlen; simp at hlen
       | cons b l' =>
        obtain⟨b1,_,_,_,_⟩:=pd (F:=F) (m:=m) (ok:=ok) (w:=w) t (i+1) k b (by rw[d]; exact bZ);rw[U7 (by simp only[]; omega)]
        decide
end
theorem KG{p q:List G}(d:fJ p)(g:fJ q):vF [.i (gi p 0).int,.i (gi q 0).int]=some [.i (dQ p q)]:=by
 obtain⟨_,h1,k⟩:=d;obtain⟨_,u,v⟩:=g;unfold gY at h1 k u v;refine aa.toEq ?_;unfold vF dQ gY;dsimp +instances only[Aa,Ab,Ac,Ad,Ae,Af,Ag];exact aa.pos (fg.2 ⟨by omega,by omega⟩) (aa.pos (fg.2 ⟨by omega,by omega⟩) (aa.some rfl))
theorem ajM(off:Int){p q:List G}(d:fJ p)(g:fJ q):C7 [.l [p],.l [q],.i off]=some [.t (nV off p q)]:=by
 refine aa.toEq ?_;unfold C7 nV;dsimp +instances only[Aa,Ab,Ac,Ad,Ae,Af,Ag];refine aa.test (fun h=>?_) fun h=>?_
 ·have h : ((aV p).toList == (aV q).toList) = true := h
  rw[h];refine aa.test (fun h=>?_) fun h=>?_
  ·have h : (j8 p == j8 q) = true := h
   rw[h];refine aa.cE (KG d g) ?_;exact aa.some rfl
  ·have h : (j8 p == j8 q) = false := h
   rw[h];exact aa.some rfl
 ·have h : ((aV p).toList == (aV q).toList) = false := h
  rw[h];exact aa.some rfl
def pg(a b c d:Int):Int:=if eY a c=0 then eY b d else eY a c
theorem ajN(a b c d:Int):C5 [.l [[.i a],[.i b]],.l [[.i c],[.i d]]]=some [.i (pg a b c d)]:=by
 have s0:∀ x,eY a c=x->aa (o9 [.l [[.i a],[.i b]],.l [[.i c],[.i d]],.l [[.i a],[.i b]],.i 2,.i 0]) fun o=>o=if x=0 then (none,[.l [[.i a],[.i b]],.l [[.i c],[.i d]],.l [[.i a],[.i b]],.i 2,.i 1]) else (some 0,[.i x]):=fun x k=>by
  unfold o9;dsimp +instances only[Aa,Ab,Ac,Ad,Ae,Af,Ag];refine aa.pos rfl (aa.pos rfl (aa.neg rfl (aa.pos rfl ?_)));refine aa.cE (Dq a c) ?_;dsimp +instances only[Aa,Ab,Ac,Ad,Ae,Af,Ag];rw[k];by_cases e:x=0
  ·rw [if_pos e]
   exact aa.neg (by simp[e]) (aa.pos rfl (aa.some rfl))
  ·rw [if_neg e]
   exact aa.pos (by simpa using e) (aa.some rfl)
 have s1:∀ x,eY b d=x->aa (o9 [.l [[.i a],[.i b]],.l [[.i c],[.i d]],.l [[.i a],[.i b]],.i 2,.i 1]) fun o=>o=if x=0 then (none,[.l [[.i a],[.i b]],.l [[.i c],[.i d]],.l [[.i a],[.i b]],.i 2,.i 2]) else (some 0,[.i x]):=fun x k=>by
  unfold o9;dsimp +instances only[Aa,Ab,Ac,Ad,Ae,Af,Ag];refine aa.pos rfl (aa.pos rfl (aa.neg rfl (aa.pos rfl ?_)));refine aa.cE (Dq b d) ?_;dsimp +instances only[Aa,Ab,Ac,Ad,Ae,Af,Ag];rw[k];by_cases e:x=0
  ·rw [if_pos e]
   exact aa.neg (by simp[e]) (aa.pos rfl (aa.some rfl))
  ·rw [if_neg e]
   exact aa.pos (by simpa using e) (aa.some rfl)
 have s2:o9 [.l [[.i a],[.i b]],.l [[.i c],[.i d]],.l [[.i a],[.i b]],.i 2,.i 2]=some (some 1,[.l [[.i a],[.i b]],.l [[.i c],[.i d]]]):=by
  refine aa.toEq ?_;unfold o9;dsimp +instances only[Aa,Ab,Ac,Ad,Ae,Af,Ag];exact aa.neg rfl (aa.some rfl)
 have key:aL o9 [.l [[.i a],[.i b]],.l [[.i c],[.i d]],.l [[.i a],[.i b]],.i 2,.i 0] 3 fun x g=>(x=0/\g=[.i (pg a b c d)])\/(x=1/\g=[.l [[.i a],[.i b]],.l [[.i c],[.i d]]]/\pg a b c d=0):=by
  obtain⟨o,h,rfl⟩:=s0 _ rfl;by_cases e:eY a c=0
  ·rw [if_pos e] at h
   refine aL.next h ?_
   obtain⟨o,h,rfl⟩:=s1 _ rfl;by_cases q:eY b d=0
   ·rw [if_pos q] at h
    refine aL.next h (aL.stop s2 (.inr ⟨rfl,rfl,by unfold pg; rw[if_pos e,q]⟩))
   ·rw [if_neg q] at h
    exact aL.stop h (.inl ⟨rfl,by unfold pg; rw[if_pos e]⟩)
  ·rw [if_neg e] at h
   exact aL.stop h (.inl ⟨rfl,by unfold pg; rw[if_neg e]⟩)
 refine aa.toEq ?_;unfold C5;dsimp +instances only[Aa,Ab,Ac,Ad,Ae,Af,Ag];refine aa.loop (key.to (by omega)) rfl ?_;rintro x g (⟨rfl,rfl⟩|⟨rfl,rfl,u⟩)
 ·exact aa.pos rfl (aa.some rfl)
 ·(dsimp +instances only [Aa,Ab,Ac,Ad,Ae,Af,Ag])
  refine aa.neg rfl (aa.neg rfl (aa.some ?_));rw[u]
section
variable {X Y:List Nat}
structure qJ (X Y:List Nat):Prop where
 x:X.Pairwise (·<·)
 y:Y.Pairwise (·<·)
theorem DM{X:List Nat}(h:X.Pairwise (·<·)){i j:Nat}(hi:i<X.length)(d:j<X.length):X.getD i 0<X.getD j 0↔i<j:=by
 have e:∀ k (hk:k<X.length),X.getD k 0=X[k]:=fun k hk=>by rw[bP,bx hk]; rfl
 rw[e i hi,e j d];have key:=List.pairwise_iff_getElem.1 h;constructor
 ·intro q
  rcases Eg i j with g|g|g
  ·exact g
  ·subst g; omega
  ·have := key j i d hi g
   omega
 ·exact key i j hi d
theorem Va(a b:Nat):eY (a:Int) (b:Int)=if a<b then -1 else if b<a then 1 else 0:=by
 unfold eY;by_cases h:a<b
 ·rw[if_pos h,if_pos (by omega)]
 ·rw [if_neg h, if_neg (by omega)]
  by_cases d:b<a
  ·rw[if_pos d,if_pos (by omega)]
  ·rw[if_neg d,if_neg (by omega)]
theorem ajO(R:qJ X Y){p q:Nat × Nat}(d:p.1<X.length/\p.2<Y.length)(g:q.1<X.length/\q.2<Y.length) :
  pg ((X.getD p.1 0:Nat):Int) ((Y.getD p.2 0:Nat):Int) ((X.getD q.1 0:Nat):Int) ((Y.getD q.2 0:Nat):Int)=if p.1<q.1 then -1 else if q.1<p.1 then 1 else if p.2<q.2 then -1 else if q.2<p.2 then 1 else 0:=by
 unfold pg;rw[Va,Va];have h1:=DM R.x d.1 g.1;have k:=DM R.x g.1 d.1;have u:=DM R.y d.2 g.2;have v:=DM R.y g.2 d.2;simp only[h1,k,u,v];by_cases a:p.1<q.1
 ·simp[a]
 ·by_cases b : q.1 < p.1
  ·simp[a,b]
  ·simp[a,b]
theorem ajP(p:Nat × Nat):aT [.int .i64,.int .i64] (dH X Y p)=dH X Y p:=rfl
theorem Vb(R:qJ X Y):∀(q d p u:List (Nat × Nat)),p.length=u.length->(∀ x∈q,x.1<X.length/\x.2<Y.length)->(∀ x∈d,x.1<X.length/\x.2<Y.length)->p.length+q.length<=100000 ->
  aL sK [.l ((p++q).map (dH X Y)),.l ((u++d).map (dH X Y)),.l ((p++q).map (dH X Y)),.i ((p.length+q.length:Nat):Int),.i (p.length:Int)] (q.length+1)
   fun x g=>(x=0/\g=[.i (g_ q d)])\/(x=1/\g=[.l ((p++q).map (dH X Y)),.l ((u++d).map (dH X Y))]/\q.length<=d.length/\g_ q d=if q.length<d.length then -1 else 0)
 | [],d,p,u,y,_,_,I=>by
  refine aL.stop (x:=1) (d':=[.l ((p++[]).map (dH X Y)),.l ((u++d).map (dH X Y))]) (aa.toEq ?_) (.inr ⟨rfl,rfl,dX _,?_⟩)
  ·unfold sK
   dsimp +instances only[Aa,Ab,Ac,Ad,Ae,Af,Ag];exact aa.neg (by rw[cd]; exact decide_eq_false (by simp)) (aa.some rfl)
  ·cases d with
   |nil=>rfl
   |cons b d=>simp[g_]
 | a::q,[],p,u,y,_,_,I=>by
  simp only[bG]at I;refine aL.stop (x:=0) (d':=[.i 1]) (aa.toEq ?_) (.inl ⟨rfl,rfl⟩);unfold sK;dsimp +instances only[Aa,Ab,Ac,Ad,Ae,Af,Ag];simp only[bN,en,bG,k6];exact aa.p (aa.p (aa.p (aa.some rfl)))
 | a::q,b::d,p,u,y,hq,hq',I=>by
  simp only[bG]at I;have ga:((p++a::q).map (dH X Y)).getD p.length []=dH X Y a:=by
   rw[bP,bB,iJ (aB _),lH];rfl
  have gb:((u++b::d).map (dH X Y)).getD p.length []=dH X Y b:=by
   rw[y,bP,bB,iJ (aB _),lH];rfl
  have hc:=ajO R (hq a bZ) (hq' b bZ);have step:∀ v,pg ((X.getD a.1 0:Nat):Int) ((Y.getD a.2 0:Nat):Int) ((X.getD b.1 0:Nat):Int) ((Y.getD b.2 0:Nat):Int)=v ->
    sK [.l ((p++a::q).map (dH X Y)),.l ((u++b::d).map (dH X Y)),.l ((p++a::q).map (dH X Y)),.i ((p.length+(a::q).length:Nat):Int),.i (p.length:Int)] =
     some (if v=0 then (none,[.l ((p++a::q).map (dH X Y)),.l ((u++b::d).map (dH X Y)),.l ((p++a::q).map (dH X Y)),.i ((p.length+(a::q).length:Nat):Int),.i ((p.length:Int)+1)]) else (some 0,[.i v])):=fun v hv=>by
   refine aa.toEq ?_;unfold sK;dsimp +instances only[Aa,Ab,Ac,Ad,Ae,Af,Ag];simp only[aK,ga,gb,ajP,bN,en,bG];refine aa.p (aa.p (aa.n (aa.p ?_)));refine aa.call (P:=fun g=>g=[.i v]) ?_ ?_
   ·unfold I6 dH
    dsimp +instances only[Aa,Ab,Ac,Ad,Ae,Af,Ag];refine aa.cE (ajN _ _ _ _) ?_;dsimp +instances only[Aa,Ab,Ac,Ad,Ae,Af,Ag];rw[hv];exact aa.some rfl
   ·rintro _ rfl
    dsimp +instances only[Aa,Ab,Ac,Ad,Ae,Af,Ag];by_cases e:v=0
    ·rw [if_pos e]
     exact aa.neg (by simp[e]) (aa.p (aa.some rfl))
    ·rw [if_neg e]
     exact aa.pos (by simpa using e) (aa.some rfl)
  have h:=step _ rfl;rw[hc]at h;have hlex:g_ (a::q) (b::d)=(if a.1<b.1 then -1 else if b.1<a.1 then 1 else if a.2<b.2 then -1 else if b.2<a.2 then 1 else g_ q d):=rfl;have e1:p++a::q=(p++[a])++q:=by simp
  have e2:u++b::d=(u++[b])++d:=by simp
  by_cases k:(if a.1<b.1 then (-1:Int) else if b.1<a.1 then 1 else if a.2<b.2 then -1 else if b.2<a.2 then 1 else 0)=0
  ·rw [if_pos k] at h
   refine aL.next h ?_
   have W:g_ (a::q) (b::d)=g_ q d:=by
    rw[hlex];split at k
    ·cases k
    ·rename_i M
     rw[if_neg M];split at k
     ·cases k
     ·rename_i N
      rw[if_neg N];split at k
      ·cases k
      ·rename_i O
       rw[if_neg O];split at k
       ·cases k
       ·rename_i U
        rw[if_neg U]
   have ih:=Vb R q d (p++[a]) (u++[b]) (by simp[y]) (fun x V=>hq x (cq _ V)) (fun x V=>hq' x (cq _ V)) (by simp; omega);have e3:(((p++[a]).length+q.length:Nat):Int)=((p.length+(a::q).length:Nat):Int):=by simp; omega
   have e4:(((p++[a]).length:Nat):Int)=(p.length:Int)+1:=by simp
   rw[<-e1,<-e2,e3,e4]at ih;refine ih.mono ?_;rintro x g (⟨rfl,rfl⟩|⟨rfl,rfl,h1,h2⟩)
   ·exact .inl ⟨rfl,by rw[W]⟩
   ·refine .inr ⟨rfl, rfl, by simpa using h1, ?_⟩
    rw[W,h2];simp only[bG,Nat.add_lt_add_iff_right]
  ·rw [if_neg k] at h
   refine aL.stop h (.inl ⟨rfl,?_⟩);rw[hlex];split
   ·rfl
   ·rename_i M
    rw[if_neg M]at k;split
    ·rfl
    ·rename_i N
     rw[if_neg N]at k;split
     ·rfl
     ·rename_i O
      rw[if_neg O]at k;split
      ·rfl
      ·rename_i U
       rw[if_neg U]at k;exact absurd rfl k
theorem ajQ(R:qJ X Y)(l l':List (Nat × Nat))(h1:∀ x∈l,x.1<X.length/\x.2<Y.length)(k:∀ x∈l',x.1<X.length/\x.2<Y.length)(q:l.length<=100000) :
  C6 [.l (l.map (dH X Y)),.l (l'.map (dH X Y))]=some [.i (g_ l l')]:=by
 have h:=Vb R l l' [] [] rfl h1 k (by simpa using q);simp only[iY,k6,cn]at h;refine aa.toEq ?_;unfold C6;dsimp +instances only[Aa,Ab,Ac,Ad,Ae,Af,Ag];simp only[bN];refine aa.loop (h.to (by omega)) rfl ?_;rintro x g (⟨rfl,rfl⟩|⟨rfl,rfl,u,d⟩)
 ·exact aa.pos rfl (aa.some rfl)
 ·(dsimp +instances only [Aa,Ab,Ac,Ad,Ae,Af,Ag])
  simp only[bN];refine aa.neg rfl ?_;by_cases e:l.length<l'.length
  ·rw [d, if_pos e]
   exact aa.p (aa.some rfl)
  ·rw [d, if_neg e]
   exact aa.n (aa.some rfl)
def hZ(X Y:List Nat)(x:Jn):List G:=[.l (x.1.map (dH X Y)),.i x.2]
theorem KH(R:qJ X Y)(x y:Jn)(h1:∀ p∈x.1,p.1<X.length/\p.2<Y.length)(g:∀ p∈y.1,p.1<X.length/\p.2<Y.length)(k:x.1.length<=100000) :
  vE [.l [hZ X Y x],.l [hZ X Y y]]=some [.t (hR x y)]:=by
 refine aa.toEq ?_;unfold vE hZ hR;dsimp +instances only[Aa,Ab,Ac,Ad,Ae,Af,Ag];simp only[bN];by_cases e:x.1.length=y.1.length
 ·rw [if_pos e]
  refine aa.neg (by rw[e]; simp) ?_;by_cases d:x.2=y.2
  ·rw [if_pos d]
   refine aa.neg (by rw[d]; simp) ?_;refine aa.cE (ajQ R x.1 y.1 h1 g k) ?_;refine aa.some ?_;dsimp +instances only[Aa,Ab,Ac,Ad,Ae,Af,Ag];rw[cd]
  ·rw [if_neg d]
   refine aa.pos (by simpa using d) (aa.some ?_);rw[cd]
 ·rw [if_neg e]
  refine aa.pos ?_ (aa.some ?_)
  ·have : ((x.1.length : Nat) : Int) ≠ ((y.1.length : Nat) : Int) := by omega
   simpa using this
  ·rw [cd]
   congr 2;rw[lJ,decide_eq_true_eq,decide_eq_true_eq];omega
end
section
variable (J:Nat->Nat->Jn) (X Y:List Nat)
def qK(i t p j:Nat):List G:=if i<p\/(p=i/\t<=j) then hZ X Y (J p j) else [.l [],.i 0]
def fp(m i t p:Nat):List (List G):=(dB (m+1)).map (qK J X Y i t p)
def gg(n m i t:Nat):List (List G):=(dB (n+1)).map fun p=>[G.l (fp J X Y m i t p)]
variable {J X Y}
theorem DN(m i t p:Nat):(fp J X Y m i t p).length=m+1:=by unfold fp; rw[bN,mr]
theorem KJ(n m i t:Nat):(gg J X Y n m i t).length=n+1:=by unfold gg; rw[bN,mr]
theorem DO{m i t p j:Nat}(d:j<=m):(fp J X Y m i t p).getD j []=qK J X Y i t p j:=by
 unfold fp;rw[bP,bB,om (by omega)];rfl
theorem KK{n m i t p:Nat}(d:p<=n):jv (gg J X Y n m i t) p=fp J X Y m i t p:=by
 unfold jv gg;rw[bP,bB,om (by omega)];rfl
theorem zH{i t p j:Nat}(h:i<p\/(p=i/\t<=j)):qK J X Y i t p j=hZ X Y (J p j):=by unfold qK; rw[if_pos h]
theorem ajR{m i t:Nat}:(fp J X Y m i (t+1) i).set t (hZ X Y (J i t))=fp J X Y m i t i:=by
 apply iK;intro j;unfold fp;rw[dv,bB,bB,bN,mr];by_cases d:j<m+1
 ·rw [om d]
  by_cases e:t=j
  ·subst e
   rw[if_pos rfl,if_pos d,dS,zH (.inr ⟨rfl,aB _⟩)]
  ·rw [if_neg e]
   simp only[dS];unfold qK;by_cases h:t<=j
   ·rw[if_pos (.inr ⟨rfl,by omega⟩),if_pos (.inr ⟨rfl,h⟩)]
   ·rw[if_neg (by omega),if_neg (by omega)]
 ·rw [nh (by simp; omega)]
  by_cases e:t=j
  ·subst e
   rw[if_pos rfl,if_neg d];rfl
  ·rw [if_neg e]
   rfl
theorem ajS{n m i t:Nat}:(gg J X Y n m i (t+1)).set i [.l (fp J X Y m i t i)]=gg J X Y n m i t:=by
 apply iK;intro p;unfold gg;rw[dv,bB,bB,bN,mr];by_cases d:p<n+1
 ·rw [om d]
  by_cases e:i=p
  ·subst e
   rw[if_pos rfl,if_pos d];rfl
  ·rw [if_neg e]
   simp only[dS];have:fp J X Y m i (t+1) p=fp J X Y m i t p:=by
    unfold fp;refine ki fun j _=>?_;unfold qK;by_cases h:i<p
    ·rw[if_pos (.inl h),if_pos (.inl h)]
    ·rw[if_neg (by omega),if_neg (by omega)]
   rw[this]
 ·rw [nh (by simp; omega)]
  by_cases e:i=p
  ·subst e
   rw[if_pos rfl,if_neg d];rfl
  ·rw [if_neg e]
   rfl
theorem ajT{n m i:Nat}(h:J i m=([],0)):gg J X Y n m (i+1) 0=gg J X Y n m i m:=by
 unfold gg;refine ki fun p _=>?_;have:fp J X Y m (i+1) 0 p=fp J X Y m i m p:=by
  unfold fp;refine ki fun j g=>?_;rw[fu]at g;unfold qK;by_cases h1:i<p
  ·rw[if_pos (by omega),if_pos (.inl h1)]
  ·rw [if_neg (by omega)]
   by_cases d:p=i/\m<=j
   ·rw [if_pos (.inr d), d.1, show j = m from by omega, h]
    rfl
   ·rw[if_neg (by omega)]
 rw[this]
theorem ajU{n m:Nat}(h:∀ j,J n j=([],0)):bQ (n+1) ([.l (bQ (m+1) ([.l [],.i 0]:List G))]:List G)=gg J X Y n m n 0:=by
 symm;rw[Lp];refine⟨KJ n m n 0,fun x d=>?_⟩;unfold gg at d;obtain⟨p,k,rfl⟩:=cH.1 d;rw[fu]at k;have:fp J X Y m n 0 p=bQ (m+1) ([.l [],.i 0]:List G):=by
  rw[Lp];refine⟨DN m n 0 p,fun y g=>?_⟩;unfold fp at g;obtain⟨j,_,rfl⟩:=cH.1 g;unfold qK;by_cases e:p=n
  ·rw [if_pos (.inr ⟨e, dX _⟩), e, h]
   rfl
  ·rw[if_neg (by omega)]
 rw[this]
end
def qL(a b:List (List G))(X Y:List Nat)(i k:Nat):Int:=dQ (fB a X i) (fB b Y k)
def bK(a b:List (List G))(X Y:List Nat)(off:Int):Nat->Nat->Jn:=gC X.length Y.length (cJ a b X Y off) (qL a b X Y)
structure JnP (X Y:List Nat) (x:Jn):Prop where
 mem:∀ p∈x.1,p.1<X.length/\p.2<Y.length
 qH:x.1.length<=1000
 s0:0<=x.2
 s1:x.2<10000000000
section
variable {a b:List (List G)} {X Y:List Nat} {off:Int}
theorem Vc(J:JC a b X Y)(h1:off<=3600000):wx X.length Y.length (cJ a b X Y off) (wJ a b X Y) (qL a b X Y) :=
 ⟨J.nX, fun i k hi hk ho => by
  have h:=vY (J.vZ hi).2 (J.v_ hk).2;obtain⟨_,_,d⟩:=Uy.1 ho;refine⟨rfl,h.1,?_⟩;show dQ (fB a X i) (fB b Y k)<=3600000
  omega⟩
theorem Vd(J:JC a b X Y)(h1:off<=3600000)(i k:Nat):bK a b X Y off i k=(be (kN X.length Y.length (cJ a b X Y off) (wJ a b X Y)) Y.length (cJ a b X Y off) (wJ a b X Y) (X.length-i) i k,dR (qL a b X Y) (be (kN X.length Y.length (cJ a b X Y off) (wJ a b X Y)) Y.length (cJ a b X Y off) (wJ a b X Y) (X.length-i) i k)) :=
 DL (Dt _ _ _ _) (Vc J h1) _ i k (aB _)
theorem KL(J:JC a b X Y)(h1:off<=3600000)(i k:Nat):JnP X Y (bK a b X Y off i k):=by
 rw[Vd J h1];have d:=wy (Dt X.length Y.length (cJ a b X Y off) (wJ a b X Y)) (Vc J h1) (t:=X.length-i) (i:=i) (f:=k) rfl;have q:=zG (F:=kN X.length Y.length (cJ a b X Y off) (wJ a b X Y)) (m:=Y.length) (ok:=cJ a b X Y off) (w:=wJ a b X Y) (X.length-i) i k;have:=J.nX;refine⟨fun p g=>?_,by simp only[]; omega,d.1,d.2⟩;obtain⟨u,a2,_,a4,_⟩:=pd _ i k p g;exact⟨by omega,a4⟩
def mn(a b:List (List G))(X Y:List Nat)(off:Int)(i t:Nat):Jn:=((i,t)::(bK a b X Y off (i+1) (t+1)).1,(bK a b X Y off (i+1) (t+1)).2+dQ (fB a X i) (fB b Y t))
theorem Ve(J:JC a b X Y)(R:qJ X Y)(h1:off<=3600000)(ac bc:ByteArray){i:Nat}(hi:i<X.length):∀ t:Nat,t<=Y.length ->
  aL ze [.s ac,.l a,.s bc,.l b,.l [],.i 0,.l (gg (bK a b X Y off) X Y X.length Y.length i t),.i ((X.length+1:Nat):Int),.l (aN X),.l (aN Y),.i off,.i ((X.length+1:Nat):Int),.i (i:Int),.i ((t:Int)-1)] (t+1)
   fun c g=>c=0/\g=[.s ac,.l a,.s bc,.l b,.l [],.i 0,.l (gg (bK a b X Y off) X Y X.length Y.length i 0),.i ((X.length+1:Nat):Int),.l (aN X),.l (aN Y),.i off,.i ((X.length+1:Nat):Int),.i (i:Int)]
 | 0,_=>by
  refine aL.stop (x:=0) (aa.toEq ?_) ⟨rfl,rfl⟩;unfold ze;dsimp +instances only[Aa,Ab,Ac,Ad,Ae,Af,Ag];refine aa.neg (by rw[eT]; decide) ?_;simp only[aK];exact aa.some rfl
 | t+1,ht=>by
  have nX:=J.nX;have nY:=J.nY;have ih:=Ve J R h1 ac bc hi t (by omega);have e0:((t+1:Nat):Int)-1=(t:Int):=by omega
  rw[e0];refine aL.next (aa.toEq ?_) ih
  have e1:(0+((i:Int)+1).toNat)=i+1:=by omega
  have e2:((t:Int)+1).toNat=t+1:=by omega
  have e3:(0+(i:Int).toNat)=i:=by omega
  have U:=KL J h1 (i+1) t;have u:=KL J h1 i (t+1);have k:=KL J h1 (i+1) (t+1);have M:bK a b X Y off i t=_:=U9 (ap:=qL a b X Y) hi (show t<Y.length by omega);have hA:(fp (bK a b X Y off) X Y Y.length i (t+1) (i+1)).getD t []=hZ X Y (bK a b X Y off (i+1) t):=by rw[DO (by omega),zH (.inl (by omega))]
  have hB:(fp (bK a b X Y off) X Y Y.length i (t+1) i).getD (t+1) []=hZ X Y (bK a b X Y off i (t+1)):=by rw[DO (by omega),zH (.inr ⟨rfl,aB _⟩)]
  have hC:(fp (bK a b X Y off) X Y Y.length i (t+1) (i+1)).getD (t+1) []=hZ X Y (bK a b X Y off (i+1) (t+1)):=by rw[DO (by omega),zH (.inl (by omega))]
  have W:jv (gg (bK a b X Y off) X Y X.length Y.length i (t+1)) (i+1)=fp (bK a b X Y off) X Y Y.length i (t+1) (i+1):=KK (by omega);have hR0:jv (gg (bK a b X Y off) X Y X.length Y.length i (t+1)) i=fp (bK a b X Y off) X Y Y.length i (t+1) i:=KK (by omega);have V:∀ v:Jn,v=bK a b X Y off i t->(gg (bK a b X Y off) X Y X.length Y.length i (t+1)).set i [.l ((fp (bK a b X Y off) X Y Y.length i (t+1) i).set t (hZ X Y v))]=gg (bK a b X Y off) X Y X.length Y.length i t:=fun v y=>by
   rw[y,ajR,ajS]
  have hl1:=DN (J:=bK a b X Y off) (X:=X) (Y:=Y) Y.length i (t+1) (i+1);have hl0:=DN (J:=bK a b X Y off) (X:=X) (Y:=Y) Y.length i (t+1) i;have hlt:=KJ (J:=bK a b X Y off) (X:=X) (Y:=Y) X.length Y.length i (t+1);obtain⟨c1,c2⟩:=J.vZ hi;obtain⟨c3,q⟩:=J.v_ (show t<Y.length by omega);have hin:=vY c2 q;have hb1:=KH R (bK a b X Y off i (t+1)) (bK a b X Y off (i+1) t) u.mem U.mem (by have:=u.qH; omega);have ea:a.getD (X.getD i 0) []=fB a X i:=rfl;have eb:b.getD (Y.getD t 0) []=fB b Y t:=rfl;have ep:∀ x:Jn,[G.l (x.1.map (dH X Y)),.i x.2]=hZ X Y x:=fun _=>rfl;have hput:∀ r:List G,∀ x:Jn,dx [.list [.int .i64,.int .i64],.int .i64] r 0 (hZ X Y x)=hZ X Y x:=fun r x=>Cl rfl;have fin:∀ v:Jn,v=bK a b X Y off i t->aa (some ((none:Option Nat),(([.s ac,.l a,.s bc,.l b,.l [],.i 0,.l ((gg (bK a b X Y off) X Y X.length Y.length i (t+1)).set i [G.l ((fp (bK a b X Y off) X Y Y.length i (t+1) i).set t (hZ X Y v))]),.i ((X.length+1:Nat):Int),.l (aN X),.l (aN Y),.i off,.i ((X.length+1:Nat):Int),.i (i:Int),.i ((t:Int)-1)]):List G))) fun o=>o=(none,(([.s ac,.l a,.s bc,.l b,.l [],.i 0,.l (gg (bK a b X Y off) X Y X.length Y.length i t),.i ((X.length+1:Nat):Int),.l (aN X),.l (aN Y),.i off,.i ((X.length+1:Nat):Int),.i (i:Int),.i ((t:Int)-1)]):List G)):=fun v y=>by
   rw[V v y];exact aa.some rfl
  unfold ze;dsimp +instances only[Aa,Ab,Ac,Ad,Ae,Af,Ag];simp only[aK,cn,e2,show ((i:Int)+1).toNat=i+1 from by omega,W,hR0,hl1,hl0,hlt,hA,hB,hC,fm,mf hi,mf (show t<Y.length by omega)];have q0:∀ x:Jn,(gi (hZ X Y x) 0).rows=x.1.map (dH X Y):=fun _=>rfl;have q1:∀ x:Jn,(gi (hZ X Y x) 1).int=x.2:=fun _=>rfl;simp only[q0,q1,ep];dsimp +instances only[Aa,Ab,Ac,Ad,Ae,Af,Ag];simp only[aK,ea,eb,c2.1,q.1,hb1];have N:=ajM off c2 q;have O:=KG c2 q;have hO:∀ p∈(i,t)::(bK a b X Y off (i+1) (t+1)).1,p.1<X.length/\p.2<Y.length:=fun p I=>by
   rcases bC.1 I with rfl|I
   ·exact⟨hi,ht⟩
   ·exact k.mem p I
  have nA:=J.na;have nB:=J.nb;refine aa.p (aa.p (aa.p (aa.p (aa.p (aa.p (aa.p (aa.p (aa.p (aa.p (aa.p ?_))))))))));refine aa.cE rfl ?_;refine aa.test (fun h=>?_) fun h=>?_
  ·have d:bK a b X Y off i t=if cJ a b X Y off i t=true then (if hR (mn a b X Y off i t) (bK a b X Y off i (t+1))=true then (mn a b X Y off i t) else (bK a b X Y off i (t+1))) else (bK a b X Y off i (t+1)):=by
    rw[M];have h:hR (gC X.length Y.length (cJ a b X Y off) (qL a b X Y) i (t+1)) (gC X.length Y.length (cJ a b X Y off) (qL a b X Y) (i+1) t)=true:=h;simp only[h,if_true,kV,if_false];rfl
   refine aa.p (aa.p (aa.p (aa.p ?_)));refine aa.cE N ?_;refine aa.test (fun hk=>?_) fun hk=>?_
   ·have hk : cJ a b X Y off i t = true := hk
    rw[if_pos hk]at d;refine aa.p (aa.p (aa.p (aa.p (aa.p (aa.p (aa.p (aa.p (aa.pos (by have:=k.qH; simp only[bN]; (first|rfl|assumption|(simp only[ao,sl]<;>omega))) ?_))))))));refine aa.cE O ?_;refine aa.pos (fg.2 ⟨by have:=k.s0; show -9223372036854775808<=(bK a b X Y off (i+1) (t+1)).2+dQ (fB a X i) (fB b Y t); omega,by have:=k.s1; show (bK a b X Y off (i+1) (t+1)).2+dQ (fB a X i) (fB b Y t)<=9223372036854775807; omega⟩) (aa.pos (by simp) ?_);refine aa.cE (KH R (mn a b X Y off i t) (bK a b X Y off i (t+1)) hO (u).mem (by have:=k.qH; show (bK a b X Y off (i+1) (t+1)).1.length+1<=100000; omega)) ?_;refine aa.test (fun hb=>?_) fun hb=>?_
    ·have hb : hR (mn a b X Y off i t) (bK a b X Y off i (t + 1)) = true := hb
     rw[if_pos hb]at d;refine aa.p (aa.p (aa.p (aa.p (aa.p ?_))));exact fin (mn a b X Y off i t) d.symm
    ·have hb : hR (mn a b X Y off i t) (bK a b X Y off i (t + 1)) = false := hb
     rw[if_neg (by rw[hb]; simp)]at d;refine aa.p (aa.p (aa.p (aa.p (aa.p ?_))));exact fin _ d.symm
   ·have hk : cJ a b X Y off i t = false := hk
    rw[if_neg (by rw[hk]; simp)]at d;refine aa.p (aa.p (aa.p (aa.p (aa.p ?_))));exact fin _ d.symm
  ·have d:bK a b X Y off i t=if cJ a b X Y off i t=true then (if hR (mn a b X Y off i t) (bK a b X Y off (i+1) t)=true then (mn a b X Y off i t) else (bK a b X Y off (i+1) t)) else (bK a b X Y off (i+1) t):=by
    rw[M];have h:hR (gC X.length Y.length (cJ a b X Y off) (qL a b X Y) i (t+1)) (gC X.length Y.length (cJ a b X Y off) (qL a b X Y) (i+1) t)=false:=h;simp only[h,if_true,kV,if_false];rfl
   refine aa.p (aa.p (aa.p (aa.p ?_)));refine aa.cE N ?_;refine aa.test (fun hk=>?_) fun hk=>?_
   ·have hk : cJ a b X Y off i t = true := hk
    rw[if_pos hk]at d;refine aa.p (aa.p (aa.p (aa.p (aa.p (aa.p (aa.p (aa.p (aa.pos (by have:=k.qH; simp only[bN]; (first|rfl|assumption|(simp only[ao,sl]<;>omega))) ?_))))))));refine aa.cE O ?_;refine aa.pos (fg.2 ⟨by have:=k.s0; show -9223372036854775808<=(bK a b X Y off (i+1) (t+1)).2+dQ (fB a X i) (fB b Y t); omega,by have:=k.s1; show (bK a b X Y off (i+1) (t+1)).2+dQ (fB a X i) (fB b Y t)<=9223372036854775807; omega⟩) (aa.pos (by simp) ?_);refine aa.cE (KH R (mn a b X Y off i t) (bK a b X Y off (i+1) t) hO (U).mem (by have:=k.qH; show (bK a b X Y off (i+1) (t+1)).1.length+1<=100000; omega)) ?_;refine aa.test (fun hb=>?_) fun hb=>?_
    ·have hb : hR (mn a b X Y off i t) (bK a b X Y off (i + 1) t) = true := hb
     rw[if_pos hb]at d;refine aa.p (aa.p (aa.p (aa.p (aa.p ?_))));exact fin (mn a b X Y off i t) d.symm
    ·have hb : hR (mn a b X Y off i t) (bK a b X Y off (i + 1) t) = false := hb
     rw[if_neg (by rw[hb]; simp)]at d;refine aa.p (aa.p (aa.p (aa.p (aa.p ?_))));exact fin _ d.symm
   ·have hk : cJ a b X Y off i t = false := hk
    rw[if_neg (by rw[hk]; simp)]at d;refine aa.p (aa.p (aa.p (aa.p (aa.p ?_))));exact fin _ d.symm
theorem Vg(J:JC a b X Y)(R:qJ X Y)(h1:off<=3600000)(ac bc:ByteArray):∀ t:Nat,t<=X.length ->
  aL zf [.s ac,.l a,.s bc,.l b,.l [],.i 0,.l (gg (bK a b X Y off) X Y X.length Y.length t 0),.i ((X.length+1:Nat):Int),.l (aN X),.l (aN Y),.i off,.i ((X.length+1:Nat):Int),.i ((t:Int)-1)] (t+1)
   fun c g=>c=0/\g=[.l [],.i 0,.l (gg (bK a b X Y off) X Y X.length Y.length 0 0),.i ((X.length+1:Nat):Int),.i ((X.length+1:Nat):Int)]
 | 0,_=>by
  refine aL.stop (x:=0) (aa.toEq ?_) ⟨rfl,rfl⟩;unfold zf;dsimp +instances only[Aa,Ab,Ac,Ad,Ae,Af,Ag];refine aa.neg (by rw[eT]; decide) ?_;simp only[aK];exact aa.some rfl
 | t+1,q=>by
  have nX:=J.nX;have nY:=J.nY;have d:=Vg J R h1 ac bc t (by omega);have k:((t+1:Nat):Int)-1=(t:Int):=by omega
  rw[k];refine aL.next (aa.toEq ?_) d
  unfold zf;dsimp +instances only[Aa,Ab,Ac,Ad,Ae,Af,Ag];simp only[aK,fm];refine aa.p (aa.pos (fg.2 ⟨by omega,by omega⟩) ?_);rw[ajT (show bK a b X Y off t Y.length=([],0) from KF (.inr (aB _)))];refine aa.loop ((Ve J R h1 ac bc (show t<X.length by omega) Y.length (aB _)).to (by omega)) rfl ?_;rintro x g ⟨rfl,rfl⟩;dsimp +instances only[Aa,Ab,Ac,Ad,Ae,Af,Ag];simp only[aK];exact aa.pos (fg.2 ⟨by omega,by omega⟩) (aa.some rfl)
theorem Vh(X Y:List Nat)(nX:X.length<=1000)(nY:Y.length<=1000)(A B:List (List G))(ac bc:ByteArray)(off:Int):∀ r t:Nat,t+r=X.length+1 ->
  aL zd [.s ac,.l A,.s bc,.l B,.l [],.i 0,.l (bQ t ([.l (bQ (Y.length+1) ([.l [],.i 0]:List G))]:List G)),.i ((X.length+1:Nat):Int),.l (aN X),.l (aN Y),.i off,.i ((X.length+1:Nat):Int),.i ((X.length+1:Nat):Int),.i (t:Int)] (r+1)
   fun c g=>c=0/\g=[.s ac,.l A,.s bc,.l B,.l [],.i 0,.l (bQ (X.length+1) ([.l (bQ (Y.length+1) ([.l [],.i 0]:List G))]:List G)),.i ((X.length+1:Nat):Int),.l (aN X),.l (aN Y),.i off,.i ((X.length+1:Nat):Int)]
 | 0,t,h=>by
  refine aL.stop (x:=0) (aa.toEq ?_) ⟨rfl,rfl⟩;have:t=X.length+1:=by omega
  subst this;unfold zd;dsimp +instances only[Aa,Ab,Ac,Ad,Ae,Af,Ag];simp only[aK];refine aa.n ?_;exact aa.some rfl
 | r+1,t,h=>by
  have d:=Vh X Y nX nY A B ac bc off r (t+1) (by omega);rw[List.replicate_succ',Int.natCast_add]at d;refine aL.next (aa.toEq ?_) d
  unfold zd;dsimp +instances only[Aa,Ab,Ac,Ad,Ae,Af,Ag];simp only[aK,fm,tc,cn,show ((Y.length:Int)+1).toNat=Y.length+1 from by omega];refine aa.p (aa.p (aa.p (aa.p (aa.p (aa.p ?_)))));exact aa.some rfl
theorem ajW(J:JC a b X Y)(R:qJ X Y)(h1:off<=3600000)(ac bc:ByteArray) :
  C8 [.l [[.s ac,.l a]],.l [[.s bc,.l b]],.l (aN X),.l (aN Y),.i off]=some [.l [hZ X Y (bK a b X Y off 0 0)]]:=by
 have nX:=J.nX;have nY:=J.nY;have d:=Vg J R h1 ac bc X.length (aB _);rw[<-ajU (fun j=>show bK a b X Y off X.length j=([],0) from KF (.inl (aB _)))]at d;refine aa.toEq ?_;unfold C8;dsimp +instances only[Aa,Ab,Ac,Ad,Ae,Af,Ag];simp only[fm,tc,show ((X.length:Int)+1).toNat=X.length+1 from by omega];refine aa.p (aa.p (aa.p ?_));have hi:=Vh X Y nX nY a b ac bc off (X.length+1) 0 (by omega);refine aa.loop (hi.to (by omega)) rfl ?_;rintro x g ⟨rfl,rfl⟩;dsimp +instances only[Aa,Ab,Ac,Ad,Ae,Af,Ag];simp only[aK,fm];refine aa.p ?_;refine aa.loop (d.to (by omega)) rfl ?_;rintro x g ⟨rfl,rfl⟩;dsimp +instances only[Aa,Ab,Ac,Ad,Ae,Af,Ag];have q:(jv (gg (bK a b X Y off) X Y X.length Y.length 0 0) 0)=fp (bK a b X Y off) X Y Y.length 0 0 0:=KK (dX _);have k:(fp (bK a b X Y off) X Y Y.length 0 0 0).getD 0 []=hZ X Y (bK a b X Y off 0 0):=by rw[DO (by omega),zH (.inr ⟨rfl,aB _⟩)]
 have u:=KJ (J:=bK a b X Y off) (X:=X) (Y:=Y) X.length Y.length 0 0;have hr:=DN (J:=bK a b X Y off) (X:=X) (Y:=Y) Y.length 0 0 0;simp only[aK,q,k,u,hr];refine aa.p (aa.p (aa.p (aa.p ?_)));exact aa.some rfl
end
def DP:ByteArray:=⟨#[32]⟩
def ob(k:GK):ByteArray:=(k.1++DP)++lx k.2
def fL(k:GK):List G:=[.s (ob k)]
structure Sm (k:GK):Prop where
 lo:0<=k.2
 hi:k.2<=9
 size:k.1.size<=1000
theorem ajX:((dB 10).all fun a=>decide ((lx (a:Nat)).data.toList=[Ls (48+a)]))=true:=by kernel_rfl
theorem KM{n:Int}(h0:0<=n)(h1:n<=9):(lx n).data.toList=[Ls (48+n.toNat)]:=by
 obtain⟨k,rfl⟩:=Ei h0;exact of_decide_eq_true (da.1 ajX k (fu.2 (by omega)))
theorem Vi{n:Int}(h0:0<=n)(h1:n<=9):(lx n).size=1:=by
 have h:=congrArg Ec (KM h0 h1);rw[Array.length_toList]at h;exact h
theorem Vj{n:Int}(h0:0<=n)(h1:n<=9):u5 [.i n]=some [.s (lx n)]:=by
 refine aa.toEq ?_;unfold u5;dsimp +instances only[Aa,Ab,Ac,Ad,Ae,Af,Ag];exact aa.pos (by simp only[iP,cd,ax,decide_eq_true_eq]; omega) (aa.some rfl)
theorem ajY{k k':GK}(h:Sm k)(h':Sm k')(e:ob k=ob k'):k=k':=by
 have d:=congrArg (fun b:ByteArray=>b.data.toList) e;unfold ob at d;simp only[ByteArray.data_append,Array.toList_append,KM h.lo h.hi,KM h'.lo h'.hi]at d;obtain⟨g,q⟩:=al9 d rfl;obtain⟨u,_⟩:=al9 g rfl;refine Prod.ext (ByteArray.ext (Array.toList_inj.1 u)) ?_;have v:Ls (48+k.2.toNat)=Ls (48+k'.2.toNat):=by simpa using q
 have y:=congrArg UInt8.toNat v;simp only[UInt8.toNat_ofNat']at y;have:=h.lo;have:=h.hi;have:=h'.lo;have:=h'.hi;omega
theorem ajZ(k:GK):a8 [.str] (fL k) (fL k)=true:=by
 show ((ob k).toList==(ob k).toList&&true)=true
 simp
theorem aj0{k k':GK}(h1:Sm k)(d:Sm k')(h:k≠k'):a8 [.str] (fL k) (fL k')=false:=by
 show ((ob k).toList==(ob k').toList&&true)=false
 cases he:(ob k).toList==(ob k').toList with
 |false=>rfl
 |true=>exact(h (ajY h1 d (AY (eq_of_beq he)))).elim
abbrev EV:=GK × List Nat × List Nat
def nf(i:Nat)(e:EV):List G:=[.l [fL e.1],.l [[.l (aN e.2.1),.l (aN e.2.2)]],.i (i:Int),.t true]
def ch:Nat->List EV->List (List G)
 |_,[]=>[]
 |i,e::L=>nf i e::ch (i+1) L
theorem DQ:∀(i:Nat) (L:List EV),(ch i L).length=L.length
 |_,[]=>rfl
 |i,_::L=>by simp[ch,DQ (i+1) L]
theorem zI:∀(i:Nat) (A B:List EV),ch i (A++B)=ch i A++ch (i+A.length) B
 |i,[],B=>by simp[ch]
 | i,e::A,B=>by
  simp only[kY,ch,zI (i+1) A B,bG];rw[show i+1+A.length=i+(A.length+1) from by omega]
def mo(k:GK)(p:List Nat × List Nat):List EV->List EV
 | []=>[(k,p)]
 |e::L=>if e.1=k then (k,p)::L else e::mo k p L
theorem DR(k:GK):∀ L:List EV,(∀ e∈L,e.1≠k)\/∃ A p B,L=A++(k,p)::B/\∀ e∈A,e.1≠k
 | []=>.inl fun e h=>by cases h
 | e::L=>by
  by_cases he:e.1=k
  ·exact .inr ⟨[],e.2,L,by rw[<-he]; rfl,fun e h=>by cases h⟩
  ·rcases DR k L with h | ⟨A, vs, B, rfl, h⟩
   ·exact .inl fun x d=>by
     rcases bC.1 d with rfl|d
     ·exact he
     ·exact h x d
   ·exact .inr ⟨e::A,vs,B,rfl,fun x d=>by
     rcases bC.1 d with rfl|d
     ·exact he
     ·exact h x d⟩
theorem zJ{k:GK}(p:List Nat × List Nat):∀{L:List EV},(∀ e∈L,e.1≠k)->mo k p L=L++[(k,p)]
 | [],_=>rfl
 | e::L,h=>by
  rw[mo,if_neg (h e bZ),zJ p fun x d=>h x (cq _ d)];rfl
theorem zK{k:GK}(p q:List Nat × List Nat)(B:List EV):∀{A:List EV},(∀ e∈A,e.1≠k)->mo k p (A++(k,q)::B)=A++(k,p)::B
 | [],_=>by rw[iY,mo,if_pos rfl,iY]
 | e::A,h=>by
  rw[kY,mo,if_neg (h e bZ),zK p q B fun x d=>h x (cq _ d)];rfl
theorem KN{k:GK}(hk:Sm k)(R:List (List G)):∀(A:List EV) (i j:Nat),(∀ e∈A,e.1≠k)->(∀ e∈A,Sm e.1)->bF [.str] (fL k) (ch i A++R) j=bF [.str] (fL k) R (j+A.length)
 | [],_,_,_,_=>rfl
 | e::A,i,j,h,g=>by
  rw[ch,kY,bF,show (gi (nf i e) 0).row=fL e.1 from rfl,aj0 hk (g e bZ) (Ne.symm (h e bZ)),cond_false,KN hk R A (i+1) (j+1) (fun x d=>h x (cq _ d)) (fun x d=>g x (cq _ d)),bG];congr 1;omega
theorem aj1{k:GK}(hk:Sm k){L:List EV}(h:∀ e∈L,e.1≠k)(d:∀ e∈L,Sm e.1)(i j:Nat):bF [.str] (fL k) (ch i L) j=none:=by
 have:=KN hk [] L i j h d;rw[cB]at this;exact this
theorem Vk{k:GK}(hk:Sm k){A:List EV}(h:∀ e∈A,e.1≠k)(d:∀ e∈A,Sm e.1)(i:Nat)(r:List G)(hr:(gi r 0).row=fL k)(R:List (List G)):bF [.str] (fL k) (ch i A++r::R) 0=some (A.length,r):=by
 rw[KN hk (r::R) A i 0 h d,bF,hr,ajZ,cond_true,cn]
structure HI (F:GK->List Nat × List Nat) (L:List EV):Prop where
 nd:(L.map (·.1)).Nodup
 sm:∀ e∈L,Sm e.1
 j_:∀ e∈L,e.2=F e.1
 all:∀ k,F k≠([],[])->∃ e∈L,e.1=k
theorem HI.zero:HI (fun _=>([],[])) []:=⟨by simp,by simp,by simp,fun k h=>(h rfl).elim⟩
theorem HI.congr{F d:GK->List Nat × List Nat}{L:List EV}(h:HI F L)(e:∀ k,F k=d k):HI d L:=by
 rw[<-show F=d from funext e];exact h
theorem HI.out{F:GK->List Nat × List Nat}{L:List EV}(h:HI F L){k:GK}(h1:∀ e∈L,e.1≠k):F k=([],[]):=by
 by_cases e:F k=([],[])
 ·exact e
 ·obtain ⟨x, d, he⟩ := h.all k e
  exact(h1 x d he).elim
theorem HI.set{F:GK->List Nat × List Nat}{L:List EV}(h:HI F L){k:GK}(hk:Sm k)(p:List Nat × List Nat):HI (fun k'=>if k'=k then p else F k') (mo k p L):=by
 rcases DR k L with h1|⟨A,q,B,rfl,y⟩
 ·rw [zJ p h1]
  refine⟨?_,fun x d=>?_,fun x d=>?_,fun k' g=>?_⟩
  ·rw [eO, Eh]
   refine⟨h.nd,by simp,fun a ha b hb=>?_⟩;obtain⟨e,he,rfl⟩:=cH.1 ha;simp at hb;subst hb;exact h1 e he
  ·rcases cw.1 d with d | d
   ·exact h.sm x d
   ·rw [iZ.1 d]
    exact hk
  ·rcases cw.1 d with d | d
   ·rw [if_neg (h1 x d)]
    exact h.j_ x d
   ·rw[iZ.1 d,if_pos rfl]
  ·by_cases e : k' = k
   ·exact⟨_,oq _ bZ,e.symm⟩
   ·rw [if_neg e] at g
    obtain⟨x,d,u⟩:=h.all k' g;exact⟨x,my _ d,u⟩
 ·rw [zK p q B y]
  have v:=h.nd;rw[eO,bX]at v;have hB:∀ e∈B,e.1≠k:=fun e he hk=>by
   have:=(Eh.1 v).2.1;rw[nq]at this;exact this.1 (hk▸cH.2 ⟨e,he,rfl⟩)
  refine⟨?_,fun x d=>?_,fun x d=>?_,fun k' g=>?_⟩
  ·rw [eO, bX]
   exact v
  ·rcases cw.1 d with d | d
   ·exact h.sm x (my _ d)
   ·rcases bC.1 d with rfl | d
    ·exact hk
    ·exact h.sm x (oq _ (cq _ d))
  ·rcases cw.1 d with d | d
   ·rw [if_neg (y x d)]
    exact h.j_ x (my _ d)
   ·rcases bC.1 d with rfl | d
    ·rw[if_pos rfl]
    ·rw [if_neg (hB x d)]
     exact h.j_ x (oq _ (cq _ d))
  ·by_cases e : k' = k
   ·exact⟨(k,p),oq _ bZ,e.symm⟩
   ·rw [if_neg e] at g
    obtain⟨x,d,u⟩:=h.all k' g;rcases cw.1 d with d|d
    ·exact⟨x,my _ d,u⟩
    ·rcases bC.1 d with rfl | d
     ·exact(e u.symm).elim
     ·exact⟨x,oq _ (cq _ d),u⟩
theorem Vl{L:List EV}(k:GK)(p:List Nat × List Nat):(mo k p L).length<=L.length+1:=by
 rcases DR k L with h1|⟨A,q,B,rfl,d⟩
 ·rw [zJ p h1]
  simp
 ·rw [zK p q B d]
  simp
theorem Vm{F:GK->List Nat × List Nat}{L:List EV}(h:HI F L){k:GK}(hk:Sm k) :
  dO [.str] (ch 0 L) (fL k)=true/\ln [.str] (ch 0 L) (fL k) 0=aN (F k).1/\ln [.str] (ch 0 L) (fL k) 1=aN (F k).2 /\
   (∀ v0 v1,rS [.str] (fH [.str] (ch 0 L) (fL k)) (fL k) (aN v0) (aN v1) L.length=ch 0 (mo k (v0,v1) L)) /\
   (∀ p,dE [.str] (fH [.str] (ch 0 L) (fL k)) (fL k) L.length=(mo k p L).length):=by
 rcases DR k L with h1|⟨A,vs,B,rfl,u⟩
 ·have d := aj1 hk h1 h.sm 0 0
  have g:=h.out h1;have q:fH [.str] (ch 0 L) (fL k)=ch 0 L:=by unfold fH; rw[d]
  refine⟨by unfold dO; rw[d],by unfold ln; rw[d,g]; rfl,by unfold ln; rw[d,g]; rfl,fun v0 v1=>?_,fun p=>?_⟩
  ·rw [q, zJ _ h1, zI, cn]
   unfold rS;rw[d];rfl
  ·rw [q, zJ _ h1]
   unfold dE dK;rw[d];simp
 ·have v : ∀ e ∈ A, Sm e.1 := fun e he => h.sm e (my _ he)
  have g:vs=F k:=h.j_ (k,vs) (by simp);have d:bF [.str] (fL k) (ch 0 (A++(k,vs)::B)) 0=some (A.length,nf A.length (k,vs)):=by
   rw[zI,ch,cn];exact Vk hk u v 0 (nf A.length (k,vs)) rfl _
  have q:fH [.str] (ch 0 (A++(k,vs)::B)) (fL k)=ch 0 A++[.l [fL k],.l [[.l (aN vs.1),.l (aN vs.2)]],.i (A.length:Int),.t false]::ch (A.length+1) B:=by
   unfold fH;rw[d,zI,ch,cn];exact sU _ _ _ _ _ (DQ 0 A)
  have y:=Vk hk u v 0 [.l [fL k],.l [[.l (aN vs.1),.l (aN vs.2)]],.i (A.length:Int),.t false] rfl (ch (A.length+1) B);refine⟨by unfold dO; rw[d]; rfl,by unfold ln; rw[d,<-g]; rfl,by unfold ln; rw[d,<-g]; rfl,fun v0 v1=>?_,fun p=>?_⟩
  ·rw [q, zK _ vs B u, zI, ch, cn]
   unfold rS;rw[y];simp only[];rw[sU _ _ _ _ _ (DQ 0 A)];rfl
  ·rw [q, zK _ vs B u]
   unfold dE dK;rw[y];simp
structure wz (A B:List (List G)):Prop where
 two:fo A B
 sa:∀ z∈A,Sm (bo z)
 sb:∀ z∈B,Sm (bo z)
 la:A.length<=500
 lb:B.length<=500
theorem Vn(l:List (List G))(s:ByteArray)(k:GK)(n:Nat):(cV l s k n).length<=n:=by
 unfold cV;have:=Lq (fun i=>cP l s i&&decide (bo (l.getD i [])=k)) (dB n)
 rwa [mr]at this
theorem Vo:DP.size=1:=rfl
theorem aj2{F:GK->List Nat × List Nat}{L:List EV}(X:List (List G))(w:ByteArray)(i:Nat) (h:HI (fun k=>(cV X w k i,(F k).2)) L) (d:Sm (bo (X.getD i []))) :
  HI (fun k=>(cV X w k (i+1),(F k).2)) (bif cP X w i then mo (bo (X.getD i [])) (cV X w (bo (X.getD i [])) i++[i],(F (bo (X.getD i []))).2) L else L):=by
 cases hw:cP X w i with
 | false =>
  rw[cond_false];exact h.congr fun k=>by rw[sV,if_neg (by rw[hw]; simp),cB]
 | true =>
  rw[cond_true];refine(h.set d _).congr fun k=>?_;rw[sV];by_cases e:k=bo (X.getD i [])
  ·rw[if_pos e,e,if_pos ⟨hw,rfl⟩]
  ·rw[if_neg e,if_neg fun h=>e h.2.symm,cB]
theorem aj3{F:GK->List Nat × List Nat}{L:List EV}(X:List (List G))(w:ByteArray)(i:Nat) (h:HI (fun k=>((F k).1,cV X w k i)) L) (d:Sm (bo (X.getD i []))) :
  HI (fun k=>((F k).1,cV X w k (i+1))) (bif cP X w i then mo (bo (X.getD i [])) ((F (bo (X.getD i []))).1,cV X w (bo (X.getD i [])) i++[i]) L else L):=by
 cases hw:cP X w i with
 | false =>
  rw[cond_false];exact h.congr fun k=>by rw[sV,if_neg (by rw[hw]; simp),cB]
 | true =>
  rw[cond_true];refine(h.set d _).congr fun k=>?_;rw[sV];by_cases e:k=bo (X.getD i [])
  ·rw[if_pos e,e,if_pos ⟨hw,rfl⟩]
  ·rw[if_neg e,if_neg fun h=>e h.2.symm,cB]
theorem aj4{A B:List (List G)}{ac bc:ByteArray}(X:List (List G))(hX:∀ z∈X,Sm (bo z))(W:X.length<=1000)(S:List (List G))(off:Int){F:GK->List Nat × List Nat}{q:List EV}(N:∀ k,(F k).1=[])(h0:HI F q) :
  iv nR [.s ac,.l A,.s bc,.l B,.l (ch 0 q),.i (q.length:Int),.i off,.i 0,.l S,.i 2,.i 0,.l X,.i (X.length:Int),.i 0]
   fun c g=>c=0/\∃ L,HI (fun k=>(cV X bc k X.length,(F k).2)) L/\L.length<=q.length+X.length/\g=[.s ac,.l A,.s bc,.l B,.l (ch 0 L),.i (L.length:Int),.i off,.l S,.i 2,.i 0]:=by
 have r:=qs (st:=nR) (σ:=List EV) (fun L i=>[.s ac,.l A,.s bc,.l B,.l (ch 0 L),.i (L.length:Int),.i off,.i 0,.l S,.i 2,.i 0,.l X,.i (X.length:Int),.i (i:Int)]) X (fun L=>(0,[.s ac,.l A,.s bc,.l B,.l (ch 0 L),.i (L.length:Int),.i off,.l S,.i 2,.i 0]))
  (fun L i=>HI (fun k=>(cV X bc k i,(F k).2)) L/\L.length<=q.length+i) q (by omega) ⟨h0.congr fun k=>Prod.ext (N k) rfl,aB _⟩
  (fun L i z v hi y hm ht => by
   have d:Sm (bo z):=hX z hm;obtain⟨I,hl⟩:=v;have u:=aj2 X bc i I (by rw[y]; exact d);have hlen:=Vl (L:=L) (bo z) (cV X bc (bo z) i++[i],(F (bo z)).2);rw[y]at u;obtain⟨O,a2,a3,a4,a5⟩:=Vm I d;have a5:=a5 (cV X bc (bo z) i++[i],(F (bo z)).2);have a4:=a4 (cV X bc (bo z) i++[i]) (F (bo z)).2;have V:=Vn X bc (bo z) i;have M:aN (cV X bc (bo z) i)++[[G.i (i:Int)]]=aN (cV X bc (bo z) i++[i]):=by unfold aN; rw[eO]; rfl
   unfold nR;dsimp +instances only[Aa,Ab,Ac,Ad,Ae,Af,Ag];simp only[aK,y];refine aa.p (aa.p (aa.pos rfl ?_));refine aa.test (fun h=>?_) fun h=>?_
   ·have h:cP X bc i=true:=by
     unfold cP;rw[y];exact h
    rw[h,cond_true]at u;refine aa.pos (show dD ((bo z).1.size+1) 9223372036854775807=true by have:=d.size; rw[q9]; omega) ?_;refine aa.call (P:=fun g=>g=[.s (lx (bo z).2)]) (aa.eq (Vj d.lo d.hi)) ?_;rintro _ rfl;refine aa.pos (show dD (((bo z).1++DP).size+(lx (bo z).2).size) 9223372036854775807=true by have:=d.size; rw[q9,al_,Vo,Vi d.lo d.hi]; omega) ?_;dsimp +instances only[Aa,Ab,Ac,Ad,Ae,Af,Ag];have U:([.s (((gi z 2).str++(⟨#[32]⟩:ByteArray))++lx (bo z).2)]:List G)=fL (bo z):=rfl;simp only[U];rw[O,a2,a3];simp only[M,a4,a5];refine aa.pos rfl (aa.pos rfl (aa.pos rfl (aa.pos ?_ (aa.pos rfl (aa.pos rfl (aa.pos ?_ (aa.p (aa.some ⟨_,rfl,u,by omega⟩))))))))
    ·rw [fe, jm, decide_eq_true_eq, fm]
     omega
    ·rw [fe, fe]
     rfl
   ·have h:cP X bc i=false:=by
     unfold cP;rw[y];exact h
    rw[h,cond_false]at u;exact aa.p (aa.some ⟨L,rfl,u,by omega⟩))
  (fun L v => by
   unfold nR;dsimp +instances only[Aa,Ab,Ac,Ad,Ae,Af,Ag];simp only[aK];exact aa.n (aa.some rfl))
 refine r.mono ?_;rintro c g ⟨L,v,rfl,rfl⟩;exact⟨rfl,L,v.1,v.2,rfl⟩
theorem aj5{A B:List (List G)}{ac bc:ByteArray}(X:List (List G))(hX:∀ z∈X,Sm (bo z))(W:X.length<=1000)(S:List (List G))(off:Int){F:GK->List Nat × List Nat}{q:List EV}(N:∀ k,(F k).2=[])(h0:HI F q) :
  iv nR [.s ac,.l A,.s bc,.l B,.l (ch 0 q),.i (q.length:Int),.i off,.i 1,.l S,.i 2,.i 1,.l X,.i (X.length:Int),.i 0]
   fun c g=>c=0/\∃ L,HI (fun k=>((F k).1,cV X ac k X.length)) L/\L.length<=q.length+X.length/\g=[.s ac,.l A,.s bc,.l B,.l (ch 0 L),.i (L.length:Int),.i off,.l S,.i 2,.i 1]:=by
 have r:=qs (st:=nR) (σ:=List EV) (fun L i=>[.s ac,.l A,.s bc,.l B,.l (ch 0 L),.i (L.length:Int),.i off,.i 1,.l S,.i 2,.i 1,.l X,.i (X.length:Int),.i (i:Int)]) X (fun L=>(0,[.s ac,.l A,.s bc,.l B,.l (ch 0 L),.i (L.length:Int),.i off,.l S,.i 2,.i 1]))
  (fun L i=>HI (fun k=>((F k).1,cV X ac k i)) L/\L.length<=q.length+i) q (by omega) ⟨h0.congr fun k=>Prod.ext rfl (N k),aB _⟩
  (fun L i z v hi y hm ht => by
   have d:Sm (bo z):=hX z hm;obtain⟨I,hl⟩:=v;have u:=aj3 X ac i I (by rw[y]; exact d);have hlen:=Vl (L:=L) (bo z) ((F (bo z)).1,cV X ac (bo z) i++[i]);rw[y]at u;obtain⟨O,a2,a3,a4,a5⟩:=Vm I d;have a5:=a5 ((F (bo z)).1,cV X ac (bo z) i++[i]);have a4:=a4 (F (bo z)).1 (cV X ac (bo z) i++[i]);have V:=Vn X ac (bo z) i;have M:aN (cV X ac (bo z) i)++[[G.i (i:Int)]]=aN (cV X ac (bo z) i++[i]):=by unfold aN; rw[eO]; rfl
   unfold nR;dsimp +instances only[Aa,Ab,Ac,Ad,Ae,Af,Ag];simp only[aK,y];refine aa.p (aa.p (aa.pos rfl ?_));refine aa.test (fun h=>?_) fun h=>?_
   ·have h:cP X ac i=true:=by
     unfold cP;rw[y];exact h
    rw[h,cond_true]at u;refine aa.pos (show dD ((bo z).1.size+1) 9223372036854775807=true by have:=d.size; rw[q9]; omega) ?_;refine aa.call (P:=fun g=>g=[.s (lx (bo z).2)]) (aa.eq (Vj d.lo d.hi)) ?_;rintro _ rfl;refine aa.pos (show dD (((bo z).1++DP).size+(lx (bo z).2).size) 9223372036854775807=true by have:=d.size; rw[q9,al_,Vo,Vi d.lo d.hi]; omega) ?_;dsimp +instances only[Aa,Ab,Ac,Ad,Ae,Af,Ag];have U:([.s (((gi z 2).str++(⟨#[32]⟩:ByteArray))++lx (bo z).2)]:List G)=fL (bo z):=rfl;simp only[U];rw[O,a2,a3];simp only[M,a4,a5];refine aa.pos rfl (aa.pos rfl (aa.neg rfl (aa.pos ?_ (aa.pos rfl (aa.neg rfl (aa.pos ?_ (aa.p (aa.some ⟨_,rfl,u,by omega⟩))))))))
    ·rw [fe, jm, decide_eq_true_eq, fm]
     omega
    ·rw [fe, fe]
     rfl
   ·have h:cP X ac i=false:=by
     unfold cP;rw[y];exact h
    rw[h,cond_false]at u;exact aa.p (aa.some ⟨L,rfl,u,by omega⟩))
  (fun L v => by
   unfold nR;dsimp +instances only[Aa,Ab,Ac,Ad,Ae,Af,Ag];simp only[aK];exact aa.n (aa.some rfl))
 refine r.mono ?_;rintro c g ⟨L,v,rfl,rfl⟩;exact⟨rfl,L,v.1,v.2,rfl⟩
def qM(A B:List (List G))(ac bc:ByteArray)(k:GK):List Nat × List Nat:=(bI A bc k,bI B ac k)
theorem aj6{A B:List (List G)}(h:wz A B)(ac bc:ByteArray)(off:Int) :
  iv nS [.s ac,.l A,.s bc,.l B,.l [],.i 0,.i off,.l [[.s ac,.l A],[.s bc,.l B]],.i 2,.i 0]
   fun c g=>c=0/\∃ L,HI (qM A B ac bc) L/\L.length<=1000/\g=[.s ac,.l A,.s bc,.l B,.l (ch 0 L),.i (L.length:Int),.i off]:=by
 have na:=h.la;have nb:=h.lb;have s0:aa (nS [.s ac,.l A,.s bc,.l B,.l [],.i 0,.i off,.l [[.s ac,.l A],[.s bc,.l B]],.i 2,.i 0]) fun o =>
   ∃ L,HI (fun k=>(bI A bc k,[])) L/\L.length<=500/\o=(none,[.s ac,.l A,.s bc,.l B,.l (ch 0 L),.i (L.length:Int),.i off,.l [[.s ac,.l A],[.s bc,.l B]],.i 2,.i 1]):=by
  unfold nS;dsimp +instances only[Aa,Ab,Ac,Ad,Ae,Af,Ag];refine aa.pos rfl (aa.pos rfl ?_);refine aa.loop (aj4 (A:=A) (B:=B) (ac:=ac) (bc:=bc) A h.sa (by omega) [[.s ac,.l A],[.s bc,.l B]] off (F:=fun _=>([],[])) (fun _=>rfl) HI.zero) (by first|rfl|simp) ?_;rintro c g ⟨rfl,L,q,u,rfl⟩;dsimp +instances only[Aa,Ab,Ac,Ad,Ae,Af,Ag];simp only[aK];exact aa.pos rfl (aa.some ⟨L,q,by simp at u; omega,rfl⟩)
 have s1:∀ L,HI (fun k=>(bI A bc k,[])) L->L.length<=500->aa (nS [.s ac,.l A,.s bc,.l B,.l (ch 0 L),.i (L.length:Int),.i off,.l [[.s ac,.l A],[.s bc,.l B]],.i 2,.i 1]) fun o =>
   ∃ L,HI (qM A B ac bc) L/\L.length<=1000/\o=(none,[.s ac,.l A,.s bc,.l B,.l (ch 0 L),.i (L.length:Int),.i off,.l [[.s ac,.l A],[.s bc,.l B]],.i 2,.i 2]):=fun L q u=>by
  unfold nS;dsimp +instances only[Aa,Ab,Ac,Ad,Ae,Af,Ag];simp only[aK];refine aa.pos rfl (aa.pos rfl ?_);refine aa.loop (aj5 (A:=A) (B:=B) (ac:=ac) (bc:=bc) B h.sb (by omega) [[.s ac,.l A],[.s bc,.l B]] off (F:=fun k=>(bI A bc k,[])) (fun _=>rfl) q) (by first|rfl|simp) ?_;rintro c g ⟨rfl,d,v,y,rfl⟩;dsimp +instances only[Aa,Ab,Ac,Ad,Ae,Af,Ag];simp only[aK];exact aa.pos rfl (aa.some ⟨d,v,by omega,rfl⟩)
 obtain⟨o,h0,L,q,u,rfl⟩:=s0;obtain⟨o,h1,d,v,y,rfl⟩:=s1 L q u;have s2:nS [.s ac,.l A,.s bc,.l B,.l (ch 0 d),.i (d.length:Int),.i off,.l [[.s ac,.l A],[.s bc,.l B]],.i 2,.i 2]=some (some 0,[.s ac,.l A,.s bc,.l B,.l (ch 0 d),.i (d.length:Int),.i off]):=by
  refine aa.toEq ?_;unfold nS;dsimp +instances only[Aa,Ab,Ac,Ad,Ae,Af,Ag];simp only[aK];exact aa.neg rfl (aa.some rfl)
 have key:aL nS [.s ac,.l A,.s bc,.l B,.l [],.i 0,.i off,.l [[.s ac,.l A],[.s bc,.l B]],.i 2,.i 0] 3 fun c g=>c=0/\∃ L,HI (qM A B ac bc) L/\L.length<=1000/\g=[.s ac,.l A,.s bc,.l B,.l (ch 0 L),.i (L.length:Int),.i off]:=aL.next h0 (aL.next h1 (aL.stop s2 ⟨rfl,d,v,y,rfl⟩))
 exact key.to (by omega)
def DS(r:List G):List Nat × List Nat:=((gi (gi r 1).row 0).rows.map fun x=>(gi x 0).int.toNat,(gi (gi r 1).row 1).rows.map fun x=>(gi x 0).int.toNat)
theorem Vp:∀(i:Nat) (L:List EV) (r:List G),r∈ch i L->∃(j:Nat) (e:EV),e∈L/\r=nf j e
 |_,[],_,h=>by cases h
 | i,e::L,r,h=>by
  rcases bC.1 h with rfl|h
  ·exact⟨i,e,bZ,rfl⟩
  ·obtain ⟨j, e', h1, d⟩ := Vp (i + 1) L r h
   exact⟨j,e',cq _ h1,d⟩
theorem Vq(j:Nat)(e:EV):DS (nf j e)=e.2:=by
 have key:∀ X:List Nat,(aN X).map (fun x=>(gi x 0).int.toNat)=X:=fun X=>by
  unfold aN;rw[kf]
  conv=>rhs; rw[<-WT X]
  exact ki fun x _=>aK x
 exact Prod.ext (key e.2.1) (key e.2.2)
theorem Vr{β:Type}(f:List Nat × List Nat->β):∀(i:Nat) (L:List EV),(ch i L).map (fun r=>f (DS r))=L.map fun e=>f e.2
 |_,[]=>rfl
 | i,e::L=>by
  simp only[ch,bX,Vr f (i+1) L,Vq]
theorem Vs:∀(i:Nat) (L:List EV),(ch i L).map dF=(dB L.length).map (i+·)
 |_,[]=>rfl
 | i,e::L=>by
  simp only[ch,bX,Vs (i+1) L,bG,WR,kf];rw[show dF (nf i e)=i from by simp[dF,nf,gi,G.int]];congr 1;refine ki fun x _=>?_;simp only[Ak];omega
theorem aj7(L:List EV):mU (ch 0 L) L.length=true:=by
 have hb:(ch 0 L).map dF=dB L.length:=by
  rw[Vs];simp
 unfold mU;rw[hb,ax];refine⟨DD _ WS,?_⟩;rw[da];intro r hr;have:dF r∈(ch 0 L).map dF:=cH.2 ⟨r,hr,rfl⟩;rw[hb,fu]at this;simpa using this
theorem Vt:∀(i:Nat) (L:List EV),ql (ch i L)=true
 |_,[]=>rfl
 | i,e::L=>by
  have:=Vt (i+1) L;unfold ql at this|-;rw[ch,List.all_cons,this];rfl
def wA(A B:List (List G))(off:Int)(p:List Nat × List Nat):List (List G):=(zy A B off p.1 p.2).map (dH p.1 p.2)
theorem Vu{A B:List (List G)}{ac bc:ByteArray}{off:Int}{k:GK}:wA A B off (qM A B ac bc k)=fC A B ac bc off k:=rfl
theorem aj8{A B:List (List G)}(h:wz A B){ac bc:ByteArray}{off:Int}{k:GK}:(fC A B ac bc off k).length<=1000:=by
 unfold fC;rw[bN];exact lD (Us _ _ _ _ _) (h.two.jc ac bc k).nX
theorem Vv{A B:List (List G)}(h:wz A B)(ac bc:ByteArray){off:Int}(h1:off<=3600000)(bl:Nat){L:List EV}(v:HI (qM A B ac bc) L):∀(q out:List (List G)),(∀ r∈q,r∈ch 0 L)->out.length+1000*q.length<=1048576-1 ->
  eC C_ (fun d=>(gi d 6).int.toNat) q [.s ac,.l A,.s bc,.l B,.l out,.i off,.i (bl:Int)] =
   some [.s ac,.l A,.s bc,.l B,.l (out++(q.map fun r=>wA A B off (DS r)).flatten),.i off,.i (bl:Int)]
 | [],out,_,_=>by simp[eC]
 | r::q,out,y,M=>by
  simp only[bG]at M;obtain⟨j,e,he,rfl⟩:=Vp 0 _ r (y r bZ);have u:=v.j_ e he;have J:=h.two.jc ac bc e.1;have R:qJ (bI A bc e.1) (bI B ac e.1):=⟨Dy A bc e.1,Dy B ac e.1⟩
  have hlen:=aj8 h (ac:=ac) (bc:=bc) (off:=off) (k:=e.1);have N:=ajW J R h1 ac bc;have I:(bK A B (bI A bc e.1) (bI B ac e.1) off 0 0).1.map (dH (bI A bc e.1) (bI B ac e.1))=fC A B ac bc off e.1:=by
   rw[Vd J h1];rfl
  have st:C_ (nf j e) [.s ac,.l A,.s bc,.l B,.l out,.i off,.i (bl:Int)]=some [.s ac,.l A,.s bc,.l B,.l (out++fC A B ac bc off e.1),.i off,.i (bl:Int)]:=by
   have O:(gi (gi (nf j e) 1).row 0).rows=aN (bI A bc e.1):=by
    show aN e.2.1=_
    rw[u];rfl
   have U:(gi (gi (nf j e) 1).row 1).rows=aN (bI B ac e.1):=by
    show aN e.2.2=_
    rw[u];rfl
   refine aa.toEq ?_;unfold C_;rw[O,U];dsimp +instances only[Aa,Ab,Ac,Ad,Ae,Af,Ag];refine aa.call (P:=fun g=>g=[.l [hZ (bI A bc e.1) (bI B ac e.1) (bK A B (bI A bc e.1) (bI B ac e.1) off 0 0)]]) (aa.eq N) ?_;rintro _ rfl;dsimp +instances only[Aa,Ab,Ac,Ad,Ae,Af,Ag];have V:(gi (hZ (bI A bc e.1) (bI B ac e.1) (bK A B (bI A bc e.1) (bI B ac e.1) off 0 0)) 0).rows=fC A B ac bc off e.1:=I;simp only[aK,V];exact aa.pos (by
    show ((Nat.beq out.length out.length)&&decide (out.length+(fC A B ac bc off e.1).length<=1048576))=true
    rw[fe,jm,decide_eq_true_eq];omega) (aa.pos (by rw[fe]; rfl) (aa.some rfl))
  rw[DE st rfl,Vv h ac bc h1 bl v q _ (fun x W=>y x (cq _ W)) (by rw[en]; omega)];rw[bX,jl,Vq,u,Vu,fq]
theorem aj9:su vG zA kO:=by
 rintro _ _ ⟨i,k,rfl,h1,q⟩ ⟨d,k',rfl,u,v⟩;have g:∀ n:Int,qu [.i n]=some [.i (if n<0 then -1 else if 0<n then 1 else 0)]:=fun n=>by
  refine aa.toEq ?_;unfold qu;dsimp +instances only[Aa,Ab,Ac,Ad,Ae,Af,Ag];refine aa.test (fun h=>?_) fun h=>?_
  ·rw [cd, decide_eq_true_eq] at h
   rw[if_pos h];exact aa.some rfl
  ·rw [cd, decide_eq_false_iff_not] at h
   rw[if_neg h];refine aa.test (fun h=>?_) fun h=>?_
   ·rw [cd, decide_eq_true_eq] at h
    rw[if_pos h];exact aa.some rfl
   ·rw [cd, decide_eq_false_iff_not] at h
    rw[if_neg h];exact aa.some rfl
 refine⟨if (i:Int)-(d:Int)<0 then -1 else if 0<(i:Int)-(d:Int) then 1 else 0,?_,?_⟩
 ·refine aa.toEq ?_
  unfold vG;dsimp +instances only[Aa,Ab,Ac,Ad,Ae,Af,Ag];refine aa.pos (fg.2 ⟨by omega,by omega⟩) ?_;refine aa.cE (g _) ?_;exact aa.some rfl
 ·show (if (i : Int) - (d : Int) < 0 then (-1 : Int) else if 0 < (i : Int) - (d : Int) then 1 else 0) < 0 ↔ eY (i : Int) (d : Int) < 0
  rw[sS];split
  ·omega
  ·split<;>omega
theorem aj_{A B:List (List G)}(h:fo A B)(ac bc:ByteArray)(off:Int){out:List (List G)}(d:out.Perm (fK A B ac bc off))(g:out.length<100000):zg [.l out]=some [.l (gA A B ac bc off)]:=by
 have h1:=PI (C:=vG) (Q:=zA) aj9 (zB.mono fun _ _=>trivial) out (fun y k=>wh h y (d.mem_iff.1 k)) g fun a ha b hb=>DC h ac bc off a (d.mem_iff.1 ha) b (d.mem_iff.1 hb);unfold zg;rw[h1];have e:dG (cf kO) (fK A B ac bc off)=dG (cf kO) out:=PG zB d.symm (fun _ _=>trivial) (DC h ac bc off);rw[<-e];rfl
theorem aj'{A B:List (List G)}(h:fo A B)(ac bc:ByteArray)(off:Int):(fK A B ac bc off).length<=1000:=by
 have na:=h.na;have u:((fK A B ac bc off).map fun r=>(gi r 0).int.toNat).Nodup:=by
  unfold List.Nodup;rw[List.pairwise_map];refine(DB h ac bc off).imp_of_mem fun {x y} d I v he=>v ?_;obtain⟨i,k,rfl,_⟩:=wh h x d;obtain⟨g,k',rfl,_⟩:=wh h y I;have he:((i:Int)).toNat=((g:Int)).toNat:=he;show (i:Int)=(g:Int)
  omega
 have q:((fK A B ac bc off).map fun r=>(gi r 0).int.toNat) ⊆ dB A.length:=by
  intro x d;obtain⟨r,hr,rfl⟩:=cH.1 d;obtain⟨k,i,j,rfl,h1,_⟩:=DA h hr;rw[fu];exact(lA.1 h1).1
 have:=zC A.length _ u fun x d=>fu.1 (q d);rw[bN]at this;omega
theorem aka{A B:List (List G)}{ac bc:ByteArray}{off:Int}{L:List EV}(g:HI (qM A B ac bc) L):((L.map fun e=>wA A B off e.2).flatten).Perm (fK A B ac bc off):=by
 have q:=GI.to A bc A.length;have u:(L.map fun e=>wA A B off e.2)=(L.map (·.1)).map fun k=>fC A B ac bc off k:=by
  rw[kf];exact ki fun e he=>by
   rw[g.j_ e he];rfl
 have v:(c5 A bc).map (fun e=>fC A B ac bc off e.1)=((c5 A bc).map (·.1)).map fun k=>fC A B ac bc off k:=by
  rw[kf];rfl
 unfold fK;rw[u,v];have drop:∀ l:List GK,(l.map fun k=>fC A B ac bc off k).flatten=((l.filter fun k=>decide (bI A bc k≠[])).map fun k=>fC A B ac bc off k).flatten:=by
  intro l
  induction l with
  |nil=>rfl
  | cons k l y =>
   rw[bX,jl,y,tm];by_cases hk:bI A bc k=[]
   ·rw [if_neg (by simp [hk])]
    have:fC A B ac bc off k=[]:=by
     rw[<-Vu];unfold qM;rw[hk];rfl
    rw[this,iY]
   ·rw[if_pos (by simp[hk]),bX,jl]
 rw[drop,drop ((c5 A bc).map (·.1))];refine((?_:List.Perm _ _).map _).flatten;refine(List.perm_ext_iff_of_nodup (g.nd.filter _) (q.nd.filter _)).2 fun k=>?_;rw[wM,wM];refine⟨fun⟨_,d⟩=>⟨?_,d⟩,fun⟨_,d⟩=>⟨?_,d⟩⟩
 ·have d : bI A bc k ≠ [] := of_decide_eq_true d
  obtain⟨e,he,rfl⟩:=q.all k d;exact cH.2 ⟨e,he,rfl⟩
 ·have d : bI A bc k ≠ [] := of_decide_eq_true d
  obtain⟨e,he,rfl⟩:=g.all k fun e=>d (congrArg Prod.fst e);exact cH.2 ⟨e,he,rfl⟩
theorem akb{A B:List (List G)}(h:wz A B)(ac bc:ByteArray){off:Int}(h1:off<=3600000){L:List EV}(k:HI (qM A B ac bc) L)(y:L.length<=1000) :
  Jg [.s ac,.l A,.s bc,.l B,.l (ch 0 L),.i (L.length:Int),.l [],.i off]=some (some 0,[.l (gA A B ac bc off)]):=by
 show lv C' Da (ch 0 L) ((L.length:Int).toNat) _=_
 rw[aK];refine Cq (aj7 _) fun b p d=>⟨rfl,?_⟩
 have v:p.length<=1000:=by
  have:=d.length_eq;rw[DQ]at this;omega
 have g:((p.map fun r=>wA A B off (DS r)).flatten).Perm (fK A B ac bc off):=by
  refine List.Perm.trans ?_ (aka k);rw[<-Vr (fun x=>wA A B off x) 0 L];exact(d.map _).flatten
 have u:=aj' h.two ac bc off;refine⟨_,Vv h ac bc h1 b k p [] (fun r hr=>d.mem_iff.1 hr) (by simp; omega),?_⟩;rw[iY];refine aa.toEq ?_;unfold Da;dsimp +instances only[Aa,Ab,Ac,Ad,Ae,Af,Ag];have q:=g.length_eq;refine aa.nO (aa.eq (aj_ h.two ac bc off g (by omega))) (by simp) ?_;rintro _ rfl;dsimp +instances only[Aa,Ab,Ac,Ad,Ae,Af,Ag];refine aa.pos ?_ (aa.some rfl);rw[q];unfold gA;rw[Cj,fe];rfl
theorem akc{A B:List (List G)}(h:wz A B)(ac bc:ByteArray){off:Int}(h1:off<=3600000):Db [.l [[.s ac,.l A]],.l [[.s bc,.l B]],.i off]=some [.l (gA A B ac bc off)]:=by
 refine aa.toEq ?_;unfold Db;dsimp +instances only[Aa,Ab,Ac,Ad,Ae,Af,Ag];refine aa.loop (aj6 h ac bc off) (by first|rfl|simp) ?_;rintro _ _ ⟨rfl,L,d,k,rfl⟩;dsimp +instances only[Aa,Ab,Ac,Ad,Ae,Af,Ag];simp only[aK];refine aa.pos (by rw[Vt]; rfl) ?_;refine aa.tail (P:=fun u g=>u=0/\g=[.l (gA A B ac bc off)]) ⟨_,akb h ac bc h1 d k,0,rfl,rfl,rfl⟩ (by first|rfl|simp) ?_;rintro _ _ ⟨rfl,rfl⟩;dsimp +instances only[Aa,Ab,Ac,Ad,Ae,Af,Ag];exact aa.pos (by simp) (aa.some rfl)
def sY(x:Int):Int:=if 0-x>x then 0-x else x
def ph(d b:Int):Prop:=sY d<sY b\/(d=0-b/\d<b)
def kS(e s:Int × Nat):Prop:=s.2<e.2\/(e.2=s.2/\ph e.1 s.1)
open Classical in
def iH(s e:Int × Nat):Int × Nat:=if kS e s then e else s
theorem qN{s e:Int × Nat}(h:kS e s):iH s e=e:=by unfold iH; rw[if_pos h]
theorem qO{s e:Int × Nat}(h:¬ kS e s):iH s e=s:=by unfold iH; rw[if_neg h]
def qP(E:List (Int × Nat)):Int × Nat:=E.foldl iH (0,0)
def sZ(E:List (Int × Nat))(s:Int × Nat):Prop:=(E=[]/\s=(0,0))\/(s∈E/\∀ e∈E,¬ kS e s)
theorem zL(x:Int):(sY x=x\/sY x=0-x)/\x<=sY x/\0-x<=sY x:=by
 unfold sY;split<;>omega
theorem akd{a b c:Int}(h1:ph b c)(d:¬ ph a c):¬ ph a b:=by
 have ha:=zL a;have hb:=zL b;have g:=zL c;unfold ph at *;omega
theorem ake{a b c:Int × Nat}(h1:kS b c)(d:¬ kS a c):¬ kS a b:=by
 unfold kS at *;rintro(g|⟨g,k⟩)
 ·rcases h1 with h1 | ⟨h1, _⟩
  ·exact d (.inl (by omega))
  ·exact d (.inl (by omega))
 ·rcases h1 with h1 | ⟨h1, q⟩
  ·exact d (.inl (by omega))
  ·exact akd q (fun h=>d (.inr ⟨by omega,h⟩)) k
theorem akf(e:Int × Nat):¬ kS e e:=by
 unfold kS ph;rintro(h|⟨_,h|⟨h,d⟩⟩)
 ·omega
 ·omega
 ·omega
theorem akg{E:List (Int × Nat)}{s e:Int × Nat}(h:sZ E s)(he:1<=e.2):sZ (E++[e]) (iH s e):=by
 refine .inr ?_;by_cases g:kS e s
 ·rw [qN g]
  refine⟨by simp,fun x d=>?_⟩;rcases cw.1 d with d|d
  ·rcases h with ⟨rfl, _⟩ | ⟨_, h⟩
   ·cases d
   ·exact ake g (h x d)
  ·rw [iZ.1 d]
   exact akf e
 ·rw [qO g]
  rcases h with⟨rfl,rfl⟩|⟨h1,h⟩
  ·exact(g (.inl (by show (0:Nat)<e.2; omega))).elim
  ·refine ⟨by simp [h1], fun x d => ?_⟩
   rcases cw.1 d with d|d
   ·exact h x d
   ·rw [iZ.1 d]
    exact g
theorem Vw:∀(q p:List (Int × Nat)) (s:Int × Nat),sZ p s->(∀ e∈q,1<=e.2)->sZ (p++q) (q.foldl iH s)
 | [],p,s,h,_=>by simpa using h
 | e::q,p,s,h,d=>by
  have:=Vw q (p++[e]) (iH s e) (akg h (d e bZ)) fun x g=>d x (cq _ g);rw[fq]at this;exact this
theorem Vx{E:List (Int × Nat)}(h:∀ e∈E,1<=e.2):sZ E (qP E):=Vw E [] (0,0) (.inl ⟨rfl,rfl⟩) h
theorem akh{E E':List (Int × Nat)}{s s':Int × Nat}(h:sZ E s)(h':sZ E' s')(hm:∀ e,e∈E↔e∈E'):s=s':=by
 rcases h with⟨rfl,rfl⟩|⟨h1,d⟩
 ·rcases h' with ⟨_, rfl⟩ | ⟨h1, _⟩
  ·rfl
  ·exact absurd ((hm s').2 h1) (by simp)
 ·rcases h' with ⟨rfl, _⟩ | ⟨k, q⟩
  ·exact absurd ((hm s).1 h1) (by simp)
  ·have a := d s' ((hm s').2 k)
   have b:=q s ((hm s).1 h1);obtain⟨x,n⟩:=s;obtain⟨y,m⟩:=s';unfold kS at a b;simp only at a b;have e:n=m:=by
    rcases Eg n m with g|g|g
    ·exact(a (.inl g)).elim
    ·exact g
    ·exact(b (.inl g)).elim
   subst e;have a:¬ ph y x:=fun h=>a (.inr ⟨rfl,h⟩);have b:¬ ph x y:=fun h=>b (.inr ⟨rfl,h⟩);have:x=y:=by
    have u:=zL x;have v:=zL y;unfold ph at a b;omega
   rw[this]
def s7(D:List Int)(E:List (Int × Nat)):Prop:=∀ e,e∈E↔e.1∈D/\e.2=D.count e.1
theorem s7.pos{D:List Int}{E:List (Int × Nat)}(h:s7 D E):∀ e∈E,1<=e.2:=fun e he=>by
 obtain⟨h1,d⟩:=(h e).1 he;rw[d];exact WU.2 h1
theorem aki{D d:List Int}{E E':List (Int × Nat)}(h:s7 D E)(h':s7 d E')(g:D.Perm d):qP E=qP E' :=
 akh (Vx h.pos) (Vx h'.pos) fun e=>by
  rw[h e,h' e,g.mem_iff,g.count_eq]
def lB:List Int->List (Int × Nat)
 | []=>[]
 |x::t=>(x,1+(t.takeWhile fun y=>y==x).length)::lB (t.dropWhile fun y=>y==x)
termination_by l=>l.length
decreasing_by
 have:=(WV (fun y=>y==x) (l:=t)).length_le;simp only[bG];omega
theorem Vy:lB []=[]:=by rw[lB]
theorem Vz(x:Int)(t:List Int):lB (x::t)=(x,1+(t.takeWhile fun y=>y==x).length)::lB (t.dropWhile fun y=>y==x):=by rw[lB]
theorem KO(x:Int):∀ t:List Int,(t.takeWhile fun y=>y==x)=bQ (t.takeWhile fun y=>y==x).length x
 | []=>rfl
 | y::t=>by
  rw[List.takeWhile_cons];by_cases h:y=x
  ·subst h
   rw[if_pos (by simp),bG,List.replicate_succ,<-KO y t]
  ·rw [if_neg (by simpa using h)]
   rfl
theorem VA:∀(k:Nat) (S:List Int),S.length<=k->S.Pairwise (·<=·)->s7 S (lB S)
 | _,[],_,_=>by
  rw[Vy];intro e;simp
 |0,x::t,h,_=>by simp at h
 | k+1,x::t,hl,v=>by
  have q:=WV (fun y=>y==x) (l:=t);have hle:=q.length_le;rw[ot]at v;have u:(t.dropWhile fun y=>y==x).Pairwise (·<=·):=v.2.sublist q;have ih:=VA k (t.dropWhile fun y=>y==x) (by simp at hl; omega) u;have M:∀ y∈t.dropWhile (fun y=>y==x),x<y:=by
   intro y d;cases g:t.dropWhile fun y=>y==x with
   |nil=>rw[g]at d; cases d
   | cons z r =>
    have hz:(z==x)=false:=by
     have:=ama (fun y=>y==x) (l:=t) (by rw[g]; simp);simp only[g,List.head_cons]at this;simpa using this
    have hzx:z≠x:=by simpa using hz
    have V:z∈t:=q.subset (by rw[g]; simp);have h1:=v.1 z V;rw[g]at d u;rcases bC.1 d with rfl|d
    ·omega
    ·have := (ot.1 u).1 y d
     omega
  have I:t=bQ (t.takeWhile fun y=>y==x).length x++t.dropWhile fun y=>y==x:=by
   rw[<-KO];exact(Lt).symm
  have N:(x::t).count x=1+(t.takeWhile fun y=>y==x).length:=by
   rw[List.count_cons_self]
   conv=>lhs; rw[I]
   rw[WW,List.count_replicate_self,amb.2 fun h=>by have:=M x h; omega];omega
  have O:∀ y,y≠x->(x::t).count y=(t.dropWhile fun y=>y==x).count y:=fun y d=>by
   rw[List.count_cons_of_ne (Ne.symm d)]
   conv=>lhs; rw[I]
   rw[WW,List.count_replicate,if_neg (by simpa using Ne.symm d),cn]
  have W:∀ y,y≠x->(y∈x::t↔y∈t.dropWhile fun y=>y==x):=fun y d=>by
   rw[<-WU,<-WU,O y d]
  rw[Vz];intro e;rw[bC,ih e];by_cases he:e.1=x
  ·constructor
   ·rintro (rfl | ⟨h1, _⟩)
    ·exact⟨bZ,N.symm⟩
    ·have := M _ h1
     omega
   ·rintro ⟨_, U⟩
    rw[he,N]at U;exact .inl (Prod.ext he U)
  ·rw [W e.1 he, O e.1 he]
   constructor
   ·rintro (rfl | h)
    ·exact(he rfl).elim
    ·exact h
   ·exact .inr
def nG(v:Int):List G:=[G.i v]
theorem VB{S:List Int}{i:Nat}(h:i<S.length):(S.map nG).getD i []=[.i (S.getD i 0)]:=by
 rw[bP,bB,bx h,bP,bx h];rfl
theorem VC(x:Int)(t:List Int)(b m:Int)(O:t.length<=200000):∀(r k:Nat),k+r=(t.takeWhile fun y=>y==x).length ->
  aL yZ [.l ((x::t).map nG),.i b,.i m,.i ((k+1:Nat):Int)] (r+1) fun c g=>c=0/\g=[.l ((x::t).map nG),.i b,.i m,.i ((1+(t.takeWhile fun y=>y==x).length:Nat):Int)]
 | 0,k,h=>by
  refine aL.stop (x:=0) (aa.toEq ?_) ⟨rfl,rfl⟩;have e:1+(t.takeWhile fun y=>y==x).length=k+1:=by omega
  rw[e];unfold yZ;dsimp +instances only[Aa,Ab,Ac,Ad,Ae,Af,Ag];simp only[bN,bG,aK];refine aa.test (fun I=>?_) fun _=>aa.some rfl;rw[cd,decide_eq_true_eq]at I;have hk:k<t.length:=by omega
  have M:t.getD k 0≠x:=by
   intro he;have u:t.drop k=t.dropWhile fun y=>y==x:=by
    have h1:=Lt (p:=fun y=>y==x) (l:=t)
    conv=>lhs; rw[<-h1]
    have N:k-(t.takeWhile fun y=>y==x).length=0:=by omega
    rw[Wu,D8 (by omega),iY,N,WG]
   have d:t.dropWhile (fun y=>y==x)≠[]:=by
    rw[<-u];intro h0;have:=congrArg Ec h0;simp at this;omega
   have:=ama (fun y=>y==x) (l:=t) d;have U:(t.dropWhile fun y=>y==x).head d=t.getD k 0:=by
    have v:=congrArg List.head? u;rw[List.head?_drop,List.head?_eq_some_head d]at v;rw[bP,v];rfl
   rw[U,he]at this;simp at this
  have g1:((x::t).map nG).getD (k+1) []=[.i (t.getD k 0)]:=by rw[VB (by simp; omega),Lj]
  have g0:((x::t).map nG).getD 0 []=[.i x]:=rfl;simp only[g1,g0];dsimp +instances only[Aa,Ab,Ac,Ad,Ae,Af,Ag];refine aa.p (aa.p (aa.neg (by simpa using M) (aa.some rfl)))
 | r+1,k,h=>by
  have V:=VC x t b m O r (k+1) (by omega);refine aL.next (aa.toEq ?_) V
  have W:=(amc (fun y=>y==x) (l:=t)).length_le;have hk:k<t.length:=by omega
  have he:t.getD k 0=x:=by
   have q:k<(t.takeWhile fun y=>y==x).length:=by omega
   have h1:=Lt (p:=fun y=>y==x) (l:=t);rw[<-h1,bP,List.getElem?_append_left q,KO];rw[List.getElem?_replicate,if_pos q];rfl
  unfold yZ;dsimp +instances only[Aa,Ab,Ac,Ad,Ae,Af,Ag];have g1:((x::t).map nG).getD (k+1) []=[.i (t.getD k 0)]:=by rw[VB (by simp; omega),Lj]
  have g0:((x::t).map nG).getD 0 []=[.i x]:=rfl;simp only[bN,bG,aK,g1,g0];dsimp +instances only[Aa,Ab,Ac,Ad,Ae,Af,Ag];rw[he];exact aa.p (aa.p (aa.p (aa.pos (by simp) (aa.p (aa.some rfl)))))
theorem VD:∀(k:Nat) (S:List Int) (s:Int × Nat),S.length<=k->S.length<=200000->(∀ v∈S,-3000000000000<=v/\v<=3000000000000)->(-3000000000000<=s.1/\s.1<=3000000000000)->S.Pairwise (·<=·)->(s.2=0\/∀ v∈S,s.1<=v) ->
  aL y8 [.l (S.map nG),.i s.1,.i (s.2:Int)] (k+1) fun c g=>c=0/\g=[.i ((lB S).foldl iH s).1,.i (((lB S).foldl iH s).2:Int)]
 | k,[],s,_,_,_,_,_,_=>by
  rw[Vy];refine aL.stop (x:=0) (aa.toEq ?_) ⟨rfl,rfl⟩;unfold y8;dsimp +instances only[Aa,Ab,Ac,Ad,Ae,Af,Ag];exact aa.neg rfl (aa.some rfl)
 |0,x::t,s,V,_,_,_,_,_=>by simp at V
 | k+1,x::t,s,V,hn,hv,hb,W,hm=>by
  rw[ot]at W;have htl:=(amc (fun y=>y==x) (l:=t)).length_le;have M:=WV (fun y=>y==x) (l:=t);have hdl:=M.length_le;simp only[bG]at V hn;have hx:=hv x bZ;obtain⟨n,U⟩:∃ n,n=1+(t.takeWhile fun y=>y==x).length:=⟨_,rfl⟩
  have hS:iH s (x,n)=s\/iH s (x,n)=(x,n):=by
   by_cases h:kS (x,n) s
   ·exact .inr (qN h)
   ·exact .inl (qO h)
  have ih:=VD k (t.dropWhile fun y=>y==x) (iH s (x,n)) (by omega) (by omega) (fun v N=>hv v (cq _ (M.subset N))) (by rcases hS with h|h<;>rw[h]<;>first|exact hb|exact hx) (W.2.sublist M) (by
   rcases hS with h|h
   ·rw [h]
    exact hm.imp id fun g v N=>g v (cq _ (M.subset N))
   ·rw [h]
    exact .inr fun v N=>W.1 v (M.subset N))
  have hdrop:((x::t).map nG).drop n=(t.dropWhile fun y=>y==x).map nG:=by
   rw[<-List.map_drop,U,Nat.add_comm,List.drop_succ_cons];have h1:=Lt (p:=fun y=>y==x) (l:=t)
   conv=>lhs; rw[<-h1]
   rw[Wu,D8 (by simp),iY];have hk0:(t.takeWhile fun y=>y==x).length-(t.takeWhile fun y=>y==x).length=0:=by omega
   congr 1;have:∀ q:List Int,q=t.takeWhile (fun y=>y==x)->(t.dropWhile fun y=>y==x).drop ((t.takeWhile fun y=>y==x).length-q.length)=t.dropWhile fun y=>y==x:=fun q hq=>by rw[hq,hk0,WG]
   first|exact this _ rfl|(rw[h1]at *; simp)
  rw[Vz,<-U,Wi];refine aL.next (aa.toEq ?_) ih
  unfold y8;dsimp +instances only[Aa,Ab,Ac,Ad,Ae,Af,Ag];refine aa.pos (by simp[cd]) ?_;refine aa.loop ((VC x t s.1 (s.2:Int) (by omega) (t.takeWhile fun y=>y==x).length 0 (by omega)).to (by omega)) rfl ?_;rintro c g ⟨rfl,rfl⟩;rw[<-U];have g0:((x::t).map nG).getD 0 []=[.i x]:=rfl;dsimp +instances only[Aa,Ab,Ac,Ad,Ae,Af,Ag];simp only[aK,g0,hdrop];dsimp +instances only[Aa,Ab,Ac,Ad,Ae,Af,Ag];refine aa.pos (by simp[cd]) ?_;have hle:az (n:Int)=true/\aZ (n:Int) ((((x::t).map nG).length:Nat):Int)=true:=by
   rw[iP,eT,bN,bG];exact⟨decide_eq_true (by omega),decide_eq_true (by omega)⟩
  have O:(az (n:Int)&&aZ (n:Int) ((((x::t).map nG).length:Nat):Int))=true:=by rw[hle.1,hle.2]; rfl
  refine aa.test (fun h=>?_) fun h=>?_
  ·rw [cd, decide_eq_true_eq] at h
   rw[qN (s:=s) (e:=(x,n)) (.inl (by show s.2<n; omega))];exact aa.pos O (aa.some rfl)
  ·rw [cd, decide_eq_false_iff_not] at h
   refine aa.test (fun I=>?_) fun I=>?_
   ·have I : (n : Int) = (s.2 : Int) := by simpa using I
    refine aa.pos (fg.2 ⟨by omega,by omega⟩) (aa.pos (fg.2 ⟨by omega,by omega⟩) ?_);have hxs:s.1<=x:=by
     rcases hm with d|d
     ·omega
     ·exact d x bZ
    refine aa.test (fun d=>?_) fun d=>?_
    ·rw [cd, decide_eq_true_eq] at d
     rw[qN (s:=s) (e:=(x,n)) (.inr ⟨by show n=s.2; omega,.inl d⟩)];exact aa.pos O (aa.some rfl)
    ·rw [cd, decide_eq_false_iff_not] at d
     rw[qO (s:=s) (e:=(x,n)) (by
      rintro(u|⟨_,u|⟨_,u⟩⟩)
      ·exact h (by have u:s.2<n:=u; omega)
      ·exact d u
      ·have u : x < s.1 := u
       omega)]
     exact aa.pos O (aa.some rfl)
   ·have I : (n : Int) ≠ (s.2 : Int) := by simpa using I
    rw[qO (s:=s) (e:=(x,n)) (by
     rintro(d|⟨d,_⟩)
     ·exact h (by have d:s.2<n:=d; omega)
     ·exact I (by have d:n=s.2:=d; omega))]
    exact aa.pos O (aa.some rfl)
def jH(vs:List Int):List Int:=vs.mergeSort fun x y=>decide (x<=y)
theorem zM(vs:List Int):(jH vs).Perm vs:=List.mergeSort_perm _ _
theorem KP(vs:List Int):(jH vs).length=vs.length:=(zM vs).length_eq
theorem DT(vs:List Int):(jH vs).Pairwise (·<=·):=by
 have h:=List.pairwise_mergeSort (le:=fun x y:Int=>decide (x<=y)) (fun a b c h1 d=>by simp only[decide_eq_true_eq]at *; omega) (fun a b=>by simp only[Bool.or_eq_true,decide_eq_true_eq]; omega) vs;exact h.imp fun h=>of_decide_eq_true h
theorem akj(vs:List Int)(d:vs.length<1000000):yW [.l (vs.map nG)]=some [.l ((jH vs).map nG)]:=by
 unfold yW Cg;show (bif cC (vs.map nG).length 1000000 then some [G.l (qp (vs.map nG))] else none)=_
 rw[show cC (vs.map nG).length 1000000=true by rw[gG,bN]; exact d];have e:(vs.map nG).map (fun r=>(gi r 0).int)=vs:=by
  rw[kf];have:((fun r=>(gi r 0).int) ∘ nG)=id:=by funext v; rfl
  rw[this,WT]
 unfold qp;rw[e];rfl
def dC(A B:List (List G))(i j:Nat):Int:=gY (A.getD i [])-gY (B.getD j [])
def ka(A B:List (List G))(ac:ByteArray)(off:Int)(i j:Nat):Bool:=cP B ac j&&(decide (bo (B.getD j [])=bo (A.getD i []))&&aZ (dQ (A.getD i []) (B.getD j [])) off)
def iW(A B:List (List G))(ac bc:ByteArray)(off:Int)(i n:Nat):List Int:=bif cP A bc i then ((dB n).filter (ka A B ac off i)).map (dC A B i) else []
def e_(A B:List (List G))(ac bc:ByteArray)(off:Int)(n:Nat):List Int:=((dB n).map fun i=>iW A B ac bc off i B.length).flatten
def fD(A B:List (List G))(off:Int)(i:Nat)(Y:List Nat):List Int:=(Y.filter fun j=>aZ (dQ (A.getD i []) (B.getD j [])) off).map (dC A B i)
theorem KQ(A B:List (List G))(off:Int)(i:Nat)(Y:List Nat):(fD A B off i Y).length<=Y.length:=by
 unfold fD;rw[bN];exact Lq _ _
theorem akk{A B:List (List G)}{ac bc:ByteArray}{off:Int}{i:Nat}(h:cP A bc i=true):fD A B off i (bI B ac (bo (A.getD i [])))=iW A B ac bc off i B.length:=by
 unfold iW fD bI cV;rw[h,cond_true,List.filter_filter];congr 1;refine List.filter_congr fun j _=>?_;unfold ka;cases cP B ac j<;>cases decide (bo (B.getD j [])=bo (A.getD i []))<;>cases aZ (dQ (A.getD i []) (B.getD j [])) off<;>rfl
theorem VE(A B:List (List G))(ac bc:ByteArray)(off:Int)(i n:Nat):(iW A B ac bc off i n).length<=n:=by
 unfold iW;cases cP A bc i with
 |false=>simp
 | true =>
  rw[cond_true,bN];have:=Lq (ka A B ac off i) (dB n)
  rwa [mr]at this
theorem KR{A B:List (List G)}(h:fo A B){i j:Nat}(hi:i<A.length)(d:j<B.length) : -3000000000000<=dC A B i j/\dC A B i j<=3000000000000:=by
 obtain⟨_,h1,g⟩:=h.ha _ (lz (z:=[]) hi);obtain⟨_,k,q⟩:=h.hb _ (lz (z:=[]) d);unfold dC;omega
theorem VF{A B:List (List G)}(h:fo A B){ac bc:ByteArray}{off:Int}:∀ v∈e_ A B ac bc off A.length,-3000000000000<=v/\v<=3000000000000:=fun v d=>by
 unfold e_ at d;obtain⟨l,g,d⟩:=List.mem_flatten.1 d;obtain⟨i,hi,rfl⟩:=cH.1 g;rw[fu]at hi;unfold iW at d;cases hw:cP A bc i with
 |false=>rw[hw]at d; cases d
 | true =>
  rw[hw,cond_true]at d;obtain⟨j,k,rfl⟩:=cH.1 d;exact KR h hi (fu.1 (wM.1 k).1)
theorem DU(A B:List (List G))(ac bc:ByteArray)(off:Int):∀ n,(e_ A B ac bc off n).length<=n*B.length
 |0=>dX _
 | n+1=>by
  have d:=DU A B ac bc off n;have h:=VE A B ac bc off n B.length;unfold e_ at d|-;rw[wN,eO,nl,en,zZ];simp only[bX,k8,jl,D6,cB];omega
theorem akl{D d:List Int}(h:D.Perm d):jH D=jH d :=
 ((zM D).trans (h.trans (zM d).symm)).eq_of_pairwise (fun a b _ _ h1 g=>Int.le_antisymm h1 g) (DT _) (DT _)
theorem VG{β:Type}(f:GK->Nat->List β)(k:GK)(v:Nat):∀ L:List (GK × List Nat),((j9 k v L).map fun e=>(e.2.map (f e.1)).flatten).flatten.Perm ((L.map fun e=>(e.2.map (f e.1)).flatten).flatten++f k v)
 | []=>by simp[j9]
 | e::L=>by
  have d:=VG f k v L;rw[j9];split
  ·rename_i h
   subst h;simp only[bX,jl,eO,k8,nl,D6,cB,fq];exact(List.perm_append_comm).append_left _
  ·simp only [bX, jl, fq]
   exact d.append_left _
theorem VH{A B:List (List G)}{ac bc:ByteArray}{off:Int}:∀ n,(((mg A bc n).map fun e=>(e.2.map fun i=>fD A B off i (bI B ac e.1)).flatten).flatten).Perm (e_ A B ac bc off n)
 |0=>ra _
 | n+1=>by
  have d:=VH (A:=A) (B:=B) (ac:=ac) (bc:=bc) (off:=off) n;have e:e_ A B ac bc off (n+1)=e_ A B ac bc off n++iW A B ac bc off n B.length:=by
   unfold e_;rw[wN,eO,nl];simp
  rw[Kl,e];unfold nZ;cases hw:cP A bc n with
  | false =>
   have:iW A B ac bc off n B.length=[]:=by unfold iW; rw[hw]; rfl
   rw[cond_false,this,cB];exact d
  | true =>
   rw[cond_true];refine(VG (fun k i=>fD A B off i (bI B ac k)) (bo (A.getD n [])) n (mg A bc n)).trans ?_;rw[akk hw];exact d.append_right _
section
variable {A B:List (List G)} (h:fo A B) {off:Int} (h0:0<=off) (h1:off<=3600000)
include h h0 h1
theorem akm(ac bc:ByteArray)(v out:List (List G))(clk bl:Nat)(k:GK)(X:List Nat)(y:Int){i:Nat}(hi:i<A.length)(Y:List Nat)(hY:∀ j∈Y,j<B.length)(hn:out.length+Y.length<=1000000)(hyn:Y.length<=100000) :
  iv vw [.s ac,.l A,.s bc,.l B,.l v,.i (clk:Int),.l out,.s k.1,.i k.2,.i off,.i (i:Int),.i (bl:Int),.l (aN X),.i (X.length:Int),.i y,.l (aN Y),.i (Y.length:Int),.i 0]
   fun c g=>c=0/\g=[.s ac,.l A,.s bc,.l B,.l v,.i (clk:Int),.l (out++(fD A B off i Y).map nG),.s k.1,.i k.2,.i off,.i (bl:Int),.l (aN X),.i (X.length:Int),.i y]:=by
 have hc:=h.ha _ (lz (z:=[]) hi);have r:=qs (st:=vw) (σ:=Unit) (fun _ t=>[.s ac,.l A,.s bc,.l B,.l v,.i (clk:Int),.l (out++(fD A B off i (Y.take t)).map nG),.s k.1,.i k.2,.i off,.i (i:Int),.i (bl:Int),.l (aN X),.i (X.length:Int),.i y,.l (aN Y),.i (Y.length:Int),.i (t:Int)]) (aN Y) (fun _=>(0,[.s ac,.l A,.s bc,.l B,.l v,.i (clk:Int),.l (out++(fD A B off i Y).map nG),.s k.1,.i k.2,.i off,.i (bl:Int),.l (aN X),.i (X.length:Int),.i y]))
  (fun _ _=>True) () (by rw[fm]; omega) trivial
  (fun _ t z _ d N hm _ => by
   rw[fm]at d;rw[mf d]at N;subst N;have M:Y.getD t 0<B.length:=hY _ (lz d);obtain⟨j,I⟩:∃ j,j=Y.getD t 0:=⟨_,rfl⟩
   have O:Y.take (t+1)=Y.take t++[j]:=by
    rw[Ln,bx d,I,bP,bx d];rfl
   rw[<-I]at M;have hq:=h.hb _ (lz (z:=[]) M);obtain⟨_,b1,b2⟩:=hc;obtain⟨_,b3,b4⟩:=hq;have V:=KQ A B off i (Y.take t);rw[List.length_take]at V;have U:aa (m_ [.i (dC A B i j),.i (0-off),.i off]) fun g=>g=[.t (!aZ (dQ (A.getD i []) (B.getD j [])) off)]:=by
    unfold m_;dsimp +instances only[Aa,Ab,Ac,Ad,Ae,Af,Ag];have W:aZ (dQ (A.getD i []) (B.getD j [])) off=(aZ (0-off) (dC A B i j)&&aZ (dC A B i j) off):=by
     rw[lJ];simp only[eT,ax,decide_eq_true_eq];unfold dQ dC;split<;>omega
    rw[W];refine aa.test (fun h=>?_) fun h=>?_
    ·rw [cd, decide_eq_true_eq] at h
     refine aa.some ?_;rw[show aZ (0-off) (dC A B i j)=false by rw[eT,decide_eq_false_iff_not]; omega];rfl
    ·rw [cd, decide_eq_false_iff_not] at h
     refine aa.some ?_;rw[show aZ (0-off) (dC A B i j)=true by rw[eT,decide_eq_true_eq]; omega,jm];congr 2;rw[cd,eT,lJ];simp
   unfold vw;dsimp +instances only[Aa,Ab,Ac,Ad,Ae,Af,Ag];simp only[aK,mf d,fm];dsimp +instances only[Aa,Ab,Ac,Ad,Ae,Af,Ag];simp only[<-I,aK];have ed:(gi (A.getD i []) 0).int-(gi (B.getD j []) 0).int=dC A B i j:=rfl;simp only[ed];have hd : -3000000000000<=dC A B i j/\dC A B i j<=3000000000000:=KR h hi M;refine aa.p (aa.p (aa.p (aa.p (aa.pos (fg.2 ⟨by omega,by omega⟩) (aa.pos (fg.2 ⟨by omega,by omega⟩) ?_)))));refine aa.call U ?_;rintro _ rfl;dsimp +instances only[Aa,Ab,Ac,Ad,Ae,Af,Ag];have u:fD A B off i (Y.take (t+1))=fD A B off i (Y.take t)++(bif aZ (dQ (A.getD i []) (B.getD j [])) off then [dC A B i j] else []):=by
    unfold fD;rw[O,WO,eO];congr 1;cases q:aZ (dQ (A.getD i []) (B.getD j [])) off with
    |false=>rw[tm,if_neg (by rw[q]; simp)]; rfl
    |true=>rw[tm,if_pos q]; rfl
   cases q:aZ (dQ (A.getD i []) (B.getD j [])) off with
   | true =>
    rw[q,cond_true]at u;refine aa.pos rfl ?_;refine aa.pos (by rw[fe,jm,decide_eq_true_eq,en,bN]; omega) (aa.p (aa.pos (by rw[fe]; rfl) ?_));refine aa.some ⟨(),?_,trivial⟩;rw[u,eO,fq];rfl
   | false =>
    rw[q,cond_false,cB]at u;refine aa.neg rfl ?_;refine aa.p (aa.pos (by rw[fe]; rfl) ?_);refine aa.some ⟨(),?_,trivial⟩;rw[u];rfl)
  (fun _ _ => by
   unfold vw;dsimp +instances only[Aa,Ab,Ac,Ad,Ae,Af,Ag];simp only[aK,fm,amd];exact aa.n (aa.pos (by rw[fe]; rfl) (aa.some rfl)))
 simp only[WH]at r;rw[show fD A B off i []=[] from rfl,k8,cB]at r;refine r.mono ?_;rintro c g ⟨_,_,rfl,rfl⟩;exact⟨rfl,rfl⟩
theorem akn(ac bc:ByteArray)(out:List (List G))(clk bl:Nat)(k:GK)(X:List Nat)(hX:∀ i∈X,i<A.length)(hb:B.length<=1000)(N:X.length<=1000)(V:out.length+X.length*B.length<=1000000) :
  iv vz [.s ac,.l A,.s bc,.l B,.l (a_ 0 (c5 B ac)),.i (clk:Int),.l out,.s k.1,.i k.2,.i off,.i (bl:Int),.l (aN X),.i (X.length:Int),.i 0]
   fun c g=>c=0/\g=[.s ac,.l A,.s bc,.l B,.l (a_ 0 (c5 B ac)),.i (clk:Int),.l (out++((X.map fun i=>fD A B off i (bI B ac k)).flatten).map nG),.i off,.i (bl:Int)]:=by
 have hY:∀ j∈bI B ac k,j<B.length:=fun j I=>(lA.1 I).1;have O:=zz B ac k;have y:∀ t,t<=X.length->((((X.take t).map fun i=>fD A B off i (bI B ac k)).flatten).map nG).length<=t*B.length:=fun t=>by
  induction t with
  |zero=>intro _; simp
  | succ t u =>
   intro d;have u:=u (by omega);have W:=KQ A B off (X.getD t 0) (bI B ac k);have q:X.take (t+1)=X.take t++[X.getD t 0]:=by
    rw[Ln,bx (show t<X.length by omega),bP,bx (show t<X.length by omega)];rfl
   rw[q,eO,nl,eO,en,zZ];simp only[bX,k8,jl,D6,cB,bN];simp only[bN]at u;omega
 have r:=qs (st:=vz) (σ:=Unit) (fun _ t=>[.s ac,.l A,.s bc,.l B,.l (a_ 0 (c5 B ac)),.i (clk:Int),.l (out++(((X.take t).map fun i=>fD A B off i (bI B ac k)).flatten).map nG),.s k.1,.i k.2,.i off,.i (bl:Int),.l (aN X),.i (X.length:Int),.i (t:Int)]) (aN X) (fun _=>(0,[.s ac,.l A,.s bc,.l B,.l (a_ 0 (c5 B ac)),.i (clk:Int),.l (out++((X.map fun i=>fD A B off i (bI B ac k)).flatten).map nG),.i off,.i (bl:Int)]))
  (fun _ _=>True) () (by rw[fm]; omega) trivial
  (fun _ t z _ d v hm _ => by
   rw[fm]at d;rw[mf d]at v;subst v;have hi:X.getD t 0<A.length:=hX _ (lz d);have q:X.take (t+1)=X.take t++[X.getD t 0]:=by
    rw[Ln,bx d,bP,bx d];rfl
   have U:=y t (by omega);have hmul:t*B.length+B.length<=X.length*B.length:=by
    rw[<-zZ];exact Nat.mul_le_mul_right _ d
   unfold vz;dsimp +instances only[Aa,Ab,Ac,Ad,Ae,Af,Ag];have M:([.s k.1,.i k.2]:List G)=dA k:=rfl;simp only[aK,mf d,fm,M,Ur];dsimp +instances only[Aa,Ab,Ac,Ad,Ae,Af,Ag];refine aa.p (aa.p ?_);rw[show cV B ac k B.length=bI B ac k from rfl];simp only[fm];refine aa.loop (akm h h0 h1 ac bc (a_ 0 (c5 B ac)) (out++(((X.take t).map fun i=>fD A B off i (bI B ac k)).flatten).map nG) clk bl k X (t:Int) hi (bI B ac k) hY (by rw[en]; omega) (by omega)) (by first|rfl|simp) ?_;rintro c g ⟨rfl,rfl⟩;dsimp +instances only[Aa,Ab,Ac,Ad,Ae,Af,Ag];simp only[aK];refine aa.p (aa.pos (by rw[fe]; rfl) (aa.some ⟨(),?_,trivial⟩));rw[q];simp only[eO,nl,bX,k8,jl,D6,cB,fq];rfl)
  (fun _ _ => by
   unfold vz;dsimp +instances only[Aa,Ab,Ac,Ad,Ae,Af,Ag];simp only[aK,fm,amd];exact aa.n (aa.pos (by rw[fe]; rfl) (aa.some rfl)))
 simp only[WH]at r;rw[show (List.map (fun i=>fD A B off i (bI B ac k)) []).flatten=([]:List Int) from rfl,k8,cB]at r;refine r.mono ?_;rintro c g ⟨_,_,rfl,rfl⟩;exact⟨rfl,rfl⟩
end
def DV(r:List G):List Nat:=(gi (gi r 1).row 0).rows.map fun x=>(gi x 0).int.toNat
theorem VJ(j:Nat)(e:GK × List Nat):DV (iE j e)=e.2:=by
 show (aN e.2).map (fun x=>(gi x 0).int.toNat)=e.2
 unfold aN;rw[kf]
 conv=>rhs; rw[<-WT e.2]
 exact ki fun x _=>aK x
theorem VK{β:Type}(f:GK->List Nat->β):∀(i:Nat) (L:List (GK × List Nat)),(a_ i L).map (fun r=>f (sW r) (DV r))=L.map fun e=>f e.1 e.2
 |_,[]=>rfl
 | i,e::L=>by
  simp only[a_,bX,VK f (i+1) L,VJ];rfl
def wB(A B:List (List G))(ac:ByteArray)(off:Int)(k:GK)(X:List Nat):List Int:=(X.map fun i=>fD A B off i (bI B ac k)).flatten
theorem VL(A B:List (List G))(ac:ByteArray)(off:Int)(k:GK):∀ X:List Nat,(wB A B ac off k X).length<=X.length*B.length
 | []=>dX _
 | x::X=>by
  have d:=VL A B ac off k X;have h1:=KQ A B off x (bI B ac k);have g:=zz B ac k;unfold wB at d|-;rw[bX,jl,en,bG,zZ];omega
section
variable {A B:List (List G)} (h:fo A B) {off:Int} (h0:0<=off) (h1:off<=3600000) (la:A.length<=100) (lb:B.length<=100)
include h h0 h1 la lb
theorem VM(ac bc:ByteArray)(clk bl:Nat):∀(q out:List (List G)),(∀ r∈q,r∈a_ 0 (c5 A bc))->out.length+10000*q.length<=1000000 ->
  eC CV (fun d=>(gi d 8).int.toNat) q [.s ac,.l A,.s bc,.l B,.l (a_ 0 (c5 B ac)),.i (clk:Int),.l out,.i off,.i (bl:Int)] =
   some [.s ac,.l A,.s bc,.l B,.l (a_ 0 (c5 B ac)),.i (clk:Int),.l (out++((q.map fun r=>wB A B ac off (sW r) (DV r)).flatten).map nG),.i off,.i (bl:Int)]
 | [],out,_,_=>by simp[eC]
 | r::q,out,k,u=>by
  simp only[bG]at u;obtain⟨j,e,he,rfl⟩:=Ko 0 _ r (k r bZ);have v:=(GI.to A bc A.length).j_ e he;have hX:e.2=bI A bc e.1:=v.1;have O:=zz A bc e.1;have U:=VL A B ac off e.1 e.2;have hmul:e.2.length*B.length<=100*100:=zU (by rw[hX]; omega) lb;have st:CV (iE j e) [.s ac,.l A,.s bc,.l B,.l (a_ 0 (c5 B ac)),.i (clk:Int),.l out,.i off,.i (bl:Int)]=some [.s ac,.l A,.s bc,.l B,.l (a_ 0 (c5 B ac)),.i (clk:Int),.l (out++(wB A B ac off e.1 e.2).map nG),.i off,.i (bl:Int)]:=by
   have y:(gi (gi (iE j e) 1).row 0).rows=aN e.2:=rfl;have I:(gi (gi (iE j e) 0).row 0).str=e.1.1:=rfl;have M:(gi (gi (iE j e) 0).row 1).int=e.1.2:=rfl;refine aa.toEq ?_;unfold CV;rw[y,I,M];dsimp +instances only[Aa,Ab,Ac,Ad,Ae,Af,Ag];simp only[aK,fm];refine aa.loop (akn h h0 h1 ac bc out clk bl e.1 e.2 (fun i hi=>by rw[hX]at hi; exact(lA.1 hi).1) (by omega) (by rw[hX]; omega) (by omega)) (by first|rfl|simp) ?_;rintro c g ⟨rfl,rfl⟩;dsimp +instances only[Aa,Ab,Ac,Ad,Ae,Af,Ag];simp only[aK];exact aa.pos (by rw[fe]; rfl) (aa.some rfl)
  rw[DE st rfl,VM ac bc clk bl q _ (fun x N=>k x (cq _ N)) (by rw[en,bN]; omega)];rw[bX,jl,eO,VJ,fq];rfl
theorem ako(ac bc:ByteArray) :
  IC [.s ac,.l A,.s bc,.l B,.l (a_ 0 (c5 A bc)),.i ((c5 A bc).length:Int),.l (a_ 0 (c5 B ac)),.i ((c5 B ac).length:Int),.l [],.i off]=some (some 0,[.l ((jH (e_ A B ac bc off A.length)).map nG)]):=by
 have q:=GI.to A bc A.length;have u:=q.len;show lv CW CX (a_ 0 (c5 A bc)) (((c5 A bc).length:Int).toNat) _=_
 rw[aK];refine Cq (Uv _) fun b p d=>⟨rfl,?_⟩
 have y:p.length<=100:=by
  have:=d.length_eq;rw[we]at this;have:(c5 A bc).length<=A.length:=u;omega
 have g:((p.map fun r=>wB A B ac off (sW r) (DV r)).flatten).Perm (e_ A B ac bc off A.length):=by
  refine List.Perm.trans ?_ (VH A.length);have:=VK (fun k X=>wB A B ac off k X) 0 (c5 A bc);exact((d.map _).flatten).trans (by rw[this]; exact ra _)
 have v:(e_ A B ac bc off A.length).length<=10000:=lD (DU A B ac bc off A.length) (zU la lb);refine⟨_,VM h h0 h1 la lb ac bc (c5 B ac).length b p [] (fun r hr=>d.mem_iff.1 hr) (by simp; omega),?_⟩;rw[iY];refine aa.toEq ?_;unfold CX;dsimp +instances only[Aa,Ab,Ac,Ad,Ae,Af,Ag];have I:=g.length_eq;refine aa.nO (aa.eq (akj _ (by omega))) (by simp) ?_;rintro _ rfl;dsimp +instances only[Aa,Ab,Ac,Ad,Ae,Af,Ag];refine aa.pos (by rw[bN,bN,KP,fe]; rfl) ?_;rw[akl g];exact aa.some rfl
theorem akp(ac bc:ByteArray):CY [.l [[.s ac,.l A]],.l [[.s bc,.l B]],.i off]=some [.l ((jH (e_ A B ac bc off A.length)).map nG)]:=by
 refine aa.toEq ?_;unfold CY;dsimp +instances only[Aa,Ab,Ac,Ad,Ae,Af,Ag];refine aa.cE (Dx A (by omega) bc) ?_;dsimp +instances only[Aa,Ab,Ac,Ad,Ae,Af,Ag];refine aa.cE (Dx B (by omega) ac) ?_;dsimp +instances only[Aa,Ab,Ac,Ad,Ae,Af,Ag];simp only[aK];refine aa.tail (P:=fun u g=>u=0/\g=[.l ((jH (e_ A B ac bc off A.length)).map nG)]) ⟨_,ako h h0 h1 la lb ac bc,0,rfl,rfl,rfl⟩ (by first|rfl|simp) ?_;rintro _ _ ⟨rfl,rfl⟩;dsimp +instances only[Aa,Ab,Ac,Ad,Ae,Af,Ag];exact aa.pos (by simp) (aa.some rfl)
def oc(A B:List (List G))(ac bc:ByteArray)(off:Int):Int × Nat:=qP (lB (jH (e_ A B ac bc off A.length)))
theorem akq(ac bc:ByteArray)(d:vm [.l [[.s ac,.l A]],.l [[.s bc,.l B]],.i off]=some [.i 0]) :
  vD [.l [[.s ac,.l A]],.l [[.s bc,.l B]],.i off]=some [.i (oc A B ac bc off).1,.i ((oc A B ac bc off).2:Int),.i 0]:=by
 have q:(e_ A B ac bc off A.length).length<=10000:=lD (DU A B ac bc off A.length) (zU la lb);refine aa.toEq ?_;unfold vD;dsimp +instances only[Aa,Ab,Ac,Ad,Ae,Af,Ag];refine aa.call (P:=fun g=>g=[.i 0]) (aa.eq d) ?_;rintro _ rfl;refine aa.neg rfl ?_;refine aa.call (P:=fun g=>g=[.l ((jH (e_ A B ac bc off A.length)).map nG)]) (aa.eq (akp h h0 h1 la lb ac bc)) ?_;rintro _ rfl;dsimp +instances only[Aa,Ab,Ac,Ad,Ae,Af,Ag];have hk:=VD (jH (e_ A B ac bc off A.length)).length (jH (e_ A B ac bc off A.length)) (0,0) (aB _) (by rw[KP]; omega) (fun v k=>VF h v ((zM _).mem_iff.1 k)) ⟨by decide,by decide⟩ (DT _) (.inl rfl);refine aa.loop (hk.to (by rw[KP]; omega)) rfl ?_;rintro c g ⟨rfl,rfl⟩;exact aa.some rfl
end
theorem KS(a b:Int):a8 [.int .i64] [.i a] [.i b]=decide (a=b):=by
 show ((a==b)&&true)=decide (a=b)
 rw[Bool.and_true];rfl
def ng(i:Nat)(e:Int × Nat):List G:=[.l [[.i e.1]],.l [[.i (e.2:Int)]],.i (i:Int)]
def fc:Nat->List (Int × Nat)->List (List G)
 |_,[]=>[]
 |i,e::E=>ng i e::fc (i+1) E
def gh(d:Int):List (Int × Nat)->Nat
 | []=>0
 |e::E=>if d=e.1 then e.2 else gh d E
def h_(d:Int)(n:Nat):List (Int × Nat)->List (Int × Nat)
 | []=>[(d,n)]
 |e::E=>if d=e.1 then (d,n)::E else e::h_ d n E
theorem VN(d:Int):∀(i:Nat) (E:List (Int × Nat)),cS [.int .i64] (fc i E) [.i d] [.i 0]=[.i (gh d E:Int)]
 |_,[]=>rfl
 | i,e::E=>by
  rw[fc,yu,show (gi (ng i e) 0).row=[.i e.1] from rfl,KS,gh];by_cases h:d=e.1
  ·rw [if_pos h, decide_eq_true h, cond_true]
   rfl
  ·rw [if_neg h, decide_eq_false h, cond_false]
   exact VN d (i+1) E
theorem VO(d:Int)(n:Nat):∀(i:Nat) (E:List (Int × Nat)) (c:Nat),c=i+E.length->fx [.int .i64] (fc i E) [.i d] [.i (n:Int)] c=fc i (h_ d n E)
 | i,[],c,h=>by
  rw[h];rfl
 | i,e::E,c,h=>by
  rw[bG]at h;rw[fc,GZ,show (gi (ng i e) 0).row=[.i e.1] from rfl,KS,h_];by_cases he:d=e.1
  ·rw [if_pos he, decide_eq_true he, cond_true]
   rfl
  ·rw [if_neg he, decide_eq_false he, cond_false, VO d n (i + 1) E c (by omega)]
   rfl
theorem VP(d:Int):∀(i:Nat) (E:List (Int × Nat)),dK [.int .i64] (fc i E) [.i d]=E.any fun e=>decide (d=e.1)
 |_,[]=>rfl
 | i,e::E=>by
  rw[fc,yv,show (gi (ng i e) 0).row=[.i e.1] from rfl,KS,VP d (i+1) E];rfl
theorem VQ(d:Int)(n:Nat):∀ E:List (Int × Nat),(h_ d n E).length=bif (E.any fun e=>decide (d=e.1)) then E.length else E.length+1
 | []=>rfl
 | e::E=>by
  rw[h_,As];by_cases h:d=e.1
  ·rw [if_pos h, decide_eq_true h]
   rfl
  ·rw [if_neg h, decide_eq_false h, Bool.false_or, bG, VQ d n E]
   cases E.any fun e=>decide (d=e.1)<;>rfl
theorem akr(d:Int)(n:Nat)(E:List (Int × Nat)):dE [.int .i64] (fc 0 E) [.i d] E.length=(h_ d n E).length:=by
 unfold dE;rw[VP,VQ]
theorem VR(d:Int)(n:Nat):∀(E:List (Int × Nat)),(h_ d n E).map (·.1)=if d∈E.map (·.1) then E.map (·.1) else E.map (·.1)++[d]
 | []=>rfl
 | e::E=>by
  rw[h_];by_cases h:d=e.1
  ·rw[if_pos h,if_pos (by rw[h]; simp),bX,bX,h]
  ·rw [if_neg h, bX, VR d n E]
   by_cases k:d∈E.map (·.1)
   ·have g : d ∈ (e :: E).map (·.1) := cq _ k
    rw[if_pos k,if_pos g];rfl
   ·have g:d∉(e::E).map (·.1):=fun g=>by
     rcases bC.1 g with g|g
     ·exact h g
     ·exact k g
    rw[if_neg k,if_neg g];rfl
theorem VS(d:Int)(n:Nat){x:Int × Nat}:∀(E:List (Int × Nat)),(E.map (·.1)).Nodup->(x∈h_ d n E↔(x.1=d/\x.2=n)\/(x.1≠d/\x∈E))
 | [],_=>by
  rw[h_,iZ];constructor
  ·rintro rfl
   exact .inl ⟨rfl,rfl⟩
  ·rintro (⟨h1, g⟩ | ⟨_, h⟩)
   ·exact Prod.ext h1 g
   ·cases h
 | e::E,q=>by
  rw[bX,nq]at q;rw[h_];by_cases h:d=e.1
  ·rw [if_pos h, bC, bC]
   have u:x∈E->x.1≠d:=fun k he=>q.1 (by rw[<-h,<-he]; exact cH.2 ⟨x,k,rfl⟩);constructor
   ·rintro (rfl | k)
    ·exact .inl ⟨rfl,rfl⟩
    ·exact .inr ⟨u k,.inr k⟩
   ·rintro (⟨h1, g⟩ | ⟨h1, rfl | k⟩)
    ·exact .inl (Prod.ext h1 g)
    ·exact(h1 h.symm).elim
    ·exact .inr k
  ·rw [if_neg h, bC, bC, VS d n E q.2]
   constructor
   ·rintro (rfl | h1 | ⟨h1, g⟩)
    ·exact .inr ⟨Ne.symm h,.inl rfl⟩
    ·exact .inl h1
    ·exact .inr ⟨h1,.inr g⟩
   ·rintro (h1 | ⟨h1, rfl | g⟩)
    ·exact .inr (.inl h1)
    ·exact .inl rfl
    ·exact .inr (.inr ⟨h1,g⟩)
structure CI (D:List Int) (E:List (Int × Nat)):Prop where
 nd:(E.map (·.1)).Nodup
 zN:s7 D E
theorem CI.zero:CI [] []:=⟨by simp,fun e=>by simp⟩
theorem VT{D:List Int}(d:Int):∀{E:List (Int × Nat)},(∀ e∈E,e.1∈D/\e.2=D.count e.1)->(d∈D->∃ e∈E,e.1=d)->gh d E=D.count d
 | [],_,h=>by
  rw[gh];by_cases g:d∈D
  ·obtain ⟨e, he, _⟩ := h g
   cases he
  ·exact(amb.2 g).symm
 | e::E,h1,q=>by
  rw[gh];by_cases g:d=e.1
  ·rw [if_pos g, g]
   exact(h1 e bZ).2
  ·rw [if_neg g]
   refine VT d (fun x k=>h1 x (cq _ k)) fun hm=>?_;obtain⟨x,k,rfl⟩:=q hm;rcases bC.1 k with rfl|k
   ·exact(g rfl).elim
   ·exact⟨x,k,rfl⟩
theorem CI.get{D:List Int}{E:List (Int × Nat)}(h:CI D E)(d:Int):gh d E=D.count d :=
 VT d (fun e he=>(h.zN e).1 he) fun g=>⟨(d,D.count d),(h.zN _).2 ⟨g,rfl⟩,rfl⟩
theorem CI.add{D:List Int}{E:List (Int × Nat)}(h:CI D E)(d:Int):CI (D++[d]) (h_ d (gh d E+1) E):=by
 refine⟨?_,fun e=>?_⟩
 ·rw [VR]
  split
  ·exact h.nd
  ·rename_i g
   rw[Eh];refine⟨h.nd,by simp,fun a ha b hb=>?_⟩;rw[iZ]at hb;subst hb;intro e;subst e;exact g ha
 ·rw [VS _ _ _ h.nd, h.get, h.zN e]
  rw[cw,iZ,WW,List.count_singleton];by_cases he:e.1=d
  ·subst he
   simp
  ·rw [if_neg (by simpa using Ne.symm he)]
   simp[he]
def qQ(r:List G):Int × Nat:=((gi (gi r 0).row 0).int,(gi (gi r 1).row 0).int.toNat)
theorem VU(j:Nat)(e:Int × Nat):qQ (ng j e)=e:=Prod.ext rfl (aK _)
theorem VV:∀(i:Nat) (E:List (Int × Nat)) (r:List G),r∈fc i E->∃(j:Nat) (e:Int × Nat),e∈E/\r=ng j e
 |_,[],_,h=>by cases h
 | i,e::E,r,h=>by
  rcases bC.1 h with rfl|h
  ·exact⟨i,e,bZ,rfl⟩
  ·obtain ⟨j, e', h1, d⟩ := VV (i + 1) E r h
   exact⟨j,e',cq _ h1,d⟩
theorem VW:∀(i:Nat) (E:List (Int × Nat)),(fc i E).map qQ=E
 |_,[]=>rfl
 |i,e::E=>by simp only[fc,bX,VW (i+1) E,VU]
theorem VX:∀(i:Nat) (E:List (Int × Nat)),(fc i E).map dF=(dB E.length).map (i+·)
 |_,[]=>rfl
 | i,e::E=>by
  simp only[fc,bX,VX (i+1) E,bG,WR,kf];rw[show dF (ng i e)=i from by simp[dF,ng,gi,G.int]];congr 1;refine ki fun x _=>?_;simp only[Ak];omega
theorem aks(E:List (Int × Nat)):mU (fc 0 E) E.length=true:=by
 have hb:(fc 0 E).map dF=dB E.length:=by
  rw[VX];simp
 unfold mU;rw[hb,ax];refine⟨DD _ WS,?_⟩;rw[da];intro r hr;have:dF r∈(fc 0 E).map dF:=cH.2 ⟨r,hr,rfl⟩;rw[hb,fu]at this;simpa using this
def qR(x:Int):Prop := -3000000000000<=x/\x<=3000000000000
theorem akt{e s:Int × Nat}(he:qR e.1)(v:qR s.1)(j bl:Nat):Dd (ng j e) [.i s.1,.i (s.2:Int),.i (bl:Int)]=some [.i (iH s e).1,.i ((iH s e).2:Int),.i (bl:Int)]:=by
 obtain⟨M,a2⟩:=he;obtain⟨a3,a4⟩:=v;have y:(gi (gi (ng j e) 0).row 0).int=e.1:=rfl;have I:(gi (gi (ng j e) 1).row 0).int=(e.2:Int):=rfl;refine aa.toEq ?_;unfold Dd;dsimp +instances only[Aa,Ab,Ac,Ad,Ae,Af,Ag];simp only[aK,y,I];refine aa.test (fun h=>?_) fun h=>?_
 ·rw [cd, decide_eq_true_eq] at h
  rw[qN (s:=s) (e:=e) (.inl (by omega))];exact aa.some rfl
 ·rw [cd, decide_eq_false_iff_not] at h
  refine aa.test (fun k=>?_) fun k=>?_
  ·have k : (e.2 : Int) = (s.2 : Int) := by simpa using k
   refine aa.pos (fg.2 ⟨by omega,by omega⟩) (aa.pos (fg.2 ⟨by omega,by omega⟩) ?_);refine aa.test (fun q=>?_) fun q=>?_
   ·rw [cd, decide_eq_true_eq] at q
    rw[qN (s:=s) (e:=e) (.inr ⟨by omega,.inl q⟩)];exact aa.some rfl
   ·rw [cd, decide_eq_false_iff_not] at q
    refine aa.pos (fg.2 ⟨by omega,by omega⟩) ?_;refine aa.test (fun g=>?_) fun g=>?_
    ·have g : e.1 = 0 - s.1 := by simpa using g
     refine aa.test (fun u=>?_) fun u=>?_
     ·rw [cd, decide_eq_true_eq] at u
      rw[qN (s:=s) (e:=e) (.inr ⟨by omega,.inr ⟨g,u⟩⟩)];exact aa.some rfl
     ·rw [cd, decide_eq_false_iff_not] at u
      rw[qO (s:=s) (e:=e) (by
       rintro(d|⟨_,d|⟨_,d⟩⟩)
       ·exact h (by omega)
       ·exact q d
       ·exact u d)]
      exact aa.some rfl
    ·have g : e.1 ≠ 0 - s.1 := by simpa using g
     rw[qO (s:=s) (e:=e) (by
      rintro(d|⟨_,d|⟨d,_⟩⟩)
      ·exact h (by omega)
      ·exact q d
      ·exact g d)]
     exact aa.some rfl
  ·have k : (e.2 : Int) ≠ (s.2 : Int) := by simpa using k
   rw[qO (s:=s) (e:=e) (by
    rintro(d|⟨d,_⟩)
    ·exact h (by omega)
    ·exact k (by omega))]
   exact aa.some rfl
theorem VY{E:List (Int × Nat)}(g:∀ e∈E,qR e.1)(bl:Nat):∀(q:List (List G)) (s:Int × Nat),(∀ r∈q,r∈fc 0 E)->qR s.1 ->
  eC Dd (fun d=>(gi d 2).int.toNat) q [.i s.1,.i (s.2:Int),.i (bl:Int)]=some [.i ((q.map qQ).foldl iH s).1,.i (((q.map qQ).foldl iH s).2:Int),.i (bl:Int)]
 | [],s,_,_=>by simp[eC]
 | r::q,s,k,u=>by
  obtain⟨j,e,he,rfl⟩:=VV 0 _ r (k r bZ);have v:qR (iH s e).1:=by
   by_cases h:kS e s
   ·rw [qN h]
    exact g e he
   ·rw [qO h]
    exact u
  rw[DE (akt (g e he) u j bl) rfl,VY g bl q (iH s e) (fun x y=>k x (cq _ y)) v,bX,Wi,VU]
theorem aku{D:List Int}{E:List (Int × Nat)}(h:CI D E)(hD:∀ d∈D,qR d):Jm [.l (fc 0 E),.i (E.length:Int),.i 0,.i 0]=some (some 0,[.i (qP (lB (jH D))).1,.i ((qP (lB (jH D))).2:Int)]):=by
 show lv De Jl (fc 0 E) ((E.length:Int).toNat) _=_
 rw[aK];refine Cq (aks _) fun b p g=>⟨rfl,?_⟩
 refine⟨_,VY (fun e he=>hD _ ((h.zN e).1 he).1) b p (0,0) (fun r hr=>g.mem_iff.1 hr) ⟨by decide,by decide⟩,?_⟩;have u:(p.map qQ).Perm E:=by
  have:=g.map qQ
  rwa [VW]at this
 have q:s7 D (p.map qQ):=fun e=>by rw[u.mem_iff]; exact h.zN e
 have k:qP (p.map qQ)=qP (lB (jH D)):=aki q (VA _ _ (aB _) (DT D)) (zM D).symm;rw[<-k];rfl
theorem akv{ac bc:ByteArray}{A B:List (List G)}{D:List Int}{E:List (Int × Nat)}(h:CI D E)(hD:D.length<=1000000)(d:Bool){p0 q0:Int}(I:qR (p0-q0))(p1 g k M N O off n i m t:Int)(q u v y U V W q7:ByteArray)(X Y:List (List G)) :
  zk [.s ac,.l A,.s bc,.l B,.l (fc 0 E),.i (E.length:Int),.i p0,.i p1,.s q,.s u,.i g,.i k,.s v,.s y,.i q0,.i M,.s U,.s V,.i N,.i O,.s W,.s q7,.i off,.i 0,.i 0,.l X,.i n,.i i,.l Y,.i m,.i t,.t d] =
   some (some 0,[.s ac,.l A,.s bc,.l B,.l (fc 0 (bif d then h_ (p0-q0) (gh (p0-q0) E+1) E else E)),.i ((bif d then h_ (p0-q0) (gh (p0-q0) E+1) E else E).length:Int),.i p0,.i p1,.s q,.s u,.i g,.i k,.s v,.s y,.i off,.i 0,.i 0,.l X,.i n,.i i,.l Y,.i m,.i t]):=by
 have hc:gh (p0-q0) E<=1000000:=by
  rw[h.get];exact lD List.count_le_length hD
 obtain⟨h1,h2⟩:=I;refine aa.toEq ?_;unfold zk;dsimp +instances only[Aa,Ab,Ac,Ad,Ae,Af,Ag];cases d with
 | false =>
  simp only[aK];exact aa.neg rfl (aa.some rfl)
 | true =>
  have e1:([.i ((gi [G.i (gh (p0-q0) E:Int)] 0).int+1)]:List G)=[.i ((gh (p0-q0) E+1:Nat):Int)]:=rfl;simp only[aK,VN,e1,VO (p0-q0) (gh (p0-q0) E+1) 0 E E.length (by omega),akr (p0-q0) (gh (p0-q0) E+1) E];exact aa.pos rfl (aa.pos (fg.2 ⟨by omega,by omega⟩) (aa.pos (fg.2 ⟨by show -9223372036854775808<=(gh (p0-q0) E:Int)+1; omega,by show (gh (p0-q0) E:Int)+1<=9223372036854775807; omega⟩) (aa.some rfl)))
theorem akw{A B:List (List G)}{ac bc:ByteArray}{off:Int}{i n:Nat}:iW A B ac bc off i (n+1)=iW A B ac bc off i n++(bif cP A bc i&&ka A B ac off i n then [dC A B i n] else []):=by
 unfold iW;cases cP A bc i with
 |false=>rfl
 | true =>
  rw[cond_true,cond_true,jm,wN,WO,eO,tm];cases h:ka A B ac off i n with
  |false=>rfl
  |true=>rfl
section
variable {A B:List (List G)} (h:fo A B) {off:Int} (la:A.length<=100) (lb:B.length<=100)
include h la lb
def ke(ac bc:ByteArray)(A B:List (List G))(off:Int)(i:Nat)(E:List (Int × Nat))(t:Nat):List G :=
 [.s ac,.l A,.s bc,.l B,.l (fc 0 E),.i (E.length:Int),.i (gi (A.getD i []) 0).int,.i (gi (A.getD i []) 1).int,.s (gi (A.getD i []) 2).str,.s (gi (A.getD i []) 3).str,.i (gi (A.getD i []) 4).int,.i (gi (A.getD i []) 5).int,.s (gi (A.getD i []) 6).str,.s (gi (A.getD i []) 7).str,.i off,.i 0,.i 0,.l A,.i (A.length:Int),.i (i:Int),.l B,.i (B.length:Int),.i (t:Int)]
theorem akx(ac bc:ByteArray){i:Nat}(hi:i<A.length){E0:List (Int × Nat)}(h0:CI (e_ A B ac bc off i) E0) :
  iv vI (ke ac bc A B off i E0 0)
   fun c g=>c=0/\∃ E,CI (e_ A B ac bc off (i+1)) E/\g=[.s ac,.l A,.s bc,.l B,.l (fc 0 E),.i (E.length:Int),.i off,.i 0,.i 0,.l A,.i (A.length:Int),.i (i:Int)]:=by
 have hc:=h.ha _ (lz (z:=[]) hi);have e1:e_ A B ac bc off (i+1)=e_ A B ac bc off i++iW A B ac bc off i B.length:=by
  unfold e_;rw[wN,eO,nl];simp
 have hlen:=DU A B ac bc off i;have hmul:i*B.length<=100*100:=zU (by omega) lb;have r:=qs (st:=vI) (σ:=List (Int × Nat)) (ke ac bc A B off i) B (fun E=>(0,[.s ac,.l A,.s bc,.l B,.l (fc 0 E),.i (E.length:Int),.i off,.i 0,.i 0,.l A,.i (A.length:Int),.i (i:Int)]))
  (fun E t => CI (e_ A B ac bc off i ++ iW A B ac bc off i t) E) E0 (by omega) (by
   have e2:iW A B ac bc off i 0=[]:=by unfold iW; cases cP A bc i<;>rfl
   rw[e2,cB];exact h0)
  (fun E t q N ht O hm _ => by
   have hcq:=h.hb q hm;have hrl:=VE A B ac bc off i t;have hD:(e_ A B ac bc off i++iW A B ac bc off i t).length<=1000000:=by rw[en]; omega
   have hdd:qR (dC A B i t):=KR h hi ht;have hdq:(gi (A.getD i []) 0).int-(gi q 0).int=dC A B i t:=by unfold dC; rw[O]; rfl
   have I:ka A B ac off i t=(cP B ac t&&(decide (bo q=bo (A.getD i []))&&aZ (dQ (A.getD i []) q) off)):=by unfold ka; rw[O]
   have y:decide (bo q=bo (A.getD i []))=(((gi (A.getD i []) 2).str.toList==(gi q 2).str.toList)&&((gi (A.getD i []) 1).int==(gi q 1).int)):=by
    rw[lJ,decide_eq_true_eq,ax,beq_iff_eq,beq_iff_eq];constructor
    ·intro he
     have h1:aV q=aV (A.getD i []):=congrArg Prod.fst he;have V:j8 q=j8 (A.getD i []):=congrArg Prod.snd he;exact⟨by show (aV (A.getD i [])).toList=(aV q).toList; rw[h1],V.symm⟩
    ·rintro ⟨h1, V⟩
     exact Prod.ext (AY h1).symm V.symm
   have M:cP B ac t=((gi q 3).str.toList==ac.toList):=by unfold cP; rw[O]; rfl
   have v:cP A bc i=((gi (A.getD i []) 3).str.toList==bc.toList):=rfl;rw[akw,<-fq];have fin:∀ k:Bool,k=(cP A bc i&&ka A B ac off i t)->CI (e_ A B ac bc off i++iW A B ac bc off i t++(bif cP A bc i&&ka A B ac off i t then [dC A B i t] else [])) (bif k then h_ (dC A B i t) (gh (dC A B i t) E+1) E else E):=fun k hfl=>by
    rw[hfl];cases cP A bc i&&ka A B ac off i t with
    | false =>
     rw[cond_false,cond_false,cB];exact N
    |true=>exact N.add _
   have tl:∀ k:Bool,_:=fun k=>akv (ac:=ac) (bc:=bc) (A:=A) (B:=B) N hD k (p0:=(gi (A.getD i []) 0).int) (q0:=(gi q 0).int) (by rw[hdq]; exact hdd) (gi (A.getD i []) 1).int (gi (A.getD i []) 4).int (gi (A.getD i []) 5).int (gi q 1).int (gi q 4).int (gi q 5).int off (A.length:Int) (i:Int) (B.length:Int) (t:Int) (gi (A.getD i []) 2).str (gi (A.getD i []) 3).str (gi (A.getD i []) 6).str (gi (A.getD i []) 7).str (gi q 2).str (gi q 3).str (gi q 6).str (gi q 7).str A B;simp only[hdq]at tl;unfold vI ke;dsimp +instances only[Aa,Ab,Ac,Ad,Ae,Af,Ag];simp only[aK,O];refine aa.p (aa.p ?_);refine aa.test (fun c1=>?_) fun c1=>?_
   ·refine aa.test (fun c2 => ?_) fun c2 => ?_
    ·refine aa.test (fun U => ?_) fun U => ?_
     ·refine aa.test (fun W => ?_) fun W => ?_
      ·refine aa.call (aa.eq (KG hc hcq)) ?_
       rintro _ rfl;have d:(aZ (dQ (A.getD i []) q) off)=(cP A bc i&&ka A B ac off i t):=by
        rw[v,I,M,y,c1,c2,U,W]; rfl
       refine aa.tail (P:=fun u g=>u=0/\g=ke ac bc A B off i (bif (aZ (dQ (A.getD i []) q) off) then h_ (dC A B i t) (gh (dC A B i t) E+1) E else E) t) ⟨_,tl (aZ (dQ (A.getD i []) q) off),0,rfl,rfl,rfl⟩ rfl ?_;rintro _ _ ⟨rfl,rfl⟩;unfold ke;dsimp +instances only[Aa,Ab,Ac,Ad,Ae,Af,Ag];simp only[aK];exact aa.p (aa.some ⟨_,rfl,fin (aZ (dQ (A.getD i []) q) off) d⟩)
      ·have d:false=(cP A bc i&&ka A B ac off i t):=by
        rw[v,I,M,y,c1,c2,U,W]; rfl
       refine aa.tail (P:=fun u g=>u=0/\g=ke ac bc A B off i (bif false then h_ (dC A B i t) (gh (dC A B i t) E+1) E else E) t) ⟨_,tl false,0,rfl,rfl,rfl⟩ rfl ?_;rintro _ _ ⟨rfl,rfl⟩;unfold ke;dsimp +instances only[Aa,Ab,Ac,Ad,Ae,Af,Ag];simp only[aK];exact aa.p (aa.some ⟨_,rfl,fin false d⟩)
     ·have d:false=(cP A bc i&&ka A B ac off i t):=by
       rw[v,I,M,y,c1,c2,U]; rfl
      refine aa.tail (P:=fun u g=>u=0/\g=ke ac bc A B off i (bif false then h_ (dC A B i t) (gh (dC A B i t) E+1) E else E) t) ⟨_,tl false,0,rfl,rfl,rfl⟩ rfl ?_;rintro _ _ ⟨rfl,rfl⟩;unfold ke;dsimp +instances only[Aa,Ab,Ac,Ad,Ae,Af,Ag];simp only[aK];exact aa.p (aa.some ⟨_,rfl,fin false d⟩)
    ·have d:false=(cP A bc i&&ka A B ac off i t):=by
      rw[v,I,M,y,c1,c2]; rfl
     refine aa.tail (P:=fun u g=>u=0/\g=ke ac bc A B off i (bif false then h_ (dC A B i t) (gh (dC A B i t) E+1) E else E) t) ⟨_,tl false,0,rfl,rfl,rfl⟩ rfl ?_;rintro _ _ ⟨rfl,rfl⟩;unfold ke;dsimp +instances only[Aa,Ab,Ac,Ad,Ae,Af,Ag];simp only[aK];exact aa.p (aa.some ⟨_,rfl,fin false d⟩)
   ·have d:false=(cP A bc i&&ka A B ac off i t):=by
     rw[v,c1]; rfl
    refine aa.tail (P:=fun u g=>u=0/\g=ke ac bc A B off i (bif false then h_ (dC A B i t) (gh (dC A B i t) E+1) E else E) t) ⟨_,tl false,0,rfl,rfl,rfl⟩ rfl ?_;rintro _ _ ⟨rfl,rfl⟩;unfold ke;dsimp +instances only[Aa,Ab,Ac,Ad,Ae,Af,Ag];simp only[aK];exact aa.p (aa.some ⟨_,rfl,fin false d⟩))
  (fun E N => by
   unfold vI ke;dsimp +instances only[Aa,Ab,Ac,Ad,Ae,Af,Ag];simp only[aK];exact aa.n (aa.some rfl))
 refine r.mono ?_;rintro c g ⟨E,hE,rfl,rfl⟩;exact⟨rfl,E,by rw[e1]; exact hE,rfl⟩
theorem aky(ac bc:ByteArray) :
  iv vJ [.s ac,.l A,.s bc,.l B,.l [],.i 0,.i off,.i 0,.i 0,.l A,.i (A.length:Int),.i 0]
   fun c g=>c=0/\∃ E,CI (e_ A B ac bc off A.length) E/\g=[.l (fc 0 E),.i (E.length:Int),.i 0,.i 0]:=by
 have r:=qs (st:=vJ) (σ:=List (Int × Nat)) (fun E i=>[.s ac,.l A,.s bc,.l B,.l (fc 0 E),.i (E.length:Int),.i off,.i 0,.i 0,.l A,.i (A.length:Int),.i (i:Int)]) A (fun E=>(0,[.l (fc 0 E),.i (E.length:Int),.i 0,.i 0]))
  (fun E i=>CI (e_ A B ac bc off i) E) [] (by omega) CI.zero
  (fun E i p k hi q hm _ => by
   have d:=akx h (off:=off) la lb ac bc hi k;unfold ke at d;rw[q]at d;unfold vJ;dsimp +instances only[Aa,Ab,Ac,Ad,Ae,Af,Ag];simp only[aK,q];refine aa.p (aa.p ?_);refine aa.loop d rfl ?_;rintro c g ⟨rfl,E',u,rfl⟩;dsimp +instances only[Aa,Ab,Ac,Ad,Ae,Af,Ag];simp only[aK];exact aa.p (aa.some ⟨E',rfl,u⟩))
  (fun E k => by
   unfold vJ;dsimp +instances only[Aa,Ab,Ac,Ad,Ae,Af,Ag];simp only[aK];exact aa.n (aa.some rfl))
 refine r.mono ?_;rintro c g ⟨E,v,rfl,rfl⟩;exact⟨rfl,E,v,rfl⟩
theorem akz(ac bc:ByteArray):Df [.l [[.s ac,.l A]],.l [[.s bc,.l B]],.i off]=some [.i (oc A B ac bc off).1,.i ((oc A B ac bc off).2:Int)]:=by
 refine aa.toEq ?_;unfold Df;dsimp +instances only[Aa,Ab,Ac,Ad,Ae,Af,Ag];refine aa.loop (aky h (off:=off) la lb ac bc) rfl ?_;rintro c g ⟨rfl,E,d,rfl⟩;dsimp +instances only[Aa,Ab,Ac,Ad,Ae,Af,Ag];simp only[aK];refine aa.tail (P:=fun u g=>u=0/\g=[.i (oc A B ac bc off).1,.i ((oc A B ac bc off).2:Int)]) ⟨_,aku d (VF h),0,rfl,rfl,rfl⟩ rfl ?_;rintro _ _ ⟨rfl,rfl⟩;exact aa.some rfl
end
theorem akA(off:Int):yN [.i off]=some [.i (bif dP off 0 3600000 then 0 else 1)]:=by
 refine aa.toEq ?_;unfold yN;dsimp +instances only[Aa,Ab,Ac,Ad,Ae,Af,Ag];refine aa.cE (zw off 0 3600000) ?_;cases dP off 0 3600000<;>exact aa.some rfl
theorem akB(off:Int):C2 [.i off]=some [.i (bif dP off 0 3600000 then 0 else 1)]:=by
 refine aa.toEq ?_;unfold C2;dsimp +instances only[Aa,Ab,Ac,Ad,Ae,Af,Ag];refine aa.cE (T5 off 0 3600000) ?_;cases dP off 0 3600000<;>exact aa.some rfl
def jI(a:ByteArray)(A:List (List G))(b:ByteArray)(B:List (List G))(off:Int):Int :=
 if eM a A≠0 then eM a A else if eM b B≠0 then eM b B else if a=b then 6 else bif dP off 0 3600000 then 0 else 1
theorem akC{a b:ByteArray}{A B:List (List G)}{off:Int}(h:jI a A b B off=0):eM a A=0/\eM b B=0/\a≠b/\0<=off/\off<=3600000:=by
 unfold jI at h;split at h
 ·rename_i h1
  exact(h1 h).elim
 ·rename_i h1
  split at h
  ·rename_i g
   exact(g h).elim
  ·rename_i g
   split at h
   ·cases h
   ·rename_i k
    cases d:dP off 0 3600000 with
    |false=>rw[d]at h; cases h
    | true =>
     unfold dP at d;rw[ax,eT,eT,decide_eq_true_eq,decide_eq_true_eq]at d;exact⟨by omega,by omega,k,d.1,d.2⟩
def KT(S:List G->Option (List G))(d:List G):Option (Option Nat × List G) :=
 (bif aj (gi d 7).int (gi d 6).int then (bif (az (gi d 7).int)&&(aj (gi d 7).int (((gi d 5).rows.length:Nat):Int)) then (ar (S [.l [(aT [.str,.list [.int .i64,.int .i64,.str,.str,.int .i64,.int .i64,.str,.str]] ((gi d 5).rows.getD (((gi d 7).int).toNat) []))]]) fun g1=>(bif (gi g1 0).int != 0 then some (some 0,[.i (gi g1 0).int]) else (bif ao ((gi d 7).int+1) then some (none,[.s (gi d 0).str,.l (gi d 1).rows,.s (gi d 2).str,.l (gi d 3).rows,.i (gi d 4).int,.l (gi d 5).rows,.i (gi d 6).int,.i ((gi d 7).int+1)]) else none))) else none) else some (some 1,[.s (gi d 0).str,.l (gi d 1).rows,.s (gi d 2).str,.l (gi d 3).rows,.i (gi d 4).int]))
section
variable {a b:ByteArray} (ha:a∈calls) (hb:b∈calls) {A B:List (List G)} (hA:∀ z∈A,cU z) (hB:∀ z∈B,cU z) (na:A.length<100000) (nb:B.length<100000)
include ha hb hA hB na nb
theorem VZ{S:List G->Option (List G)}(d:∀{c:ByteArray},c∈calls->∀{L:List (List G)},(∀ z∈L,cU z)->L.length<100000->S [.l [[.s c,.l L]]]=some [.i (eM c L)])(off:Int) :
  aL (KT S) [.s a,.l A,.s b,.l B,.i off,.l [[.s a,.l A],[.s b,.l B]],.i 2,.i 0] 3 fun x g=>(x=0/\g=[.i (jI a A b B off)])\/x=1/\jI a A b B off=(if a=b then 6 else bif dP off 0 3600000 then 0 else 1)/\g=[.s a,.l A,.s b,.l B,.i off]:=by
 have round:∀(i:Int) (c:ByteArray) (W:List (List G)),c∈calls->(∀ z∈W,cU z)->W.length<100000->0<=i->i<2->([[.s a,.l A],[.s b,.l B]]:List (List G)).getD i.toNat []=[.s c,.l W] ->
   aa (KT S [.s a,.l A,.s b,.l B,.i off,.l [[.s a,.l A],[.s b,.l B]],.i 2,.i i]) fun o=>(o=(some 0,[.i (eM c W)])/\eM c W≠0)\/(o=(none,[.s a,.l A,.s b,.l B,.i off,.l [[.s a,.l A],[.s b,.l B]],.i 2,.i (i+1)])/\eM c W=0):=fun i c W k q u i0 i2 hi=>by
  unfold KT;dsimp +instances only[Aa,Ab,Ac,Ad,Ae,Af,Ag];simp only[hi];refine aa.p (aa.p ?_);refine aa.cE (d k q u) ?_;dsimp +instances only[Aa,Ab,Ac,Ad,Ae,Af,Ag];exact aa.test (fun h=>aa.some (.inl ⟨rfl,by have h:(eM c W != 0)=true:=h; simpa using h⟩)) fun h=>aa.p (aa.some (.inr ⟨rfl,by have h:(eM c W != 0)=false:=h; simpa using h⟩))
 obtain⟨o,h,⟨rfl,f1⟩|⟨rfl,f1⟩⟩:=round 0 a A ha hA na (by omega) (by omega) rfl
 ·exact aL.stop h (.inl ⟨rfl,by unfold jI; rw[if_pos f1]⟩)
 refine aL.next h ?_
 obtain⟨o,h,⟨rfl,f2⟩|⟨rfl,f2⟩⟩:=round 1 b B hb hB nb (by omega) (by omega) rfl
 ·exact aL.stop h (.inl ⟨rfl,by unfold jI; rw[if_neg (by simpa using f1),if_pos f2]⟩)
 refine aL.next h ?_
 exact aL.stop (x:=1) (d':=[.s a,.l A,.s b,.l B,.i off]) rfl (.inr ⟨rfl,by unfold jI; rw[if_neg (by simpa using f1),if_neg (by simpa using f2)],rfl⟩)
theorem KU(off:Int):vm [.l [[.s a,.l A]],.l [[.s b,.l B]],.i off]=some [.i (jI a A b B off)]:=by
 refine aa.toEq ?_;unfold vm;dsimp +instances only[Aa,Ab,Ac,Ad,Ae,Af,Ag];refine aa.loop (st:=Ig) ((VZ ha hb hA hB na nb ajv off).to (by omega)) rfl ?_;rintro x g (⟨rfl,rfl⟩|⟨rfl,e,rfl⟩)
 ·exact aa.pos rfl (aa.some rfl)
 dsimp +instances only[Aa,Ab,Ac,Ad,Ae,Af,Ag];rw[e,qA];refine aa.neg rfl ?_;by_cases d:a=b
 ·rw [if_pos d]
  exact aa.pos (decide_eq_true d) (aa.some rfl)
 ·rw [if_neg d]
  refine aa.neg (decide_eq_false d) ?_;refine aa.cE (akA off) ?_;exact aa.some rfl
theorem akD(off:Int):C3 [.l [[.s a,.l A]],.l [[.s b,.l B]],.i off]=some [.i (jI a A b B off)]:=by
 refine aa.toEq ?_;unfold C3;dsimp +instances only[Aa,Ab,Ac,Ad,Ae,Af,Ag];refine aa.loop (st:=I2) ((VZ ha hb hA hB na nb Ku off).to (by omega)) rfl ?_;rintro x g (⟨rfl,rfl⟩|⟨rfl,e,rfl⟩)
 ·exact aa.pos rfl (aa.some rfl)
 dsimp +instances only[Aa,Ab,Ac,Ad,Ae,Af,Ag];rw[e,qA];refine aa.neg rfl ?_;by_cases d:a=b
 ·rw [if_pos d]
  exact aa.pos (decide_eq_true d) (aa.some rfl)
 ·rw [if_neg d]
  refine aa.neg (decide_eq_false d) ?_;refine aa.cE (akB off) ?_;exact aa.some rfl
end
structure DW (L:List (List G)) (C:Nat->ByteArray) (A:Nat->List (List G)):Prop where
 get:∀ i,i<L.length->L.getD i []=[.s (C i),.l (A i)]
 n:L.length<=40
 oa:∀ i,i<L.length->∀ z∈A i,cU z
 na:∀ i,i<L.length->(A i).length<=40
 call:∀ i,i<L.length->C i∈calls
def od(C:Nat->ByteArray)(i:Nat):Bool:=pk (C i).toList (C (i-1)).toList||((C i).toList==(C (i-1)).toList)
def lC(C:Nat->ByteArray)(A:Nat->List (List G))(i:Nat):Int :=
 bif !iz (C i) then 3 else bif aj 0 (i:Int)&&od C i then 7 else eM (C i) (A i)
def kT(C:Nat->ByteArray)(A:Nat->List (List G)):Nat->Nat->Int
 |0,_=>0
 |k+1,i=>if lC C A i≠0 then lC C A i else kT C A k (i+1)
section
variable {L:List (List G)} {C:Nat->ByteArray} {A:Nat->List (List G)} (R:DW L C A)
include R
theorem akE{i:Nat}(hi:i<L.length):Dg [.l [[.i (i:Int)]],.l [[.s (C i),.l (A i)]],.l [[.l L]]]=some [.i (bif aj 0 (i:Int)&&od C i then 7 else 0)]:=by
 have g:=R.n;refine aa.toEq ?_;unfold Dg;dsimp +instances only[Aa,Ab,Ac,Ad,Ae,Af,Ag];refine aa.test (fun h=>?_) fun h=>?_
 ·rw [h]
  rw[cd,decide_eq_true_eq]at h;have e:((i:Int)-1).toNat=i-1:=by omega
  have d:=R.get (i-1) (by omega);simp only[e,d];dsimp +instances only[Aa,Ab,Ac,Ad,Ae,Af,Ag];refine aa.p (aa.p ?_);show aa (bif od C i then some ([.i 7]:List G) else some ([.i 0]:List G)) _
  cases od C i<;>exact aa.some rfl
 ·rw [h]
  exact aa.some rfl
theorem akF{i:Nat}(hi:i<L.length):Dh [.l [[.s (C i),.l (A i)]],.l [[.i (i:Int)]],.l [[.s (C i),.l (A i)]],.l [[.l L]]]=some [.i (lC C A i)]:=by
 have d:=R.na i hi;refine aa.toEq ?_;unfold Dh lC eM;dsimp +instances only[Aa,Ab,Ac,Ad,Ae,Af,Ag];refine aa.cE (J9 (R.call i hi)) ?_;dsimp +instances only[Aa,Ab,Ac,Ad,Ae,Af,Ag];cases iz (C i)with
 |false=>exact aa.some rfl
 | true =>
  refine aa.neg rfl ?_;refine aa.cE (akE R hi) ?_;dsimp +instances only[Aa,Ab,Ac,Ad,Ae,Af,Ag];cases aj 0 (i:Int)&&od C i with
  |true=>exact aa.some rfl
  | false =>
   refine aa.neg rfl ?_;refine aa.cE (T_ (A i) (R.oa i hi) (by omega)) ?_;dsimp +instances only[Aa,Ab,Ac,Ad,Ae,Af,Ag];cases j7 (A i) != 0 with
   |true=>exact aa.some rfl
   | false =>
    refine aa.neg rfl ?_;refine aa.call (aa.eq (Ks (C:=vl) (c:=C i) (A:=A i) (fun z g=>by
     refine aa.toEq ?_;unfold vl;dsimp +instances only[Aa,Ab,Ac,Ad,Ae,Af,Ag];exact aa.some rfl) (A i) (R.oa i hi) (by omega))) ?_
    rintro _ rfl;dsimp +instances only[Aa,Ab,Ac,Ad,Ae,Af,Ag];cases kQ (C i) (A i)<;>exact aa.some rfl
theorem V3:∀(k i:Nat),i+k=L.length->aL vK [.l L,.l L,.i (L.length:Int),.i (i:Int)] (k+1) fun x g=>(x=0/\g=[.i (kT C A k i)])\/x=1/\kT C A k i=0
 | 0,i,hi=>by
  refine aL.stop (x:=1) (d':=[]) (aa.toEq ?_) (.inr ⟨rfl,rfl⟩);unfold vK;dsimp +instances only[Aa,Ab,Ac,Ad,Ae,Af,Ag];exact aa.n (aa.some rfl)
 | k+1,i,hi=>by
  have q:=R.n;have d:=V3 k (i+1) (by omega);have step:aa (vK [.l L,.l L,.i (L.length:Int),.i (i:Int)]) fun o=>(o=(some 0,[.i (lC C A i)])/\lC C A i≠0)\/o=(none,[.l L,.l L,.i (L.length:Int),.i ((i:Int)+1)])/\lC C A i=0:=by
   unfold vK;dsimp +instances only[Aa,Ab,Ac,Ad,Ae,Af,Ag];simp only[aK,R.get i (by omega:i<L.length)];refine aa.p (aa.p ?_);refine aa.cE (akF R (i:=i) (by omega)) ?_;dsimp +instances only[Aa,Ab,Ac,Ad,Ae,Af,Ag];exact aa.test (fun h=>aa.some (.inl ⟨rfl,by simpa using h⟩)) fun h=>aa.p (aa.some (.inr ⟨rfl,by simpa using h⟩))
  obtain⟨o,h,⟨rfl,he⟩|⟨rfl,he⟩⟩:=step
  ·exact aL.stop h (.inl ⟨rfl,by rw[kT,if_pos he]⟩)
  ·refine aL.next h (d.mono ?_)
   rw[kT,if_neg (by simpa using he)];exact fun x g h=>h
theorem V4:∀(k i:Nat),i+k=L.length->aL vM [.l L,.l L,.i (L.length:Int),.i (i:Int)] (k+1) fun x g=>(x=0/\g=[.i (kT C A k i)])\/x=1/\kT C A k i=0
 | 0,i,hi=>by
  refine aL.stop (x:=1) (d':=[]) (aa.toEq ?_) (.inr ⟨rfl,rfl⟩);unfold vM;dsimp +instances only[Aa,Ab,Ac,Ad,Ae,Af,Ag];exact aa.n (aa.some rfl)
 | k+1,i,hi=>by
  have I:=R.n;have q:=V4 k (i+1) (by omega);have y:=R.na i (by omega);have step:aa (vM [.l L,.l L,.i (L.length:Int),.i (i:Int)]) fun o=>(o=(some 0,[.i (lC C A i)])/\lC C A i≠0)\/o=(none,[.l L,.l L,.i (L.length:Int),.i ((i:Int)+1)])/\lC C A i=0:=by
   unfold vM lC;dsimp +instances only[Aa,Ab,Ac,Ad,Ae,Af,Ag];simp only[aK,R.get i (by omega:i<L.length)];dsimp +instances only[Aa,Ab,Ac,Ad,Ae,Af,Ag];refine aa.p (aa.p ?_);refine aa.cE (J_ (R.call i (by omega))) ?_;dsimp +instances only[Aa,Ab,Ac,Ad,Ae,Af,Ag];cases iz (C i)with
   |false=>exact aa.some (.inl ⟨rfl,by show (3:Int)≠0; decide⟩)
   | true =>
    refine aa.neg rfl ?_;simp only[Bool.not_true,cond_false];refine aa.test (fun d=>?_) fun d=>?_
    ·rw [d, jm]
     rw[cd,decide_eq_true_eq]at d;have e:((i:Int)-1).toNat=i-1:=by omega
     have u:=R.get (i-1) (by omega);simp only[e,u];dsimp +instances only[Aa,Ab,Ac,Ad,Ae,Af,Ag];refine aa.p (aa.p ?_);have v:(pk (C i).toList (C (i-1)).toList||((C i).toList==(C (i-1)).toList))=od C i:=rfl;rw[v];cases od C i with
     |true=>exact aa.some (.inl ⟨rfl,by show (7:Int)≠0; decide⟩)
     | false =>
      refine aa.neg rfl ?_;refine aa.cE (Ku (L:=A i) (R.call i (by omega)) (R.oa i (by omega)) (by omega)) ?_;dsimp +instances only[Aa,Ab,Ac,Ad,Ae,Af,Ag];exact aa.test (fun h=>aa.some (.inl ⟨rfl,by simpa using h⟩)) fun h=>aa.p (aa.some (.inr ⟨rfl,by simpa using h⟩))
    ·rw [d, Bool.false_and, cond_false]
     refine aa.cE (Ku (L:=A i) (R.call i (by omega)) (R.oa i (by omega)) (by omega)) ?_;dsimp +instances only[Aa,Ab,Ac,Ad,Ae,Af,Ag];exact aa.test (fun h=>aa.some (.inl ⟨rfl,by simpa using h⟩)) fun h=>aa.p (aa.some (.inr ⟨rfl,by simpa using h⟩))
  obtain⟨o,h,⟨rfl,he⟩|⟨rfl,he⟩⟩:=step
  ·exact aL.stop h (.inl ⟨rfl,by rw[kT,if_pos he]⟩)
  ·refine aL.next h (q.mono ?_)
   rw[kT,if_neg (by simpa using he)];exact fun x g h=>h
theorem V5:vL [.l L]=some [.i (kT C A L.length 0)]:=by
 have d:=R.n;refine aa.toEq ?_;unfold vL;dsimp +instances only[Aa,Ab,Ac,Ad,Ae,Af,Ag];refine aa.n ?_;refine aa.loop ((V3 R L.length 0 (by omega)).to (by omega)) rfl ?_;rintro x g (⟨rfl,rfl⟩|⟨rfl,h⟩)
 ·exact aa.pos rfl (aa.some rfl)
 ·rw [h]
  exact aa.neg rfl (aa.some rfl)
theorem akG:Di [.l L]=some [.i (kT C A L.length 0)]:=by
 have d:=R.n;refine aa.toEq ?_;unfold Di;dsimp +instances only[Aa,Ab,Ac,Ad,Ae,Af,Ag];refine aa.n ?_;refine aa.loop ((V4 R L.length 0 (by omega)).to (by omega)) rfl ?_;rintro x g (⟨rfl,rfl⟩|⟨rfl,h⟩)
 ·exact aa.pos rfl (aa.some rfl)
 ·rw [h]
  exact aa.neg rfl (aa.some rfl)
end
def ia:ByteArray:=⟨#[107,49,97,98]⟩
def iI:ByteArray:=⟨#[119,49,97,119]⟩
def qS(t:Int)(c:ByteArray)(s h:Int):List G:=[.i t,.i 1,.s ⟨#[98]⟩,.s c,.i s,.i h,.s ⟨#[]⟩,.s ⟨#[]⟩]
def jJ:List (List G):=[[.s ia,.l [qS 5 iI 1 2]],[.s iI,.l [qS 9 ia 2 1]]]
def iX(i:Nat):ByteArray:=if i=0 then ia else iI
def c_(i:Nat):List (List G):=if i=0 then [qS 5 iI 1 2] else [qS 9 ia 2 1]
theorem V6:pe jJ iX c_:=by
 have d:∀ i,i<jJ.length->i=0\/i=1:=fun i hi=>by
  have:i<2:=hi;omega
 refine⟨fun i hi=>?_,by decide,fun i hi z g=>?_,fun i hi=>?_,fun i hi=>?_,fun i j v k=>?_⟩
 ·rcases d i hi with rfl|rfl<;>rfl
 ·rcases d i hi with rfl | rfl
  ·rw [iZ.1 g]
   exact⟨⟨rfl,by decide,by decide⟩,by decide⟩
  ·rw [iZ.1 g]
   exact⟨⟨rfl,by decide,by decide⟩,by decide⟩
 ·rcases d i hi with rfl|rfl<;>decide
 ·rcases d i hi with rfl|rfl<;>decide
 ·have k : j < 2 := k
  have q:i=0:=by omega
  have u:j=1:=by omega
  subst q u;have h:aj (eX ia iI) 0=true:=by kernel_rfl
  rw[cd,decide_eq_true_eq]at h;exact h
theorem akH:DW jJ iX c_:=by
 have g:∀ i,i<jJ.length->i=0\/i=1:=fun i hi=>by
  have:i<2:=hi;omega
 have d:∀ n:Int,0<=n->n<=9->small n:=fun n h1 u=>⟨by omega,by omega⟩
 have hb:(⟨#[98]⟩:ByteArray)∈iV:=ji (by kernel_rfl);have hk:ia∈calls:=ji (by kernel_rfl);have hw:iI∈calls:=ji (by kernel_rfl);have k:(⟨#[]⟩:ByteArray)∈names:=ji (by kernel_rfl);refine⟨fun i hi=>?_,by decide,fun i hi z q=>?_,fun i hi=>?_,fun i hi=>?_⟩
 ·rcases g i hi with rfl|rfl<;>rfl
 ·rcases g i hi with rfl | rfl
  ·rw [iZ.1 q]
   exact⟨_,_,_,_,_,_,_,_,rfl,d _ (by decide) (by decide),d _ (by decide) (by decide),d _ (by decide) (by decide),d _ (by decide) (by decide),hb,hw,k,k⟩
  ·rw [iZ.1 q]
   exact⟨_,_,_,_,_,_,_,_,rfl,d _ (by decide) (by decide),d _ (by decide) (by decide),d _ (by decide) (by decide),d _ (by decide) (by decide),hb,hk,k,k⟩
 ·rcases g i hi with rfl|rfl<;>decide
 ·rcases g i hi with rfl | rfl
  ·exact hk
  ·exact hw
theorem V7{c:ByteArray}{r:List G}(h1:iz c=true)(d:gO r=0) (g:((gi r 3).str.toList==c.toList)=false):eM c [r]=0:=by
 have k:j7 [r]=0:=by
  unfold j7;rw[if_neg (by simp)];unfold iD;rw[if_neg (by rw[d]; simp)];rfl
 have ho:kQ c [r]=false:=by
  unfold kQ;rw[As,g];rfl
 unfold eM;rw[h1,k,ho];rfl
theorem akI:vL [.l jJ]=some [.i 0]:=by
 have d:(iI.toList==ia.toList)=false:=by rw[qA]; exact decide_eq_false fun e=>by have:=congrArg WX e; revert this; decide
 have q:(ia.toList==iI.toList)=false:=by rw[qA]; exact decide_eq_false fun e=>by have:=congrArg WX e; revert this; decide
 have g:iz ia=true:=by kernel_rfl
 have k:iz iI=true:=by kernel_rfl
 have f1:eM ia [qS 5 iI 1 2]=0:=V7 g (by kernel_rfl) d;have f2:eM iI [qS 9 ia 2 1]=0:=V7 k (by kernel_rfl) q;have u:od iX 1=false:=by
  show (pk iI.toList ia.toList||(iI.toList==ia.toList))=false
  rw[d,tq,tq]
  kernel_rfl
 have a0:lC iX c_ 0=0:=by
  show (bif !iz ia then 3 else bif aj 0 0&&od iX 0 then 7 else eM ia [qS 5 iI 1 2])=(0:Int)
  rw[g,f1];rfl
 have v:lC iX c_ 1=0:=by
  show (bif !iz iI then 3 else bif aj 0 1&&od iX 1 then 7 else eM iI [qS 9 ia 2 1])=(0:Int)
  rw[k,u,f2];rfl
 rw[V5 akH];have:kT iX c_ 2 0=0:=by
  rw[kT,if_neg (by rw[a0]; simp),kT,if_neg (by rw[v]; simp)];rfl
 rw[show jJ.length=2 from rfl,this]
theorem akJ:KD jJ iX c_ 0 4 0:=by
 refine⟨1,0,by decide,rfl,?_⟩;have U:=V6.two (i:=0) (k:=1) (by decide) (by decide);show _∈gA (c_ 0) (c_ 1) (iX 0) (iX 1) 4
 refine(Kp _ _ _ _ _).mem_iff.2 (ajo.2 ⟨(⟨#[98]⟩,1),?_⟩);have d:∀(A:List (List G)) (s:ByteArray),A.length=1->cP A s 0=true->bo (A.getD 0 [])=((⟨#[98]⟩:ByteArray),(1:Int))->bI A s (⟨#[98]⟩,1)=[0]:=fun A s h1 q v=>by
  have hm:∀ i,i∈bI A s (⟨#[98]⟩,1)↔i=0:=fun i=>by
   rw[lA];constructor
   ·rintro⟨h,_⟩; omega
   ·rintro rfl; exact⟨by omega,q,v⟩
  have hr:=Dy A s (⟨#[98]⟩,1);generalize bI A s (⟨#[98]⟩,1)=l at hm hr
  match l,hm,hr with
  | [],hm,_=>exact absurd ((hm 0).2 rfl) (by simp)
  | [a],hm,_=>rw[(hm a).1 (by simp)]
  | a::b::_,hm,hr =>
   have h1:=(hm a).1 (by simp);have q:=(hm b).1 (by simp);have:=(ot.1 hr).1 b (by simp);omega
 have I:bI (c_ 0) (iX 1) (⟨#[98]⟩,1)=[0]:=d _ _ rfl (by show (iI.toList==iI.toList)=true; rw[beq_self_eq_true]) rfl;have M:bI (c_ 1) (iX 0) (⟨#[98]⟩,1)=[0]:=d _ _ rfl (by show (ia.toList==ia.toList)=true; rw[beq_self_eq_true]) rfl;unfold fC;rw[I,M];refine cH.2 ⟨(0,0),?_,rfl⟩;unfold zy;have B:=Dt 1 1 (cJ (c_ 0) (c_ 1) [0] [0] 4) (wJ (c_ 0) (c_ 1) [0] [0]);have g:cJ (c_ 0) (c_ 1) [0] [0] 4 0 0=true:=Uy.2 ⟨rfl,rfl,by decide⟩;have hw:wJ (c_ 0) (c_ 1) [0] [0] 0 0=9999999996:=by decide
 show (0,0)∈be (kN 1 1 (cJ (c_ 0) (c_ 1) [0] [0] 4) (wJ (c_ 0) (c_ 1) [0] [0])) 1 (cJ (c_ 0) (c_ 1) [0] [0] 4) (wJ (c_ 0) (c_ 1) [0] [0]) 1 0 0
 generalize kN 1 1 (cJ (c_ 0) (c_ 1) [0] [0] 4) (wJ (c_ 0) (c_ 1) [0] [0])=F at B|-;have s1:=B.step 0 0 (by omega) (by omega);have s2:=B.ly 1 0 (.inl (by omega));have N:=B.ly 0 1 (.inr (by omega));have u:=B.ly 1 1 (.inl (by omega));rw[if_pos g,s2,N,u,hw]at s1;have O:fk (fA F (cJ (c_ 0) (c_ 1) [0] [0] 4) (wJ (c_ 0) (c_ 1) [0] [0]) (F 0 0) 0) 0 (1-0)=some 0:=Kb (by omega) (by omega) (sT.2 ⟨g,by rw[hw,u,s1]; omega⟩) (fun y _ V=>by omega);rw[me O];exact bZ
theorem V8:zt []=some [.t true]:=by
 have ho:0<jJ.length:=by decide
 have S:=V6;refine aa.toEq ?_;unfold zt;refine aa.call (P:=fun g=>∃(row:List G),g=[.l [row],.i 0]/\sX jJ iX c_ 0 4 0 row) ?_ ?_
 ·unfold JY
  dsimp +instances only[Aa,Ab,Ac,Ad,Ae,Af,Ag];refine aa.call (P:=fun g=>∃(row:List G),g=[.l [row],.i 0,.i 0]/\sX jJ iX c_ 0 4 0 row) ?_ ?_
  ·unfold JW
   dsimp +instances only[Aa,Ab,Ac,Ad,Ae,Af,Ag];refine aa.cE akI ?_;refine aa.neg rfl ?_;refine aa.call (P:=fun g=>g=[.i 0]) ⟨_,by kernel_rfl,rfl⟩ ?_;rintro _ rfl;refine aa.neg rfl ?_;refine aa.call (UX S ia) ?_;rintro _ ⟨p,b,rfl,hT,hF⟩;dsimp +instances only[Aa,Ab,Ac,Ad,Ae,Af,Ag];have hb:b=true:=by
    cases b with
    |true=>rfl
    |false=>exact absurd rfl (hF rfl 0 ho)
   obtain⟨hp,O⟩:=hT hb;have U:=S.inj hp ho (by rw[O]; rfl);subst U;refine aa.neg (by rw[hb]; rfl) ?_;refine aa.call (P:=fun g=>g=[.l jJ,.i 0,.i 4,.l [],.i 0,.l [],.i 0]) (aa.eq rfl) ?_;rintro _ rfl;dsimp +instances only[Aa,Ab,Ac,Ad,Ae,Af,Ag];refine aa.call (P:=fun g=>∃(row:List G),g=[.l [],.l [],.l [],.l [row]]/\sX jJ iX c_ 0 4 0 row) ?_ ?_
   ·unfold JU
    dsimp +instances only[Aa,Ab,Ac,Ad,Ae,Af,Ag];simp only[aK];refine aa.pos rfl (aa.pos rfl ?_);have key:aL vV [.l jJ,.i 0,.i 4,.l [],.l [],.i 0,.l [],.l [],.i 0,.l [],.i 0,.l [],.l (c_ 0),.i 1,.i 0] 2 fun x g=>x=0/\∃(row:List G) (v1 v2 v3 v4 v5 v6 M N v9:G),g=[v1,v2,v3,v4,v5,v6,M,N,v9,.l [row]]/\sX jJ iX c_ 0 4 0 row:=by
     have step:aa (vV [.l jJ,.i 0,.i 4,.l [],.l [],.i 0,.l [],.l [],.i 0,.l [],.i 0,.l [],.l (c_ 0),.i 1,.i 0]) fun o=>∃(row:List G) (q:List (List G)) (u y:Int) (a b c d e:List (List G)) (m1 m2 m3:Nat),o=(none,[.l q,.i u,.i y,.l a,.l b,.i (m1:Int),.l c,.l d,.i (m2:Int),.l e,.i (m3:Int),.l [row],.l (c_ 0),.i 1,.i 1])/\sX jJ iX c_ 0 4 0 row:=by
      unfold vV;dsimp +instances only[Aa,Ab,Ac,Ad,Ae,Af,Ag];refine aa.pos rfl (aa.pos rfl ?_);refine aa.neg rfl ?_;refine aa.call (ajK S ho 4 (i:=0) (by decide) []) ?_;rintro _ ⟨ks',row,rfl,hr⟩;have V:aT oY row=row:=by
       obtain⟨kd,w,v,rfl,_⟩:=hr;rfl
      dsimp +instances only[Aa,Ab,Ac,Ad,Ae,Af,Ag];simp only[aK,V];exact aa.test (fun _=>aa.pos rfl (aa.pos rfl (aa.pos rfl (aa.some ⟨row,_,_,_,_,_,_,_,_,_,_,_,rfl,hr⟩)))) fun _=>aa.pos rfl (aa.pos rfl (aa.pos rfl (aa.some ⟨row,_,_,_,_,_,_,_,_,_,_,_,rfl,hr⟩)))
     obtain⟨o,h,row,q,u,y,a,b,c,d,e,m1,m2,m3,rfl,hr⟩:=step;refine aL.next h (aL.stop (x:=0) (d':=[.l q,.i u,.i y,.l a,.l b,.i (m1:Int),.l c,.l d,.i (m2:Int),.l [row]]) (aa.toEq ?_) ⟨rfl,row,_,_,_,_,_,_,_,_,_,rfl,hr⟩)
     unfold vV;dsimp +instances only[Aa,Ab,Ac,Ad,Ae,Af,Ag];simp only[aK];exact aa.neg rfl (aa.pos rfl (aa.some rfl))
    refine aa.loop (key.to (by omega)) rfl ?_;rintro _ _ ⟨rfl,row,v1,v2,v3,v4,v5,v6,M,N,v9,rfl,hr⟩;dsimp +instances only[Aa,Ab,Ac,Ad,Ae,Af,Ag];exact aa.pos rfl (aa.some ⟨row,rfl,hr⟩)
   ·rintro _ ⟨row, rfl, hr⟩
    exact aa.some ⟨row,rfl,hr⟩
  ·rintro _ ⟨row, rfl, hr⟩
   exact aa.some ⟨row,rfl,hr⟩
 ·rintro _ ⟨row, rfl, hr⟩
  dsimp +instances only[Aa,Ab,Ac,Ad,Ae,Af,Ag];refine aa.pos rfl (aa.pos rfl (aa.pos rfl (aa.some ?_)));have hk:(gi (([row]:List (List G)).getD 0 []) 1).int=1:=by
   obtain⟨kd,w,v,rfl,⟨k,j,hk,hj,W,_,_,_,⟨rfl,_⟩|⟨rfl,hs⟩⟩|⟨hno,_⟩⟩:=hr
   ·rfl
   ·exfalso
    have hk2:k<2:=hk;have:k=0\/k=1:=by omega
    rcases this with rfl|rfl
    ·have : ia = iI := W
     have:=congrArg WX this
     revert this
     decide
    ·have hj1 : j < 1 := hj
     have:j=0:=by omega
     subst this;have I:((2:Int)==2&&((⟨#[]⟩:ByteArray).toList==(⟨#[]⟩:ByteArray).toList))=false:=hs;rw[beq_self_eq_true,beq_self_eq_true]at I;cases I
   ·exact absurd akJ hno
  rw[hk];rfl
theorem akK{c:ByteArray}(h:c∈iV):c.size<=1000:=by
 have d:iV.all (fun c=>dD c.size 1000)=true:=by kernel_rfl
 simpa using da.1 d c h
theorem DX{z:List G}(h:cU z)(g:gO z=0):fJ z/\Sm (bo z):=by
 obtain⟨h1,d,_⟩:=ajL.1 g;unfold dP at h1 d;simp only[eT,ax,decide_eq_true_eq]at h1 d;refine⟨⟨h.eta,by unfold gY; omega,by unfold gY; omega⟩,⟨?_,?_,?_⟩⟩
 ·show 0 <= (gi z 1).int
  omega
 ·show (gi z 1).int <= 9
  omega
 ·obtain ⟨t, m, b, c, s, k, x, y, rfl, _, _, _, _, hb, _⟩ := h
  exact akK hb
theorem akL{a b:ByteArray}{A B:List (List G)}(hA:∀ z∈A,cU z)(hB:∀ z∈B,cU z)(na:A.length<=100)(nb:B.length<=100)(q:eM a A=0)(u:eM b B=0):wz A B:=by
 have g:∀ z∈A,gO z=0:=KE (Kt q);have k:∀ z∈B,gO z=0:=KE (Kt u);exact⟨⟨fun z d=>(DX (hA z d) (g z d)).1,fun z d=>(DX (hB z d) (k z d)).1,by omega,by omega⟩,fun z d=>(DX (hA z d) (g z d)).2,fun z d=>(DX (hB z d) (k z d)).2,by omega,by omega⟩
theorem V9(l:List (List G))(k:l.length<=100000):zm [.l l,.l l]=some [.t true]:=by
 refine aa.toEq ?_;unfold zm;dsimp +instances only[Aa,Ab,Ac,Ad,Ae,Af,Ag];refine aa.neg (by simp) ?_;have r:=qs (st:=zl) (σ:=Unit) (fun _ i=>[.l l,.l l,.i (l.length:Int),.i (i:Int)]) l (fun _=>(1,[])) (fun _ _=>True) () (by omega) trivial
  (fun _ i x _ hi d hm _ => by
   unfold zl;dsimp +instances only[Aa,Ab,Ac,Ad,Ae,Af,Ag];simp only[aK,d];refine aa.p (aa.p (aa.p (aa.neg ?_ (aa.p (aa.some ⟨(),rfl,trivial⟩)))));show (!(((gi x 0).int==(gi x 0).int)&&(((gi x 1).int==(gi x 1).int)&&true)))=false
   simp)
  (fun _ _ => by
   unfold zl;dsimp +instances only[Aa,Ab,Ac,Ad,Ae,Af,Ag];exact aa.n (aa.some rfl))
 refine aa.loop r rfl ?_;rintro c g ⟨_,_,rfl,rfl⟩;exact aa.neg rfl (aa.some rfl)
section
variable {a b:ByteArray} (ha:a∈calls) (hb:b∈calls) {A B:List (List G)} (hA:∀ z∈A,cU z) (hB:∀ z∈B,cU z) (na:A.length<=100) (nb:B.length<=100)
include ha hb hA hB na nb
theorem akM{off:Int}(he:jI a A b B off≠0):vu [.l [[.s a,.l A]],.l [[.s b,.l B]],.i off]=some [.l [],.i (jI a A b B off)]/\vD [.l [[.s a,.l A]],.l [[.s b,.l B]],.i off]=some [.i 0,.i 0,.i (jI a A b B off)]:=by
 have d:=KU ha hb hA hB (by omega) (by omega) off;generalize jI a A b B off=e at he d;constructor
 ·refine aa.toEq ?_
  unfold vu;dsimp +instances only[Aa,Ab,Ac,Ad,Ae,Af,Ag];refine aa.call (P:=fun g=>g=[.i e]) (aa.eq d) ?_;rintro _ rfl;exact aa.pos (by show (e != 0)=true; simpa using he) (aa.some rfl)
 ·refine aa.toEq ?_
  unfold vD;dsimp +instances only[Aa,Ab,Ac,Ad,Ae,Af,Ag];refine aa.call (P:=fun g=>g=[.i e]) (aa.eq d) ?_;rintro _ rfl;exact aa.pos (by show (e != 0)=true; simpa using he) (aa.some rfl)
theorem akN{off:Int}(h:fo A B)(he:jI a A b B off=0):vu [.l [[.s a,.l A]],.l [[.s b,.l B]],.i off]=some [.l (gA A B a b off),.i 0]:=by
 have d:=KU ha hb hA hB (by omega) (by omega) off;rw[he]at d;refine aa.toEq ?_;unfold vu;dsimp +instances only[Aa,Ab,Ac,Ad,Ae,Af,Ag];refine aa.call (P:=fun g=>g=[.i 0]) (aa.eq d) ?_;rintro _ rfl;refine aa.neg rfl ?_;refine aa.call (P:=fun g=>g=[.l (gA A B a b off)]) (aa.eq (Ux h a b off)) ?_;rintro _ rfl;exact aa.some rfl
theorem V_{X:List (List G)}{C:Nat->ByteArray}{W:Nat->List (List G)}(R:DW X C W)(off:Int):sN [.s a,.l A,.s b,.l B,.l X,.i off]=some (some 0,[.t true]):=by
 have c1:=V5 R;have c2:=akG R;have hr:=akD ha hb hA hB (by omega) (by omega) off;refine aa.toEq ?_;unfold sN;dsimp +instances only[Aa,Ab,Ac,Ad,Ae,Af,Ag];by_cases he:jI a A b B off=0
 ·obtain ⟨u, v, y, o0, o1⟩ := akC he
  have d:=akL hA hB na nb u v;have k:=KU ha hb hA hB (by omega) (by omega) off;rw[he]at hr k;have I:=Uz d.two a b off;refine aa.call (P:=fun g=>g=[.l (gA A B a b off),.i 0]) (aa.eq (akN ha hb hA hB na nb d.two he)) ?_;rintro _ rfl;refine aa.call (P:=fun g=>g=[.i (oc A B a b off).1,.i ((oc A B a b off).2:Int),.i 0]) (aa.eq (akq d.two o0 o1 (by omega) (by omega) a b k)) ?_;rintro _ rfl;refine aa.call (P:=fun g=>g=[.i 0]) (aa.eq hr) ?_;rintro _ rfl;refine aa.pos rfl ?_;refine aa.call (P:=fun g=>g=[.l (gA A B a b off)]) (aa.eq (akc d a b o1)) ?_;rintro _ rfl;refine aa.call (P:=fun g=>g=[.i (oc A B a b off).1,.i ((oc A B a b off).2:Int)]) (aa.eq (akz d.two (by omega) (by omega) a b)) ?_;rintro _ rfl;dsimp +instances only[Aa,Ab,Ac,Ad,Ae,Af,Ag];refine aa.cE c1 ?_;refine aa.cE c2 ?_;dsimp +instances only[Aa,Ab,Ac,Ad,Ae,Af,Ag];refine aa.pos (by simp) (aa.pos rfl ?_);refine aa.cE (V9 _ (by omega)) ?_;refine aa.pos rfl (aa.pos rfl (aa.pos (by simp) (aa.pos (by simp) ?_)));refine aa.cE V8 ?_;exact aa.some rfl
 ·obtain ⟨h1, q⟩ := akM ha hb hA hB na nb he
  generalize jI a A b B off=e at he hr h1 q;refine aa.call (P:=fun g=>g=[.l [],.i e]) (aa.eq h1) ?_;rintro _ rfl;refine aa.call (P:=fun g=>g=[.i 0,.i 0,.i e]) (aa.eq q) ?_;rintro _ rfl;refine aa.call (P:=fun g=>g=[.i e]) (aa.eq hr) ?_;rintro _ rfl;refine aa.neg (by show (e==0)=false; simpa using he) ?_;dsimp +instances only[Aa,Ab,Ac,Ad,Ae,Af,Ag];refine aa.cE c1 ?_;refine aa.cE c2 ?_;dsimp +instances only[Aa,Ab,Ac,Ad,Ae,Af,Ag];refine aa.pos (by simp) (aa.pos (by simp) ?_);refine aa.cE (V9 [] (by simp)) ?_;refine aa.pos rfl (aa.pos (by simp) (aa.pos rfl (aa.pos rfl ?_)));refine aa.cE V8 ?_;exact aa.some rfl
end
theorem akO(a:List (List G))(h:a.length<=1048576):vf [.l a]=some [.l a]:=by
 refine aa.toEq ?_;unfold vf;dsimp +instances only[Aa,Ab,Ac,Ad,Ae,Af,Ag];refine aa.test (fun h1=>?_) fun h1=>?_
 ·unfold HJ
  dsimp +instances only[Aa,Ab,Ac,Ad,Ae,Af,Ag];(repeat first|refine aa.p ?_|refine aa.n ?_);exact aa.some rfl
 ·have:a=[]:=by
   cases a with
   |nil=>rfl
   | cons x a =>
    have d:cC 0 (x::a).length=true:=by rw[gG]; simp
    rw[d]at h1;cases h1
  subst this;exact aa.some rfl
def Wa(r:List G):Prop:=∃(c:ByteArray) (L:List (List G)),r=[.s c,.l L]/\c∈calls/\(∀ z∈L,cU z)/\L.length<=15
theorem akP:∀ i,i<4->C4.getD i ⟨#[]⟩∈calls:=by
 intro i hi;have g:C4.all (fun c=>ma calls c)=true:=by kernel_rfl
 have d:i<C4.length:=hi;rw[bP,bx d];exact ji (da.1 g _ (List.getElem_mem d))
theorem akQ{l X:List (List G)}{p:Int}(p0:0<=p)(p1:p<=2000){m:Nat}(m0:1<=m)(m1:m<=4)(y:X.length=m)(hX:∀ i,i<m->Wa (X.getD i []))(f:Bool) :
  aa (yM [.l l,.i p,.l X,.t f]) fun o=>∃(q:Int) (Y:List (List G)),o=(some 0,[.l l,.i q,.l Y])/\0<=q/\q<=3000/\Y.length=m/\∀ i,i<m->∃(c:ByteArray) (L:List (List G)),Y.getD i []=[.s c,.l L]/\c∈calls/\(∀ z∈L,cU z)/\L.length<=16:=by
 unfold yM;dsimp +instances only[Aa,Ab,Ac,Ad,Ae,Af,Ag];cases f with
 | false =>
  refine aa.neg rfl (aa.pos (by simp) (aa.some ⟨p,X,rfl,p0,by omega,y,fun i hi=>?_⟩));obtain⟨c,L,h1,g,u,O⟩:=hX i hi;exact⟨c,L,h1,g,u,by omega⟩
 | true =>
  refine aa.pos rfl ?_;refine aa.call (o_ l p (X.length:Int) p0 (by omega) (by omega) (by omega)) ?_;rintro _ ⟨v,rfl,v0,v1⟩;obtain⟨k,rfl⟩:=Ei v0;have hk:k<m:=by omega
  obtain⟨c,L,U,g,u,O⟩:=hX k hk;dsimp +instances only[Aa,Ab,Ac,Ad,Ae,Af,Ag];simp only[aK,cn,U];dsimp +instances only[Aa,Ab,Ac,Ad,Ae,Af,Ag];refine aa.p (aa.pos (decide_eq_true (by omega)) ?_);refine aa.call (TY (fun v=>v∈calls) l (p+1) _ (by omega) (by omega) (by simp) (by simp) (fun x N=>by
   simp only[bC,nr,or_false]at N;rcases N with rfl|rfl|rfl|rfl
   ·exact g
   ·exact ji (by kernel_rfl)
   ·exact ji (by kernel_rfl)
   ·exact ji (by kernel_rfl))) ?_
  rintro _ ⟨s,rfl,V⟩;dsimp +instances only[Aa,Ab,Ac,Ad,Ae,Af,Ag];have W:dx [.str,.list [.int .i64,.int .i64,.str,.str,.int .i64,.int .i64,.str,.str]] [G.s c,.l L] 0 [.s s]=[.s s,.l L]:=rfl;have hg:(X.set k [.s s,.l L]).getD k []=[.s s,.l L]:=by
   rw[bP,bf (by omega)];rfl
  simp only[W,hg,ib,List.set_set];dsimp +instances only[Aa,Ab,Ac,Ad,Ae,Af,Ag];refine aa.pos (decide_eq_true (by omega)) (aa.pos (decide_eq_true (by omega)) ?_);refine aa.cE (akO L (by omega)) ?_;refine aa.call (pb 0 100000 l (p+1+1) _ (by omega) (by omega) (by kernel_rfl) (by kernel_rfl)) ?_;rintro _ ⟨t,rfl,ht⟩;dsimp +instances only[Aa,Ab,Ac,Ad,Ae,Af,Ag];refine aa.call (aiY l (p+1+1+1) t (by omega) (by omega) (by unfold sP; omega)) ?_;rintro _ ⟨q,r,rfl,q0,q1,hr⟩;dsimp +instances only[Aa,Ab,Ac,Ad,Ae,Af,Ag];have he:aT [.int .i64,.int .i64,.str,.str,.int .i64,.int .i64,.str,.str] r=r:=hr.to.eta;have e2:∀ M:List (List G),dx [.str,.list [.int .i64,.int .i64,.str,.str,.int .i64,.int .i64,.str,.str]] [G.s s,.l L] 1 [.l M]=[.s s,.l M]:=fun _=>rfl;simp only[he,e2];refine aa.pos (by rw[fe,jm,decide_eq_true_eq]; omega) (aa.pos (by rw[fe,jm,decide_eq_true_eq]; omega) (aa.pos (by rw[fe]; rfl) (aa.some ⟨q,_,rfl,by omega,by omega,by rw[ib]; exact y,fun i hi=>?_⟩)));by_cases I:k=i
  ·subst I
   refine⟨s,L++[r],?_,V,fun z d=>?_,by simp; omega⟩
   ·rw [bP, bf (by omega)]
    rfl
   ·rcases cw.1 d with d | d
    ·exact u z d
    ·rw [iZ.1 d]
     exact hr.to
  ·obtain ⟨c', L', g1, g2, g3, g4⟩ := hX i hi
   refine⟨c',L',?_,g2,g3,by omega⟩;rw[bP,List.getElem?_set_ne I,<-bP];exact g1
theorem akR(l:List (List G)):aa (CC [.l l,.i 0]) fun g=>∃(q:Int) (Y:List (List G)) (m:Nat),g=[.l l,.i q,.l Y]/\0<=q/\q<=3000/\1<=m/\m<=4/\Y.length=m/\∀ i,i<m->∃(c:ByteArray) (L:List (List G)),Y.getD i []=[.s c,.l L]/\c∈calls/\(∀ z∈L,cU z)/\L.length<=16:=by
 unfold CC;dsimp +instances only[Aa,Ab,Ac,Ad,Ae,Af,Ag];refine aa.call (aju l) ?_;rintro _ ⟨p,X,m,rfl,p0,p1,m0,m1,d,hX⟩;dsimp +instances only[Aa,Ab,Ac,Ad,Ae,Af,Ag];have v:∀ i,i<m->Wa (X.getD i []):=fun i hi=>by
  obtain⟨L,h1,y,N⟩:=hX i hi;exact⟨_,L,h1,akP i (by omega),fun z I=>(y z I).1,by omega⟩
 refine aa.pos (by rw[cd]; exact decide_eq_true (by omega)) ?_;refine aa.call (sO l p 12 p0 (by omega) (by omega) (by omega)) ?_;rintro _ ⟨f,rfl⟩;dsimp +instances only[Aa,Ab,Ac,Ad,Ae,Af,Ag];obtain⟨o,ho,q,Y,rfl,q0,M,hY,k⟩:=akQ (l:=l) (p:=p+1) (by omega) (by omega) m0 m1 d v f;refine aa.tail (P:=fun u g=>u=0/\g=[.l l,.i q,.l Y]) ⟨_,ho,0,rfl,rfl,rfl⟩ (by first|rfl|simp) ?_;rintro _ _ ⟨rfl,rfl⟩;dsimp +instances only[Aa,Ab,Ac,Ad,Ae,Af,Ag];exact aa.pos (by simp) (aa.some ⟨q,Y,m,rfl,q0,M,m0,m1,hY,k⟩)
theorem akS(l:List (List G))(a:Int)(ha:0<=a)(k:a<=900000):aa (CD [.l l,.i a]) fun g=>∃ v,g=[.l l,.i (a+1),.i v] /\ -1<=v/\v<=3600001:=by
 unfold CD;dsimp +instances only[Aa,Ab,Ac,Ad,Ae,Af,Ag];refine aa.call (pb (-1) 3600001 l a _ ha (by omega) (by kernel_rfl) (by kernel_rfl)) ?_;rintro _ ⟨v,rfl,d⟩;exact aa.some ⟨v,rfl,d⟩
def kA:ByteArray:=⟨#[107,49,97,98]⟩
def kW:ByteArray:=⟨#[119,49,97,119]⟩
structure KV (i:Nat) (s:List (List G) × List (List G)):Prop where
 ca:∀ z∈s.1,cU z
 cb:∀ z∈s.2,cU z
 na:s.1.length<=i
 nb:s.2.length<=i
theorem Wb{t:Int}(h0:0<=t)(h1:t<=1000){b c:ByteArray}(hb:b∈iV)(d:c∈calls):cU [.i t,.i 1,.s b,.s c,.i 0,.i 0,.s (⟨#[]⟩:ByteArray),.s (⟨#[]⟩:ByteArray)] :=
 ⟨t,1,b,c,0,0,_,_,rfl,⟨by omega,by omega⟩,⟨by decide,by decide⟩,⟨by decide,by decide⟩,⟨by decide,by decide⟩,hb,d,ji (by kernel_rfl),ji (by kernel_rfl)⟩
theorem Wc(l X:List (List G))(off:Int)(n:Nat)(I:n<=8):∀(r i:Nat),i+r=n->∀(a t:Int) (s:List (List G) × List (List G)),0<=a->a<=10000+3*i->0<=t->t<=20*i->KV i s ->
  aL sM [.l l,.i a,.s kA,.l s.1,.s kW,.l s.2,.l X,.i off,.i t,.i (n:Int),.i (i:Int)] (r+1)
   fun c g=>c=0/\∃ s',KV n s'/\g=[.s kA,.l s'.1,.s kW,.l s'.2,.l X,.i off]
 | 0,i,hi,a,t,s,_,_,_,_,k=>by
  have e:i=n:=by omega
  subst e;refine aL.stop (x:=0) (d':=[.s kA,.l s.1,.s kW,.l s.2,.l X,.i off]) (aa.toEq ?_) ⟨rfl,s,k,rfl⟩;unfold sM;dsimp +instances only[Aa,Ab,Ac,Ad,Ae,Af,Ag];exact aa.n (aa.pos (by simp) (aa.some rfl))
 | r+1,i,hi,a,t,s,a0,O,t0,t1,k=>by
  have step:aa (sM [.l l,.i a,.s kA,.l s.1,.s kW,.l s.2,.l X,.i off,.i t,.i (n:Int),.i (i:Int)]) fun o=>∃(t':Int) (s':List (List G) × List (List G)),0<=t'/\t'<=20*((i+1:Nat):Int)/\KV (i+1) s' /\
    o=(none,[.l l,.i (a+3),.s kA,.l s'.1,.s kW,.l s'.2,.l X,.i off,.i t',.i (n:Int),.i ((i:Int)+1)]):=by
   have h1:=k.na;have M:=k.nb;have N:a+1+1+1=a+3:=by omega
   unfold sM;dsimp +instances only[Aa,Ab,Ac,Ad,Ae,Af,Ag];refine aa.p ?_;refine aa.call (pb 5 20 l a _ a0 (by omega) (by kernel_rfl) (by kernel_rfl)) ?_;rintro _ ⟨v,rfl,v0,v1⟩;dsimp +instances only[Aa,Ab,Ac,Ad,Ae,Af,Ag];refine aa.pos (fg.2 ⟨by omega,by omega⟩) ?_;refine aa.call (j6 iV l (a+1) _ (by omega) (by omega) (by kernel_rfl) (by kernel_rfl)) ?_;rintro _ ⟨b,rfl,hb⟩;dsimp +instances only[Aa,Ab,Ac,Ad,Ae,Af,Ag];refine aa.call (sO l (a+1+1) 2 (by omega) (by omega) (by omega) (by omega)) ?_;rintro _ ⟨f,rfl⟩;dsimp +instances only[Aa,Ab,Ac,Ad,Ae,Af,Ag];rw[N];cases f with
   | true =>
    refine aa.pos rfl (aa.pos (by rw[fe,jm,decide_eq_true_eq]; omega) (aa.p (aa.pos (by simp) ?_)));refine aa.some ⟨t+v,(s.1++[[.i (t+v),.i 1,.s b,.s kW,.i 0,.i 0,.s (⟨#[]⟩:ByteArray),.s (⟨#[]⟩:ByteArray)]],s.2),by omega,by omega,⟨fun z d=>?_,k.cb,by simp; omega,Au M⟩,rfl⟩;rcases cw.1 d with d|d
    ·exact k.ca z d
    ·rw [iZ.1 d]
     exact Wb (by omega) (by omega) hb (ji (by kernel_rfl))
   | false =>
    refine aa.neg rfl (aa.pos (by rw[fe,jm,decide_eq_true_eq]; omega) (aa.p (aa.pos (by simp) ?_)));refine aa.some ⟨t+v,(s.1,s.2++[[.i (t+v),.i 1,.s b,.s kA,.i 0,.i 0,.s (⟨#[]⟩:ByteArray),.s (⟨#[]⟩:ByteArray)]]),by omega,by omega,⟨k.ca,fun z d=>?_,Au h1,by simp; omega⟩,rfl⟩;rcases cw.1 d with d|d
    ·exact k.cb z d
    ·rw [iZ.1 d]
     exact Wb (by omega) (by omega) hb (ji (by kernel_rfl))
  obtain⟨o,h,t',s',q,u,y,rfl⟩:=step;exact aL.next h (Wc l X off n I r (i+1) (by omega) (a+3) t' s' (by omega) (by omega) q u y)
theorem akT(rows:List (List G)):J2 [.l rows]=some [.t true]:=by
 refine aa.toEq ?_;unfold J2;dsimp +instances only[Aa,Ab,Ac,Ad,Ae,Af,Ag];refine aa.call (akR rows) ?_;rintro _ ⟨q,Y,m,rfl,q0,q1,m0,m1,hY,y⟩;dsimp +instances only[Aa,Ab,Ac,Ad,Ae,Af,Ag];have R:DW Y (fun i=>(gi (Y.getD i []) 0).str) (fun i=>(gi (Y.getD i []) 1).rows):=by
  refine⟨fun i hi=>?_,by omega,fun i hi z d=>?_,fun i hi=>?_,fun i hi=>?_⟩<;>obtain⟨c,L,g1,g2,g3,g4⟩:=y i (by omega)
  ·rw [g1]
   rfl
  ·rw [g1] at d
   exact g3 z d
  ·rw [g1]
   show L.length<=40
   omega
  ·rw [g1]
   exact g2
 refine aa.call (akS rows q q0 (by omega)) ?_;rintro _ ⟨off,rfl,o0,o1⟩;dsimp +instances only[Aa,Ab,Ac,Ad,Ae,Af,Ag];refine aa.call (TZ rows (q+1) (by omega) (by omega)) ?_;rintro _ ⟨c0,rfl,W⟩;dsimp +instances only[Aa,Ab,Ac,Ad,Ae,Af,Ag];refine aa.pos (by rw[cd]; exact decide_eq_true (by omega)) ?_;refine aa.call (o_ rows (q+1+2) (Y.length:Int) (by omega) (by omega) (by omega) (by omega)) ?_;rintro _ ⟨v,rfl,v0,v1⟩;dsimp +instances only[Aa,Ab,Ac,Ad,Ae,Af,Ag];refine aa.p ?_;refine aa.call (o_ rows (q+1+2+1) (Y.length:Int) (by omega) (by omega) (by omega) (by omega)) ?_;rintro _ ⟨w,rfl,w0,w1⟩;dsimp +instances only[Aa,Ab,Ac,Ad,Ae,Af,Ag];refine aa.p ?_;refine aa.call (sO rows (q+1+2+1+1) 3 (by omega) (by omega) (by omega) (by omega)) ?_;rintro _ ⟨f,rfl⟩;dsimp +instances only[Aa,Ab,Ac,Ad,Ae,Af,Ag];cases f with
 | true =>
  refine aa.pos rfl ?_;refine aa.call (Dn rows (q+1+2+1+1+1) 1 8 (by omega) (by omega) (by omega) (by omega) (by omega)) ?_;rintro _ ⟨n,rfl,n0,n1⟩;dsimp +instances only[Aa,Ab,Ac,Ad,Ae,Af,Ag];obtain⟨n,rfl⟩:=Ei (show 0<=n by omega);have hr:=Wc rows Y off n (by omega) n 0 (by omega) (q+1+2+1+1+1+1) 0 ([],[]) (by omega) (by omega) (by omega) (by omega) ⟨fun z d=>(nr d).elim,fun z d=>(nr d).elim,dX _,dX _⟩;refine aa.loop (hr.to (by omega)) rfl ?_;rintro c g ⟨rfl,s,k,rfl⟩;dsimp +instances only[Aa,Ab,Ac,Ad,Ae,Af,Ag];have h1:=k.na;have h2:=k.nb;have I:=V_ (a:=kA) (b:=kW) (ji (by kernel_rfl)) (ji (by kernel_rfl)) k.ca k.cb (by omega) (by omega) R off;refine aa.tail (P:=fun u g=>u=0/\g=[.t true]) ⟨_,I,0,rfl,rfl,rfl⟩ (by simp) ?_;rintro _ _ ⟨rfl,rfl⟩;exact aa.some rfl
 | false =>
  refine aa.neg rfl ?_;have M:v.toNat<m:=by omega
  have hw:w.toNat<m:=by omega
  obtain⟨c,L,g1,g2,g3,g4⟩:=y v.toNat M;obtain⟨N,L',O,U,V,k4⟩:=y w.toNat hw;simp only[g1,O];dsimp +instances only[Aa,Ab,Ac,Ad,Ae,Af,Ag];have I:=V_ (a:=c) (b:=N) g2 U g3 V (by omega) (by omega) R off;refine aa.tail (P:=fun u g=>u=0/\g=[.t true]) ⟨_,I,0,rfl,rfl,rfl⟩ (by first|rfl|simp) ?_;rintro _ _ ⟨rfl,rfl⟩;exact aa.some rfl
end
end Go.Proofs.iy
