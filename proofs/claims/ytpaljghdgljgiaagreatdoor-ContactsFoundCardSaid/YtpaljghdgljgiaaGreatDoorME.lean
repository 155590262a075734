/-
 What is proved here: rules by which lifted functions are shown to give what they should. No program in sight; no condition.
-/
import Derived.Test.YtpaljghdgljgiaaGreatDoorMD
import Derived.Test.YtpaljghdgljgiaaGreatDoorMH
set_option linter.all false
open Bool renaming and_true->gW,and_eq_true->aL,eq_iff_iff->mM
open List renaming length_cons->cd,getElem?_eq_getElem->bY,getD_eq_getElem?_getD->cu,mem_cons->cq,length_append->fX,mem_append->c_,replicate->cC,mem_cons_self->cW,mem_cons_of_mem->dj,drop_eq_nil_of_le->JV,length_replicate->sK,length_nil->j_,pairwise_cons->sR
open List.Pairwise renaming imp_of_mem->ak'
open List.Perm renaming refl->xY
open Nat renaming le_refl->aQ,beq->ar
namespace Go.AL
open Go
variable [Dr]
def aa{β:Type}(x:Option β)(Q:β->Prop):Prop:=∃ r,x=some r/\Q r
def gQ(st:LG->Option (Option Nat × LG))(d:LG)(Q:Nat->LG->Prop):Prop:=∃ n x g,kZ st n d x g/\n<=1000000/\Q x g
namespace aa
variable {β:Type} {Q:β->Prop}
theorem some{r:β}(h:Q r):aa (some r) Q:=⟨r,rfl,h⟩
theorem pos{b:Bool}{x y:Option β}(h:b=true)(d:aa x Q):aa (bif b then x else y) Q:=by subst h; exact d
theorem neg{b:Bool}{x y:Option β}(h:b=false)(d:aa y Q):aa (bif b then x else y) Q:=by subst h; exact d
theorem test{b:Bool}{x y:Option β}(d:b=true->aa x Q)(g:b=false->aa y Q):aa (bif b then x else y) Q:=by
 cases b with
 |true=>exact d rfl
 |false=>exact g rfl
theorem call{t:Option LG}{k:LG->Option β}{P:LG->Prop}(h:aa t P)(d:∀ g,P g->aa (k g) Q):aa (aG t k) Q:=by
 obtain⟨r,h,q⟩:=h;subst h;exact d r q
theorem pc{c:Bool}{t:Option LG}{k:LG->Option β}{P:LG->Prop}(h:aa t P)(d:c=true)(q:∀ g,P g->aa (k g) Q):aa (mz (c&&t.isSome) t k) Q:=by
 obtain⟨r,h,v⟩:=h;subst h d;exact q r v
theorem loop{c:Bool}{st:LG->Option (Option Nat × LG)}{d:LG}{k:Nat->LG->Option β}{P:Nat->LG->Prop}(h:gQ st d P)(q:c=true)(v:∀ x g,P x g->aa (k x g) Q):aa (bh c (cn st d) k) Q:=by
 obtain⟨n,x,y,h,I,M⟩:=h;rw[h.Yr I];subst q;exact v x y M
theorem tail{c:Bool}{t:Option (Option Nat × LG)}{k:Nat->LG->Option β}{P:Nat->LG->Prop}(h:aa t fun o=>∃ x,o.1=Option.some x/\P x o.2)(v:c=true)(y:∀ x g,P x g->aa (k x g) Q) :
  aa (bh c (dC t) k) Q:=by
 obtain⟨⟨o,d⟩,rfl,x,q,I⟩:=h;simp only at q;subst q v;exact y x d I
theorem mono{x:Option β}{P:β->Prop}(h:aa x P)(d:∀ r,P r->Q r):aa x Q:=by
 obtain⟨r,h,g⟩:=h;exact⟨r,h,d r g⟩
theorem eq{x:Option β}{r:β}(h:x=Option.some r):aa x (fun g=>g=r):=⟨r,h,rfl⟩
theorem toEq{x:Option β}{r:β}(h:aa x (fun g=>g=r)):x=Option.some r:=by
 obtain⟨d,h,rfl⟩:=h;exact h
end aa
theorem gQ.stop{st:LG->Option (Option Nat × LG)}{d d':LG}{x:Nat}{Q:Nat->LG->Prop}(h:st d=some (some x,d'))(g:Q x d'):gQ st d Q:=⟨1,x,d',.stop h,by omega,g⟩
def aX(st:LG->Option (Option Nat × LG))(d:LG)(m:Nat)(Q:Nat->LG->Prop):Prop:=∃ n x g,kZ st n d x g/\n<=m/\Q x g
theorem aX.stop{st:LG->Option (Option Nat × LG)}{d d':LG}{x m:Nat}{Q:Nat->LG->Prop}(h:st d=some (some x,d'))(g:Q x d'):aX st d (m+1) Q:=⟨1,x,d',.stop h,by omega,g⟩
theorem aX.next{st:LG->Option (Option Nat × LG)}{d d1:LG}{m:Nat}{Q:Nat->LG->Prop}(h:st d=some (none,d1))(g:aX st d1 m Q):aX st d (m+1) Q:=by
 obtain⟨n,x,k,h1,v,q⟩:=g;exact⟨n+1,x,k,.next h h1,by omega,q⟩
theorem aX.to{st:LG->Option (Option Nat × LG)}{d:LG}{m:Nat}{Q:Nat->LG->Prop}(h:aX st d m Q)(hm:m<=1000000):gQ st d Q:=by
 obtain⟨n,x,g,h1,q,k⟩:=h;exact⟨n,x,g,h1,by omega,k⟩
theorem gQ.mono{st:LG->Option (Option Nat × LG)}{d:LG}{P Q:Nat->LG->Prop}(h:gQ st d P)(k:∀ x g,P x g->Q x g):gQ st d Q:=by
 obtain⟨n,x,q,h1,v,y⟩:=h;exact⟨n,x,q,h1,v,k _ _ y⟩
theorem aX.mono{st:LG->Option (Option Nat × LG)}{d:LG}{m:Nat}{P Q:Nat->LG->Prop}(h:aX st d m P)(k:∀ x g,P x g->Q x g):aX st d m Q:=by
 obtain⟨n,x,q,h1,v,y⟩:=h;exact⟨n,x,q,h1,v,k _ _ y⟩
theorem Ze{p:Prop}{i:Decidable p}:(@decide p i=true)↔p:=by simp
theorem Zf{p:Prop}{i:Decidable p}:(@decide p i=false)↔¬ p:=by simp
theorem Zg{a b:Nat}:ar a b=true↔a=b:=⟨Nat.eq_of_beq_eq_true,fun h=>h▸Nat.beq_refl a⟩
theorem Aa(a:G)(l:LG):gi (a::l) 0=a:=rfl
theorem Ab(a:G)(l:LG)(i:Nat):gi (a::l) (i+1)=gi l i:=rfl
theorem Ac(r:LG)(l:LL):(G.l (r::l)).rV=r:=rfl
theorem Ad(l:LL):(G.l l).rZ=l:=rfl
theorem Ae(n:Int):(G.i n).iV=n:=rfl
theorem Af(s:BY):(G.s s).sV=s:=rfl
theorem Ag(b:Bool):(G.t b).bV=b:=rfl
theorem sl:(∀ a b:Int,ax a b=decide (a<b))/\(∀ a b:Int,bC a b=decide (a<=b))/\(∀ n:Int,aM n=decide (0<=n))/\(∀ b:Bool,(b&&true)=b)/\(∀ b:Bool,(true&&b)=b) /\
  (∀ a b:Bool,((a&&b)=true)=(a=true/\b=true))/\(∀ a b:Bool,((a&&b)=false)=(a=false\/b=false))/\(∀(p:Prop) (i:Decidable p),(@decide p i=true)=p)/\(∀(p:Prop) (i:Decidable p),(@decide p i=false)=¬ p) /\
  (∀ b:Bool,((!b)=true)=(b=false))/\(∀ b:Bool,((!b)=false)=(b=true))/\(∀ a b:Int,((a==b)=true)=(a=b))/\(∀ a b:Int,((a==b)=false)=¬ (a=b))/\(∀ a b:Int,((a != b)=true)=¬ (a=b))/\(∀ a b:Int,((a != b)=false)=(a=b)) /\
  (∀(α:Type) (a b:α),(a≠b)=¬ (a=b))/\(∀ a b:Nat,(ar a b=true)=(a=b))/\(∀ a b:Nat,(Nat.ble a b=true)=(a<=b))/\(∀ a b:Nat,(Nat.blt a b=true)=(a<b)) /\
  (∀(l:LL) (i:Nat) (x:LG),(l.set i x).length=l.length)/\(∀(α:Type) (l r:List α),(l++r).length=l.length+r.length)/\(∀(n:Nat) (x:LG),(cC n x).length=n) /\
  (∀(α:Type) (x:α) (l:List α),(x::l).length=l.length+1)/\(∀ α:Type,([]:List α).length=0)/\(∀(l:LL) (n:Nat),(l.take n).length=min n l.length)/\(∀(l:LL) (n:Nat),(l.drop n).length=l.length-n) /\
  (∀ n:Nat,((n:Int)).toNat=n)/\(∀ p:Prop,(True/\p)=p)/\(∀ p:Prop,(p/\True)=p)/\(∀ a b:Bool,((a==b)=true)=(a=b)) :=
 ⟨cB, eY, jm, gW, Bool.true_and, aL, fun a b => by cases a <;> cases b <;> simp, fun _ _ => propext Ze, fun _ _ => propext Zf, fun b => by cases b <;> simp, fun b => by cases b <;> simp,
  fun a b=>by simp,fun a b=>by simp,fun a b=>by simp,fun a b=>by simp,fun _ a b=>rfl,fun a b=>propext Zg,fun a b=>by simp,fun a b=>by simp,fun l i x=>List.length_set,fun _ l r=>fX,fun n x=>sK,
  fun _ x l=>rfl,fun _=>rfl,fun l n=>List.length_take,fun l n=>List.length_drop,fun n=>Int.toNat_natCast n,fun p=>true_and p,fun p=>and_true p,fun a b=>by cases a<;>cases b<;>simp⟩
theorem aa.p{β:Type}{Q:β->Prop}{b:Bool}{x y:Option β}(d:aa x Q)(h:b=true:=by first|rfl|assumption|(simp only[aB,sl]<;>omega)):aa (bif b then x else y) Q:=aa.pos h d
theorem aa.n{β:Type}{Q:β->Prop}{b:Bool}{x y:Option β}(d:aa y Q)(h:b=false:=by first|rfl|assumption|(simp only[aB,sl]<;>omega)):aa (bif b then x else y) Q:=aa.neg h d
theorem aa.cE{β:Type}{Q:β->Prop}{t:Option LG}{r:LG}{k:LG->Option β}(h:t=Option.some r)(d:aa (k r) Q):aa (aG t k) Q:=aa.call (aa.eq h) fun _ e=>by subst e; exact d

end Go.AL

namespace Go.AL
open Go
variable [Dr]
theorem Of{v:Type}{st:LG->Option (Option Nat × LG)}(mk:v->Nat->LG)(n:Nat)(d:v->Nat × LG)(I:v->Nat->Prop)(E:Nat->LG->Prop)
  (y:∀ s i,I s i->i<n->aa (st (mk s i)) fun o=>(∃ s',o=(none,mk s' (i+1))/\I s' (i+1))\/∃ c g,o=(some c,g)/\E c g)
  (M:∀ s,I s n->aa (st (mk s n)) fun o=>o=(some (d s).1,(d s).2)) :
  ∀(k:Nat) (s:v) (i:Nat),i+k=n->I s i->aX st (mk s i) (k+1) fun c g=>(∃ s',I s' n/\c=(d s').1/\g=(d s').2)\/E c g
 | 0,s,i,hi,q=>by
  have e:i=n:=hi;subst e;obtain⟨o,h,rfl⟩:=M s q;exact aX.stop h (.inl ⟨s,q,rfl,rfl⟩)
 | k+1,s,i,hi,q=>by
  obtain⟨o,h,⟨s',rfl,N⟩|⟨c,g,rfl,O⟩⟩:=y s i q (by omega)
  ·exact aX.next h (Of mk n d I E y M k s' (i+1) (by omega) N)
  ·exact aX.stop h (.inr O)
theorem Zh{rZ:LL}{i:Nat}(h:i<rZ.length):rZ.getD i []∈rZ:=by
 rw[cu,bY h];exact List.getElem_mem h
theorem Zi{rZ:LL}{i:Nat}(h:i<rZ.length):rZ.take (i+1)=rZ.take i++[rZ.getD i []]:=by
 rw[List.take_add_one,cu,bY h];rfl
theorem Zj{h:Type}{st:LG->Option (Option Nat × LG)}(mk:h->Nat->LG)(rZ:LL)(d:h->Nat × LG)(I:h->Nat->Prop)(E:Nat->LG->Prop)(s:h)
  (y:rZ.length<999999) (h0:I s 0)
  (k:∀ s i x,I s i->i<rZ.length->rZ.getD i []=x->x∈rZ->rZ.take (i+1)=rZ.take i++[x]->aa (st (mk s i)) fun o=>(∃ s',o=(none,mk s' (i+1))/\I s' (i+1))\/∃ c g,o=(some c,g)/\E c g)
  (q:∀ s,I s rZ.length->aa (st (mk s rZ.length)) fun o=>o=(some (d s).1,(d s).2)) :
  gQ st (mk s 0) fun c g=>(∃ s',I s' rZ.length/\c=(d s').1/\g=(d s').2)\/E c g :=
 (Of mk rZ.length d I E (fun s i v hi=>k s i _ v hi rfl (Zh hi) (Zi hi)) q rZ.length s 0 (by omega) h0).to (by omega)
theorem pd{σ:Type}{st:LG->Option (Option Nat × LG)}(mk:σ->Nat->LG)(rZ:LL)(k:σ->Nat × LG)(I:σ->Nat->Prop)(s:σ)
  (v:rZ.length<999999) (h0:I s 0)
  (q:∀ s i x,I s i->i<rZ.length->rZ.getD i []=x->x∈rZ->rZ.take (i+1)=rZ.take i++[x]->aa (st (mk s i)) fun o=>∃ s',o=(none,mk s' (i+1))/\I s' (i+1))
  (y:∀ s,I s rZ.length->aa (st (mk s rZ.length)) fun o=>o=(some (k s).1,(k s).2)) :
  gQ st (mk s 0) fun c g=>∃ s',I s' rZ.length/\c=(k s').1/\g=(k s').2 :=
 (Zj mk rZ k I (fun _ _=>False) s v h0 (fun s i x a b c d e=>(q s i x a b c d e).mono fun _ h=>.inl h) y).mono fun _ _ h=>h.elim id False.elim
end Go.AL

namespace Go.AL
open Go
variable [Dr]
theorem Ia{α:Type}[BEq α][LawfulBEq α](a b:α):(a==b)=(b==a):=by
 rw[mM];simp only[beq_iff_eq];exact eq_comm
theorem Zk{k:Kd}{a b:G}:qW k a b=qW k b a:=by
 cases k
 ·exact Ia _ _
 ·exact Ia _ _
 ·exact Ia _ _
 ·rfl
theorem Zl{k:Kd}{a b c:G}(h1:qW k a b=true)(d:qW k b c=true):qW k a c=true:=by
 cases k<;>simp only[qW,beq_iff_eq]at *<;>first|exact h1.trans d|cases h1
theorem qn:∀{K:List Kd} {a b:LG},bq K a b=bq K b a
 | [],_,_=>rfl
 |k::K,a,b=>by simp only[bq,Zk (a:=a.headD default),qn (K:=K) (a:=a.tail)]
theorem wu:∀{K:List Kd} {a b c:LG},bq K a b=true->bq K b c=true->bq K a c=true
 | [],_,_,_,_,_=>rfl
 | k::K,a,b,c,h1,d=>by
  simp only[bq,aL]at *;exact⟨Zl h1.1 d.1,wu h1.2 d.2⟩
theorem Zm{K:List Kd}{a b c:LG}(h:bq K a b=true):bq K a c=bq K b c:=by
 rw[mM];constructor
 ·exact fun d=>wu (by rw[qn]; exact h) d
 ·exact fun d=>wu h d
theorem wv{K:List Kd}{a b c:LG}(h:bq K a b=true):bq K c a=bq K c b:=by
 rw[qn,Zm h,qn]
theorem qo(ks:List Kd)(key:LG):∀(rZ:LL) (i:Nat),bU ks key rZ i=(bU ks key rZ 0).map fun p=>(p.1+i,p.2)
 | [],i=>rfl
 | r::rs,i=>by
  simp only[bU];cases bq ks key (gi r 0).rV with
  |true=>simp
  | false =>
   simp only[cF];rw[qo ks key rs (i+1),qo ks key rs (0+1),Option.map_map];congr 1
   funext p
   simp;omega
theorem Zn(ks:List Kd)(key z:LG):dn ks [] key z=z:=rfl
theorem Df(ks:List Kd)(r:LG)(rs:LL)(key z:LG):dn ks (r::rs) key z=bif bq ks key (gi r 0).rV then (gi r 1).rV else dn ks rs key z:=by
 unfold dn;simp only[bU];cases bq ks key (gi r 0).rV with
 |true=>rfl
 | false =>
  simp only[cF];rw[qo ks key rs (0+1)];cases bU ks key rs 0<;>rfl
theorem Og(ks:List Kd)(key:LG):eH ks [] key=false:=rfl
theorem Dg(ks:List Kd)(r:LG)(rs:LL)(key:LG):eH ks (r::rs) key=(bq ks key (gi r 0).rV||eH ks rs key):=by
 unfold eH;simp only[bU];cases bq ks key (gi r 0).rV with
 |true=>rfl
 | false =>
  simp only[cF];rw[qo ks key rs (0+1)];cases bU ks key rs 0<;>rfl
theorem Oh(ks:List Kd)(key val:LG)(c:Nat):ew ks [] key val c=[[.l [key],.l [val],.i c]]:=rfl
theorem Oi(ks:List Kd)(r:LG)(rs:LL)(key val:LG)(c:Nat) :
  ew ks (r::rs) key val c=bif bq ks key (gi r 0).rV then [.l [key],.l [val],.i (gi r 2).iV]::rs else r::ew ks rs key val c:=by
 unfold ew;simp only[bU];cases bq ks key (gi r 0).rV with
 |true=>rfl
 | false =>
  simp only[cF];rw[qo ks key rs (0+1)];cases bU ks key rs 0<;>rfl
theorem zM(ks:List Kd)(k v key z:LG)(c:Nat):∀ rZ:LL,dn ks (ew ks rZ k v c) key z=bif bq ks key k then v else dn ks rZ key z
 | []=>by simp only[Oh,Df,Zn]; rfl
 | r::rs=>by
  rw[Oi,Df];cases h:bq ks k (gi r 0).rV with
  | true =>
   simp only[cT,Df];have e:bq ks key (gi r 0).rV=bq ks key k:=(wv h).symm;rw[e];cases d:bq ks key k with
   |true=>simp only[Aa,Ac,d,cT]; rfl
   |false=>simp only[Aa,Ac,d,cF]
  | false =>
   simp only[cF,Df,zM ks k v key z c rs];cases d:bq ks key (gi r 0).rV with
   |false=>rfl
   | true =>
    cases g:bq ks key k with
    |false=>rfl
    | true =>
     have:bq ks k (gi r 0).rV=true:=wu (by rw[qn]; exact g) d;rw[this]at h;cases h
theorem Ib(ks:List Kd)(k v key:LG)(c:Nat):∀ rZ:LL,eH ks (ew ks rZ k v c) key=(bq ks key k||eH ks rZ key)
 | []=>by simp only[Oh,Dg,Og]; rfl
 | r::rs=>by
  rw[Oi,Dg];cases h:bq ks k (gi r 0).rV with
  | true =>
   simp only[cT,Dg];have e:bq ks key (gi r 0).rV=bq ks key k:=(wv h).symm;rw[e];simp only[Aa,Ac];cases bq ks key k<;>simp
  | false =>
   simp only[cF,Dg,Ib ks k v key c rs];cases bq ks key (gi r 0).rV<;>simp
end Go.AL

namespace Go.AL
open Go
variable [Dr]
def zN(K:List Kd)(C:LG->Option LG)(d:LG):Option (Option Nat × LG) :=
 (bif (ax (gi d 1).iV (gi d 4).iV) then (bif ((aM (gi d 4).iV)&&(ax (gi d 4).iV (((gi d 0).rZ.length:Nat):Int))) then (bif (decide ((0+((gi d 4).iV).toNat)<(gi d 0).rZ.length)) then (bif (aB ((gi d 4).iV-1)) then (bif ((aM ((gi d 4).iV-1))&&(ax ((gi d 4).iV-1) (((gi d 0).rZ.length:Nat):Int))) then (bif (decide ((0+((gi d 4).iV-1).toNat)<(gi d 0).rZ.length)) then (aG (C [.l [(a8 K ((gi d 0).rZ.getD (0+((gi d 4).iV).toNat) []))],.l [(a8 K ((gi d 0).rZ.getD (0+((gi d 4).iV-1).toNat) []))]]) fun g=>(bif (ax (gi g 0).iV 0) then (bif (aB ((gi d 4).iV-1)) then (bif (aB ((gi d 4).iV-1)) then (bif ((aM ((gi d 4).iV-1))&&(ax ((gi d 4).iV-1) (((gi d 0).rZ.length:Nat):Int))) then (bif (decide ((0+((gi d 4).iV-1).toNat)<(gi d 0).rZ.length)) then (bif ((aM (gi d 4).iV)&&(ax (gi d 4).iV (((gi d 0).rZ.length:Nat):Int))) then (bif (decide ((0+((gi d 4).iV).toNat)<(gi d 0).rZ.length)) then (bif ((aM (gi d 4).iV)&&(ax (gi d 4).iV (((gi d 0).rZ.length:Nat):Int))) then (bif (decide ((0+((gi d 4).iV).toNat)<(gi d 0).rZ.length)) then (bif ((aM ((gi d 4).iV-1))&&(ax ((gi d 4).iV-1) (((gi d 0).rZ.length:Nat):Int))) then (bif (decide ((0+((gi d 4).iV-1).toNat)<((gi d 0).rZ.set (0+((gi d 4).iV).toNat) (eo K ((gi d 0).rZ.getD (0+((gi d 4).iV).toNat) []) 0 (a8 K ((gi d 0).rZ.getD (0+((gi d 4).iV-1).toNat) [])))).length)) then (bif (aB ((gi d 4).iV-1)) then (bif ((ar (gi d 0).rZ.length (((gi d 0).rZ.set (0+((gi d 4).iV).toNat) (eo K ((gi d 0).rZ.getD (0+((gi d 4).iV).toNat) []) 0 (a8 K ((gi d 0).rZ.getD (0+((gi d 4).iV-1).toNat) [])))).set (0+((gi d 4).iV-1).toNat) (eo K (((gi d 0).rZ.set (0+((gi d 4).iV).toNat) (eo K ((gi d 0).rZ.getD (0+((gi d 4).iV).toNat) []) 0 (a8 K ((gi d 0).rZ.getD (0+((gi d 4).iV-1).toNat) [])))).getD (0+((gi d 4).iV-1).toNat) []) 0 (a8 K ((gi d 0).rZ.getD (0+((gi d 4).iV).toNat) [])))).length)&&true) then some (none,[.l (((gi d 0).rZ.set (0+((gi d 4).iV).toNat) (eo K ((gi d 0).rZ.getD (0+((gi d 4).iV).toNat) []) 0 (a8 K ((gi d 0).rZ.getD (0+((gi d 4).iV-1).toNat) [])))).set (0+((gi d 4).iV-1).toNat) (eo K (((gi d 0).rZ.set (0+((gi d 4).iV).toNat) (eo K ((gi d 0).rZ.getD (0+((gi d 4).iV).toNat) []) 0 (a8 K ((gi d 0).rZ.getD (0+((gi d 4).iV-1).toNat) [])))).getD (0+((gi d 4).iV-1).toNat) []) 0 (a8 K ((gi d 0).rZ.getD (0+((gi d 4).iV).toNat) [])))),.i (gi d 1).iV,.i (gi d 2).iV,.i (gi d 3).iV,.i ((gi d 4).iV-1)]) else none) else none) else none) else none) else none) else none) else none) else none) else none) else none) else none) else none) else (bif ((ar (gi d 0).rZ.length (gi d 0).rZ.length)&&true) then some (some 0,[.l (gi d 0).rZ,.i (gi d 1).iV,.i (gi d 2).iV,.i (gi d 3).iV]) else none))) else none) else none) else none) else none) else none) else (bif ((ar (gi d 0).rZ.length (gi d 0).rZ.length)&&true) then some (some 0,[.l (gi d 0).rZ,.i (gi d 1).iV,.i (gi d 2).iV,.i (gi d 3).iV]) else none))
def wx(K:List Kd)(C:LG->Option LG)(d:LG):Option (Option Nat × LG) :=
 (bif (ax (gi d 3).iV (gi d 2).iV) then (bh ((ar (gi d 0).rZ.length (gi d 0).rZ.length)&&true) (cn (zN K C) [.l (gi d 0).rZ,.i (gi d 1).iV,.i (gi d 2).iV,.i (gi d 3).iV,.i (gi d 3).iV]) fun h g=>(bif (aB ((gi g 3).iV+1)) then (bif ((ar (gi g 0).rZ.length (gi g 0).rZ.length)&&true) then some (none,[.l (gi g 0).rZ,.i (gi g 1).iV,.i (gi g 2).iV,.i ((gi g 3).iV+1)]) else none) else none)) else some (some 0,[.l (gi d 0).rZ]))
def pe(K:List Kd)(C:LG->Option LG)(d:LG):Option LG :=
 (bif (aB ((gi d 1).iV+1)) then (bh ((ar (gi d 0).rZ.length (gi d 0).rZ.length)&&true) (cn (wx K C) [.l (gi d 0).rZ,.i (gi d 1).iV,.i (gi d 2).iV,.i ((gi d 1).iV+1)]) fun h g=>some [.l (gi g 0).rZ]) else none)
def tX(K:List Kd)(C:LG->Option LG)(d:LG):Option (Option Nat × LG) :=
 (bif (bC (gi d 4).iV (gi d 1).iV) then (mz (((ar (gi d 0).rZ.length (gi d 0).rZ.length)&&true)&&((pe K C) [.l (gi d 0).rZ,.i (gi d 3).iV,.i (gi d 4).iV]).isSome) ((pe K C) [.l (gi d 0).rZ,.i (gi d 3).iV,.i (gi d 4).iV]) fun g=>(bif (aB ((gi d 4).iV+(gi d 2).iV)) then (bif ((ar (gi d 0).rZ.length (gi g 0).rZ.length)&&true) then some (none,[.l (gi g 0).rZ,.i (gi d 1).iV,.i (gi d 2).iV,.i (gi d 4).iV,.i ((gi d 4).iV+(gi d 2).iV)]) else none) else none)) else (bif ((ar (gi d 0).rZ.length (gi d 0).rZ.length)&&true) then some (some 0,[.l (gi d 0).rZ,.i (gi d 1).iV,.i (gi d 2).iV,.i (gi d 3).iV]) else none))
def Zo(K:List Kd)(C:LG->Option LG)(d:LG):Option (Option Nat × LG) :=
 (bif (bC (gi d 4).iV (gi d 1).iV) then (bif (aB ((gi d 3).iV+(gi d 2).iV)) then none else none) else (bif ((ar (gi d 0).rZ.length (gi d 0).rZ.length)&&true) then some (some 0,[.l (gi d 0).rZ,.i (gi d 1).iV,.i (gi d 2).iV,.i (gi d 3).iV]) else none))
def Ic(K:List Kd)(C:LG->Option LG)(d:LG):Option (Option Nat × LG) :=
 (bif (ax (gi d 2).iV (gi d 1).iV) then (bif (aB (2*(gi d 2).iV)) then (bh ((ar (gi d 0).rZ.length (gi d 0).rZ.length)&&true) (cn (Zo K C) [.l (gi d 0).rZ,.i (gi d 1).iV,.i (gi d 2).iV,.i 0,.i (2*(gi d 2).iV)]) fun h g=>(bif (aB ((gi g 3).iV+(gi g 2).iV)) then (bif (ax ((gi g 3).iV+(gi g 2).iV) (gi g 1).iV) then none else (bif (aB ((gi g 2).iV*2)) then (bif ((ar (gi g 0).rZ.length (gi g 0).rZ.length)&&true) then some (none,[.l (gi g 0).rZ,.i (gi g 1).iV,.i ((gi g 2).iV*2)]) else none) else none)) else none)) else none) else some (some 0,[.l (gi d 0).rZ]))
def Dh(K:List Kd)(C:LG->Option LG)(d:LG):Option LG :=
 (bh ((ar (gi d 0).rZ.length (gi d 0).rZ.length)&&true) (cn (tX K C) [.l (gi d 0).rZ,.i (gi d 1).iV,.i 20,.i 0,.i 20]) fun q g=>(mz (((ar (gi g 0).rZ.length (gi g 0).rZ.length)&&true)&&((pe K C) [.l (gi g 0).rZ,.i (gi g 3).iV,.i (gi g 1).iV]).isSome) ((pe K C) [.l (gi g 0).rZ,.i (gi g 3).iV,.i (gi g 1).iV]) fun h=>(bh ((ar (gi g 0).rZ.length (gi h 0).rZ.length)&&true) (cn (Ic K C) [.l (gi h 0).rZ,.i (gi g 1).iV,.i (gi g 2).iV]) fun v k=>some [.l (gi k 0).rZ])))
def Oj(K:List Kd)(C:LG->Option LG)(d:LG):Option LG :=
 (mz (((ar (gi d 0).rZ.length (gi d 0).rZ.length)&&true)&&((Dh K C) [.l (gi d 0).rZ,.i (((gi d 0).rZ.length:Nat):Int)]).isSome) ((Dh K C) [.l (gi d 0).rZ,.i (((gi d 0).rZ.length:Nat):Int)]) fun g=>some [.l (gi g 0).rZ])
theorem np{α:Type}(l:List α)(x:α)(q:List α)(z:α)(n:Nat)(h:n=l.length):(l++x::q).getD n z=x:=by subst h; simp
theorem Ol{α:Type}(l:List α)(x y:α)(q:List α)(n:Nat)(h:n=l.length):(l++x::q).set n y=l++y::q:=by subst h; simp
def jo{α:Type}(lt:α->α->Bool)(x:α):List α->List α
 | []=>[x]
 |y::p=>bif lt x y then y::jo lt x p else x::y::p
def lM{α:Type}(lt:α->α->Bool):List α->List α->List α
 |p,[]=>p
 |p,x::r=>lM lt (jo lt x p) r
def eI{α:Type}(lt:α->α->Bool)(l:List α):List α:=(lM lt [] l).reverse
theorem Di{α:Type}(lt:α->α->Bool)(x:α):∀ p,(jo lt x p).length=p.length+1
 | []=>rfl
 | y::p=>by
  simp only[jo];cases lt x y with
  |true=>simp[Di lt x p]
  |false=>simp
theorem Ie{α:Type}{Q:α->Prop}{lt:α->α->Bool}{x:α}(g:Q x):∀{p:List α},(∀ y∈p,Q y)->∀ y∈jo lt x p,Q y
 | [],_,y,d=>by simp[jo]at d; exact d▸g
 | z::p,h,y,d=>by
  simp only[jo]at d;cases k:lt x z with
  | true =>
   rw[k]at d;rcases cq.1 d with rfl|d
   ·exact h _ cW
   ·exact Ie g (fun y d=>h y (dj _ d)) y d
  | false =>
   rw[k]at d;rcases cq.1 d with rfl|d
   ·exact g
   ·exact h y d
theorem Om{α:Type}(lt:α->α->Bool):∀(p r:List α),(lM lt p r).length=p.length+r.length
 |p,[]=>rfl
 |p,x::r=>by simp only[lM,Om lt,Di,cd]; omega
theorem On{α:Type}{Q:α->Prop}{lt:α->α->Bool}:∀{r p:List α},(∀ y∈p,Q y)->(∀ y∈r,Q y)->∀ y∈lM lt p r,Q y
 | [],_,d,_=>d
 | x::r,p,d,g=>by
  simp only[lM];exact On (Ie (g x cW) d) fun y h=>g y (dj _ h)
theorem Dj{α:Type}(lt:α->α->Bool)(l:List α):(eI lt l).length=l.length:=by simp[eI,Om]
theorem Zp{α:Type}{Q:α->Prop}{lt:α->α->Bool}{l:List α}(h:∀ y∈l,Q y):∀ y∈eI lt l,Q y:=by
 intro y d;exact On (p:=[]) (by simp) h y (by simpa[eI]using d)
theorem Dk:∀(K:List Kd) (r:LG),(a8 K r).length=K.length
 | [],_=>rfl
 |k::K,r=>by simp[a8,Dk K]
theorem Dl{K:List Kd}{r d:LG}(h:d.length=K.length):eo K r 0 d=d:=by
 simp[eo,h,GM,JV]
section
variable {K:List Kd} {C:LG->Option LG} {Q:LG->Prop} {c:LG->LG->Int}
structure wy (K:List Kd) (C:LG->Option LG) (Q:LG->Prop) (c:LG->LG->Int):Prop where
 cmp:∀ r s,Q r->Q s->C [.l [r],.l [s]]=some [.i (c r s)]
 eta:∀ r,Q r->a8 K r=r
def cN(c:LG->LG->Int)(r s:LG):Bool:=ax (c r s) 0
theorem Oo(hC:wy K C Q c):∀(p q:LL) (x:LG) (b i:Int) (j:Nat),(∀ y∈p,Q y)->Q x->p.length<1000000->j=p.length ->
  ∃ m,m<=p.length+1/\kZ (zN K C) m [.l (p.reverse++x::q),.i 0,.i b,.i i,.i (j:Int)] 0 [.l ((jo (cN c) x p).reverse++q),.i 0,.i b,.i i]
 | [],q,x,b,i,j,_,_,_,d=>by
  simp only[j_]at d;subst d;refine⟨1,by simp,.stop (aa.toEq ?_)⟩;unfold zN;dsimp +instances only[Aa,Ab,Ac,Ad,Ae,Af,Ag];refine aa.n (aa.p (aa.some ?_));rfl
 | y::p,q,x,b,i,j,M,g,hl,d=>by
  have k:=M y cW;have N:(y::p).reverse++x::q=(p.reverse++[y])++x::q:=by simp
  have e2:(y::p).reverse++x::q=p.reverse++y::x::q:=by simp
  simp only[cd]at hl d;have O:((y::p).reverse++x::q).getD (0+(j:Int).toNat) []=x:=by rw[N]; exact np _ _ _ _ _ (by simp[d])
  have U:((y::p).reverse++x::q).getD (0+((j:Int)-1).toNat) []=y:=by rw[e2]; exact np _ _ _ _ _ (by simp[d])
  have v:((y::p).reverse++x::q).length=p.length+q.length+2:=by simp; omega
  have I:=hC.cmp x y g k;cases h:cN c x y with
  | false =>
   refine⟨1,by simp,.stop (aa.toEq ?_)⟩;unfold zN;dsimp +instances only[Aa,Ab,Ac,Ad,Ae,Af,Ag];simp only[v,O,U,hC.eta x g,hC.eta y k];refine aa.p (aa.p (aa.p (aa.p (aa.p (aa.p (aa.call (aa.eq I) ?_))))));rintro _ rfl;dsimp +instances only[Aa,Ab,Ac,Ad,Ae,Af,Ag];refine aa.neg h (aa.p (aa.some ?_));simp[jo,h]
  | true =>
   obtain⟨m,hm,hr⟩:=Oo hC p (y::q) x b i (j-1) (fun z hz=>M z (dj _ hz)) g (by omega) (by omega);refine⟨m+1,by simp; omega,.next (aa.toEq ?_) (by
    have e:(jo (cN c) x (y::p)).reverse++q=(jo (cN c) x p).reverse++y::q:=by simp[jo,h]
    rw[e]; exact hr)⟩
   have s1:((y::p).reverse++x::q).set (0+(j:Int).toNat) y=p.reverse++y::y::q:=by
    rw[N,Ol _ _ _ _ _ (by simp[d])]; simp
   have s2:(p.reverse++y::y::q).set (0+((j:Int)-1).toNat) x=p.reverse++x::y::q:=Ol _ _ _ _ _ (by simp[d]);have V:(p.reverse++y::y::q).length=p.length+q.length+2:=by simp; omega
   have W:(p.reverse++x::y::q).length=p.length+q.length+2:=by simp; omega
   have ky:y.length=K.length:=by rw[<-hC.eta y k,Dk]
   have kx:x.length=K.length:=by rw[<-hC.eta x g,Dk]
   unfold zN;dsimp +instances only[Aa,Ab,Ac,Ad,Ae,Af,Ag];simp only[v,O,U,hC.eta x g,hC.eta y k,Dl ky,Dl kx,s1,s2,V,W];refine aa.p (aa.p (aa.p (aa.p (aa.p (aa.p (aa.call (aa.eq I) ?_))))));rintro _ rfl;dsimp +instances only[Aa,Ab,Ac,Ad,Ae,Af,Ag];refine aa.pos h ?_;refine aa.p (aa.p (aa.p (aa.p (aa.p (aa.p (aa.p (aa.p (aa.p (aa.p (aa.p (aa.p (aa.some ?_))))))))))));congr;omega
theorem Oq(hC:wy K C Q c):∀(r p:LL) (i n:Nat),(∀ y∈p,Q y)->(∀ y∈r,Q y)->i=p.length->n=p.length+r.length->n<100000 ->
  ∃ m,m<=r.length+1/\kZ (wx K C) m [.l (p.reverse++r),.i 0,.i (n:Int),.i (i:Int)] 0 [.l (lM (cN c) p r).reverse]
 | [],p,i,n,_,_,hi,d,k=>by
  refine⟨1,by simp,.stop (aa.toEq ?_)⟩;simp only[j_]at d;unfold wx;dsimp +instances only[Aa,Ab,Ac,Ad,Ae,Af,Ag];refine aa.n (aa.some ?_);simp[lM]
 | x::r,p,i,n,q,h,hi,d,k=>by
  simp only[cd]at d;obtain⟨v,N,h1⟩:=Oo hC p r x (n:Int) (i:Int) i q (h x cW) (by omega) hi;obtain⟨m,hm,I⟩:=Oq hC r (jo (cN c) x p) (i+1) n (Ie (h x cW) q) (fun y M=>h y (dj _ M)) (by rw[Di,hi]) (by rw[Di]; omega) k;refine⟨m+1,by simp; omega,.next (aa.toEq ?_) I⟩;unfold wx;dsimp +instances only[Aa,Ab,Ac,Ad,Ae,Af,Ag];refine aa.p (aa.loop (P:=fun x g=>g=_) ⟨v,0,_,h1,by omega,rfl⟩ (by(first|rfl|assumption|(simp only[aB,sl]<;>omega))) ?_);rintro _ _ rfl;dsimp +instances only[Aa,Ab,Ac,Ad,Ae,Af,Ag];refine aa.p (aa.p (aa.some ?_));rfl
theorem Zq(hC:wy K C Q c)(rZ:LL)(d:∀ y∈rZ,Q y)(k:rZ.length<100000):pe K C [.l rZ,.i 0,.i (rZ.length:Int)]=some [.l (eI (cN c) rZ)]:=by
 refine aa.toEq ?_;unfold pe;dsimp +instances only[Aa,Ab,Ac,Ad,Ae,Af,Ag];refine aa.p ?_;cases rZ with
 | nil =>
  refine aa.loop (P:=fun x g=>g=[.l []]) ⟨1,0,_,.stop (aa.toEq (?_:aa _ (fun g=>g=(some 0,[G.l []])))),by omega,rfl⟩ (by(first|rfl|assumption|(simp only[aB,sl]<;>omega))) ?_
  ·unfold wx
   dsimp +instances only[Aa,Ab,Ac,Ad,Ae,Af,Ag];exact aa.n (aa.some rfl)
  ·rintro _ _ rfl
   exact aa.some rfl
 | cons x r =>
  simp only[cd]at k;obtain⟨m,hm,h⟩:=Oq hC r [x] 1 (r.length+1) (by simpa using d x cW) (fun y q=>d y (dj _ q)) rfl (by simp; omega) (by omega);refine aa.loop (P:=fun y g=>g=_) ⟨m,0,_,h,by omega,rfl⟩ (by(first|rfl|assumption|(simp only[aB,sl]<;>omega))) ?_;rintro _ _ rfl;exact aa.some rfl
theorem Zr(rZ:LL)(a b:Nat)(h:b<=a)(d:a<100000):pe K C [.l rZ,.i (a:Int),.i (b:Int)]=some [.l rZ]:=by
 refine aa.toEq ?_;unfold pe;dsimp +instances only[Aa,Ab,Ac,Ad,Ae,Af,Ag];refine aa.p ?_;refine aa.loop (P:=fun x g=>g=[.l rZ]) ⟨1,0,_,.stop (aa.toEq (?_:aa _ (fun g=>g=(some 0,[G.l rZ])))),by omega,rfl⟩ (by(first|rfl|assumption|(simp only[aB,sl]<;>omega))) ?_
 ·unfold wx
  dsimp +instances only[Aa,Ab,Ac,Ad,Ae,Af,Ag];exact aa.n (aa.some rfl)
 ·rintro _ _ rfl
  exact aa.some rfl
theorem Zs(hC:wy K C Q c)(rZ:LL)(I:∀ y∈rZ,Q y)(O:rZ.length<=20):Dh K C [.l rZ,.i (rZ.length:Int)]=some [.l (eI (cN c) rZ)]:=by
 refine aa.toEq ?_;unfold Dh;dsimp +instances only[Aa,Ab,Ac,Ad,Ae,Af,Ag];have d:=Zq hC rZ I (by omega);have k:=Dj (cN c) rZ;have v:∀ h:LL,h.length=rZ.length->gQ (Ic K C) [.l h,.i (rZ.length:Int),.i 20] fun _ g=>g=[.l h]:=by
  intro h U;refine gQ.stop (x:=0) (aa.toEq ?_) rfl;unfold Ic;dsimp +instances only[Aa,Ab,Ac,Ad,Ae,Af,Ag];exact aa.n (aa.some rfl)
 by_cases q:rZ.length=20
 ·have h1:tX K C [.l rZ,.i (rZ.length:Int),.i 20,.i 0,.i 20]=some (none,[.l (eI (cN c) rZ),.i (rZ.length:Int),.i 20,.i 20,.i 40]):=by
   refine aa.toEq ?_;unfold tX;dsimp +instances only[Aa,Ab,Ac,Ad,Ae,Af,Ag];have d:pe K C [.l rZ,.i 0,.i 20]=some [.l (eI (cN c) rZ)]:=by rw[q]at d; exact d
   refine aa.p (aa.pc (aa.eq d) (by(first|rfl|assumption|(simp only[aB,sl]<;>omega))) ?_);rintro _ rfl;dsimp +instances only[Aa,Ab,Ac,Ad,Ae,Af,Ag];exact aa.p (aa.p (aa.some rfl))
  have M:tX K C [.l (eI (cN c) rZ),.i (rZ.length:Int),.i 20,.i 20,.i 40]=some (some 0,[.l (eI (cN c) rZ),.i (rZ.length:Int),.i 20,.i 20]):=by
   refine aa.toEq ?_;unfold tX;dsimp +instances only[Aa,Ab,Ac,Ad,Ae,Af,Ag];exact aa.n (aa.p (aa.some rfl))
  refine aa.loop (P:=fun x g=>g=_) ⟨2,0,_,.next h1 (.stop M),by omega,rfl⟩ (by(first|rfl|assumption|(simp only[aB,sl]<;>omega))) ?_;rintro _ _ rfl;dsimp +instances only[Aa,Ab,Ac,Ad,Ae,Af,Ag];have N:pe K C [.l (eI (cN c) rZ),.i 20,.i (rZ.length:Int)]=some [.l (eI (cN c) rZ)]:=by
   rw[q]; exact Zr _ 20 20 (by omega) (by omega)
  refine aa.pc (aa.eq N) (by(first|rfl|assumption|(simp only[aB,sl]<;>omega))) ?_;rintro _ rfl;dsimp +instances only[Aa,Ab,Ac,Ad,Ae,Af,Ag];refine aa.loop (v _ k) (by(first|rfl|assumption|(simp only[aB,sl]<;>omega))) ?_;rintro _ _ rfl;exact aa.some rfl
 ·have h1:tX K C [.l rZ,.i (rZ.length:Int),.i 20,.i 0,.i 20]=some (some 0,[.l rZ,.i (rZ.length:Int),.i 20,.i 0]):=by
   refine aa.toEq ?_;unfold tX;dsimp +instances only[Aa,Ab,Ac,Ad,Ae,Af,Ag];exact aa.n (aa.p (aa.some rfl))
  refine aa.loop (P:=fun x g=>g=_) ⟨1,0,_,.stop h1,by omega,rfl⟩ (by(first|rfl|assumption|(simp only[aB,sl]<;>omega))) ?_;rintro _ _ rfl;dsimp +instances only[Aa,Ab,Ac,Ad,Ae,Af,Ag];refine aa.pc (aa.eq d) (by(first|rfl|assumption|(simp only[aB,sl]<;>omega))) ?_;rintro _ rfl;dsimp +instances only[Aa,Ab,Ac,Ad,Ae,Af,Ag];refine aa.loop (v _ k) (by(first|rfl|assumption|(simp only[aB,sl]<;>omega))) ?_;rintro _ _ rfl;exact aa.some rfl
theorem Zt(hC:wy K C Q c)(rZ:LL)(d:∀ y∈rZ,Q y)(g:rZ.length<=20):Oj K C [.l rZ]=some [.l (eI (cN c) rZ)]:=by
 refine aa.toEq ?_;unfold Oj;dsimp +instances only[Aa,Ab,Ac,Ad,Ae,Af,Ag];refine aa.pc (aa.eq (Zs hC rZ d g)) (by(first|rfl|assumption|(simp only[aB,sl]<;>omega))) ?_;rintro _ rfl;exact aa.some rfl
end
end Go.AL

namespace Go.AL
open Go
variable [Dr]
def wz(K:List Kd)(C:LG->Option LG)(Z:LG)(d:LG):Option (Option Nat × LG) :=
 (bif (ax (gi d 4).iV (((gi d 3).iV.toNat:Nat):Int)) then (bif ((aM (gi d 4).iV)&&(ax (gi d 4).iV (((gi d 3).iV.toNat:Nat):Int))) then (bif (decide (((gi d 2).iV.toNat+((gi d 4).iV).toNat)<(gi d 0).rZ.length)) then (bif (aB ((gi d 4).iV-1)) then (bif ((aM ((gi d 4).iV-1))&&(ax ((gi d 4).iV-1) (((gi d 3).iV.toNat:Nat):Int))) then (bif (decide (((gi d 2).iV.toNat+((gi d 4).iV-1).toNat)<(gi d 0).rZ.length)) then (aG (C [.l [(a8 K ((gi d 0).rZ.getD ((gi d 2).iV.toNat+((gi d 4).iV).toNat) []))],.l [(a8 K ((gi d 0).rZ.getD ((gi d 2).iV.toNat+((gi d 4).iV-1).toNat) []))]]) fun g=>(bif (!(gi g 0).bV) then (bif ((aM (gi d 4).iV)&&(ax (gi d 4).iV (((gi d 3).iV.toNat:Nat):Int))) then (bif (decide (((gi d 2).iV.toNat+((gi d 4).iV).toNat)<(gi d 0).rZ.length)) then (bif ((aM (gi d 1).iV)&&(ax (gi d 1).iV (((gi d 0).rZ.length:Nat):Int))) then (bif (decide ((0+((gi d 1).iV).toNat)<(gi d 0).rZ.length)) then (bif (aB ((gi d 1).iV+1)) then (bif (aB ((gi d 4).iV+1)) then (bif ((ar (gi d 0).rZ.length ((gi d 0).rZ.set (0+((gi d 1).iV).toNat) (eo K ((gi d 0).rZ.getD (0+((gi d 1).iV).toNat) []) 0 (a8 K ((gi d 0).rZ.getD ((gi d 2).iV.toNat+((gi d 4).iV).toNat) [])))).length)&&true) then some (none,[.l ((gi d 0).rZ.set (0+((gi d 1).iV).toNat) (eo K ((gi d 0).rZ.getD (0+((gi d 1).iV).toNat) []) 0 (a8 K ((gi d 0).rZ.getD ((gi d 2).iV.toNat+((gi d 4).iV).toNat) [])))),.i ((gi d 1).iV+1),.i (((gi d 2).iV.toNat:Nat):Int),.i (((gi d 3).iV.toNat:Nat):Int),.i ((gi d 4).iV+1)]) else none) else none) else none) else none) else none) else none) else none) else (bif (aB ((gi d 4).iV+1)) then (bif ((ar (gi d 0).rZ.length (gi d 0).rZ.length)&&true) then some (none,[.l (gi d 0).rZ,.i (gi d 1).iV,.i (((gi d 2).iV.toNat:Nat):Int),.i (((gi d 3).iV.toNat:Nat):Int),.i ((gi d 4).iV+1)]) else none) else none))) else none) else none) else none) else none) else none) else (bif ((ar (gi d 0).rZ.length (gi d 0).rZ.length)&&true) then some (some 0,[.l (gi d 0).rZ,.i (gi d 1).iV]) else none))
def tY(K:List Kd)(C:LG->Option LG)(Z:LG)(d:LG):Option (Option Nat × LG) :=
 (bif (ax (gi d 1).iV (((gi d 0).rZ.length:Nat):Int)) then (bif ((aM (gi d 1).iV)&&(ax (gi d 1).iV (((gi d 0).rZ.length:Nat):Int))) then (bif (decide ((0+((gi d 1).iV).toNat)<(gi d 0).rZ.length)) then (bif (aB ((gi d 1).iV-1)) then (bif ((aM ((gi d 1).iV-1))&&(ax ((gi d 1).iV-1) (((gi d 0).rZ.length:Nat):Int))) then (bif (decide ((0+((gi d 1).iV-1).toNat)<(gi d 0).rZ.length)) then (aG (C [.l [(a8 K ((gi d 0).rZ.getD (0+((gi d 1).iV).toNat) []))],.l [(a8 K ((gi d 0).rZ.getD (0+((gi d 1).iV-1).toNat) []))]]) fun h=>(bif (gi h 0).bV then (bif ((aM (gi d 1).iV)&&(bC (gi d 1).iV (((gi d 0).rZ.length:Nat):Int))) then (bh ((ar (gi d 0).rZ.length (gi d 0).rZ.length)&&true) (cn (wz K C Z) [.l (gi d 0).rZ,.i (gi d 1).iV,.i (((0+((gi d 1).iV).toNat):Nat):Int),.i ((((gi d 0).rZ.length-((gi d 1).iV).toNat):Nat):Int),.i 1]) fun k g=>(bif ((aM (gi g 1).iV)&&(bC (gi g 1).iV (((gi g 0).rZ.length:Nat):Int))) then (bif (Nat.ble ((0+((gi g 1).iV).toNat)+((gi g 0).rZ.length-((gi g 1).iV).toNat)) (gi g 0).rZ.length) then (bif ((aM (gi g 1).iV)&&(bC (gi g 1).iV (((gi g 0).rZ.length:Nat):Int))) then some (some 0,[.l ((gi g 0).rZ.take (0+((gi g 1).iV).toNat)++cC ((gi g 0).rZ.length-((gi g 1).iV).toNat) Z++(gi g 0).rZ.drop ((0+((gi g 1).iV).toNat)+((gi g 0).rZ.length-((gi g 1).iV).toNat))),.i (((((gi g 1).iV).toNat-0):Nat):Int)]) else none) else none) else none)) else none) else (bif (aB ((gi d 1).iV+1)) then (bif ((ar (gi d 0).rZ.length (gi d 0).rZ.length)&&true) then some (none,[.l (gi d 0).rZ,.i ((gi d 1).iV+1)]) else none) else none))) else none) else none) else none) else none) else none) else (bif ((ar (gi d 0).rZ.length (gi d 0).rZ.length)&&true) then some (some 1,[.l (gi d 0).rZ]) else none))
def Ot(K:List Kd)(C:LG->Option LG)(Z:LG)(d:LG):Option LG :=
 (bif (ax (((gi d 0).rZ.length:Nat):Int) 2) then some [.l (gi d 0).rZ,.i (((gi d 0).rZ.length:Nat):Int)] else (bh ((ar (gi d 0).rZ.length (gi d 0).rZ.length)&&true) (cn (tY K C Z) [.l (gi d 0).rZ,.i 1]) fun h g=>(bif ar h 0 then some [.l (gi g 0).rZ,.i (((gi g 1).iV.toNat:Nat):Int)] else some [.l (gi g 0).rZ,.i (((gi g 0).rZ.length:Nat):Int)])))
def eE{α:Type}(e:α->α->Bool):α->List α->List α
 |_,[]=>[]
 |y,x::q=>bif e x y then eE e x q else x::eE e x q
def jT{α:Type}(e:α->α->Bool):List α->List α
 | []=>[]
 |x::q=>x::eE e x q
theorem Ou{α:Type}(e:α->α->Bool):∀(q:List α) (y:α),(eE e y q).length<=q.length
 | [],_=>aQ _
 | x::q,y=>by
  have:=Ou e q x;simp only[eE];cases e x y with
  |true=>simp; omega
  |false=>simp; omega
theorem If{α:Type}{e:α->α->Bool}:∀{q:List α} {y z:α},z∈eE e y q->z∈q
 | x::q,y,z,h=>by
  simp only[eE]at h;cases he:e x y with
  |true=>rw[he]at h; exact dj _ (If h)
  | false =>
   rw[he]at h;rcases cq.1 h with rfl|h
   ·exact cW
   ·exact dj _ (If h)
theorem Zu{α:Type}{e:α->α->Bool}:∀{l:List α} {z:α},z∈jT e l->z∈l
 | x::q,z,h=>by
  rcases cq.1 h with rfl|h
  ·exact cW
  ·exact dj _ (If h)
theorem Zv{α:Type}(e:α->α->Bool):∀ l:List α,(jT e l).length<=l.length
 | []=>aQ _
 |x::q=>by have:=Ou e q x; simp[jT]; omega
section
variable {K:List Kd} {Z:LG} {Q:LG->Prop}
structure Kds (K:List Kd) (Q:LG->Prop):Prop where
 eta:∀ r,Q r->a8 K r=r
structure Dm (K:List Kd) (C:LG->Option LG) (Q:LG->Prop) (e:LG->LG->Bool):Prop where
 cmp:∀ r s,Q r->Q s->C [.l [r],.l [s]]=some [.t (e r s)]
 eta:∀ r,Q r->a8 K r=r
variable {C:LG->Option LG} {ee:LG->LG->Bool}
theorem Ig(hC:Dm K C Q ee):∀(q kept M:LL) (y:LG) (lo len g:Nat),(∀ z∈kept++M++y::q,Q z)->lo+g=kept.length+M.length+1->g+q.length=len->kept.length+M.length+q.length<100000->1<=g ->
  ∃ m J,m<=q.length+1/\(kept++eE ee y q++J).length=kept.length+M.length+1+q.length/\kZ (wz K C Z) m [.l (kept++M++y::q),.i (kept.length:Int),.i (lo:Int),.i (len:Int),.i (g:Int)] 0 [.l (kept++eE ee y q++J),.i ((kept++eE ee y q).length:Int)]
 | [],kept,M,y,lo,len,g,k,h1,V,W,h4=>by
  refine⟨1,M++[y],by simp,by simp[eE]; omega,.stop (aa.toEq ?_)⟩;simp only[j_]at V W;unfold wz;dsimp +instances only[Aa,Ab,Ac,Ad,Ae,Af,Ag];(repeat first|refine aa.p ?_|refine aa.n ?_);refine aa.some ?_;simp[eE]
 | x::q,kept,M,y,lo,len,g,k,h1,V,W,h4=>by
  simp only[cd]at V W;have v:Q x:=k x (by simp);have N:Q y:=k y (by simp);have g1:(kept++M++y::x::q).getD ((lo:Int).toNat+(g:Int).toNat) []=x:=by
   have e:kept++M++y::x::q=(kept++M++[y])++x::q:=by simp
   rw[e]; exact np _ _ _ _ _ (by simp<;>omega)
  have g2:(kept++M++y::x::q).getD ((lo:Int).toNat+((g:Int)-1).toNat) []=y:=np _ _ _ _ _ (by simp; omega);have hlen:(kept++M++y::x::q).length=kept.length+M.length+q.length+2:=by simp; omega
  cases he:ee x y with
  | true =>
   obtain⟨m,J,hm,hJ,hr⟩:=Ig hC q kept (M++[y]) x lo len (g+1) (by simpa using k) (by simp; omega) (by omega) (by simp; omega) (by omega);have e:eE ee y (x::q)=eE ee x q:=by simp[eE,he]
   refine⟨m+1,J,by simp; omega,by rw[e,hJ]; simp; omega,.next (aa.toEq ?_) (by rw[e]; exact hr)⟩;unfold wz;dsimp +instances only[Aa,Ab,Ac,Ad,Ae,Af,Ag];simp only[hlen,g1,g2,hC.eta x v,hC.eta y N];(repeat first|refine aa.p ?_|refine aa.n ?_);refine aa.cE (hC.cmp x y v N) ?_;dsimp +instances only[Aa,Ab,Ac,Ad,Ae,Af,Ag]
   try simp only[he]
   (repeat first|refine aa.p ?_|refine aa.n ?_);refine aa.some ?_;simp
  | false =>
   obtain⟨U,I,e1,e2⟩:∃ U I,(kept++M++y::x::q).set kept.length x=U++I++x::q/\(U=kept++[x]/\I.length=M.length/\∀ z∈I,z∈M++[y]):=by
    cases M with
    |nil=>exact⟨kept++[x],[],by simp,rfl,rfl,by simp⟩
    |cons z M=>exact⟨kept++[x],M++[y],by simp,rfl,by simp,by simp; intro z d; rcases d with d|d<;>simp[d]⟩
   obtain⟨e2,O,e4⟩:=e2;subst e2;obtain⟨m,J,hm,hJ,hr⟩:=Ig hC q (kept++[x]) I x lo len (g+1) (by
    intro z d;simp only[c_,cq]at d;rcases d with((d|d)|d)|d|d
    ·exact k z (by simp[d])
    ·simp at d; exact d▸v
    ·have := e4 z d
     simp only[c_,cq]at this;rcases this with h|h|h
     ·exact k z (by simp[h])
     ·exact h▸N
     ·simp at h
    ·exact d▸v
    ·exact k z (by simp[d])) (by simp[O]; omega) (by omega) (by simp[O]; omega) (by omega)
   have e:kept++eE ee y (x::q)=(kept++[x])++eE ee x q:=by simp[eE,he]
   refine⟨m+1,J,by simp; omega,by rw[e,hJ]; simp[O]; omega,.next (aa.toEq ?_) (by rw[e]; exact hr)⟩;have kx:x.length=K.length:=by rw[<-hC.eta x v,Dk]
   have hl2:((kept++[x])++I++x::q).length=kept.length+M.length+q.length+2:=by simp[O]; omega
   have e1:(kept++M++y::x::q).set (0+(kept.length:Int).toNat) x=(kept++[x])++I++x::q:=by simpa using e1
   unfold wz;dsimp +instances only[Aa,Ab,Ac,Ad,Ae,Af,Ag];simp only[hlen,g1,g2,hC.eta x v,hC.eta y N,Dl kx,e1,hl2];(repeat first|refine aa.p ?_|refine aa.n ?_);refine aa.cE (hC.cmp x y v N) ?_;dsimp +instances only[Aa,Ab,Ac,Ad,Ae,Af,Ag]
   try simp only[he]
   (repeat first|refine aa.p ?_|refine aa.n ?_);refine aa.some ?_;simp
theorem Ov(hC:Dm K C Q ee):∀(q p:LL) (y:LG),(∀ z∈p++y::q,Q z)->p.length+q.length<99999 ->
  (∃ m,m<=q.length+1/\eE ee y q=q/\kZ (tY K C Z) m [.l (p++y::q),.i ((p.length:Int)+1)] 1 [.l (p++y::q)]) \/
  ∃ m J,m<=q.length+1/\(p++y::eE ee y q++J).length=p.length+1+q.length/\kZ (tY K C Z) m [.l (p++y::q),.i ((p.length:Int)+1)] 0 [.l (p++y::eE ee y q++J),.i ((p++y::eE ee y q).length:Int)]
 | [],p,y,h,M=>by
  refine .inl ⟨1,by simp,rfl,.stop (aa.toEq ?_)⟩;simp only[j_]at M;unfold tY;dsimp +instances only[Aa,Ab,Ac,Ad,Ae,Af,Ag];(repeat first|refine aa.p ?_|refine aa.n ?_);exact aa.some rfl
 | x::q,p,y,h,M=>by
  simp only[cd]at M;have k:Q x:=h x (by simp);have v:Q y:=h y (by simp);have U:(p++y::x::q).getD (0+((p.length:Int)+1).toNat) []=x:=by
   have e:p++y::x::q=(p++[y])++x::q:=by simp
   rw[e]; exact np _ _ _ _ _ (by simp<;>omega)
  have V:(p++y::x::q).getD (0+((p.length:Int)+1-1).toNat) []=y:=np _ _ _ _ _ (by simp<;>omega);have O:(p++y::x::q).length=p.length+q.length+2:=by simp; omega
  cases he:ee x y with
  | true =>
   obtain⟨m,J,hm,N,d⟩:=Ig hC q (p++[y]) [] x (p.length+1) (q.length+1) 1 (by simpa using h) (by simp) (by omega) (by simp; omega) (by omega);have e:p++y::eE ee y (x::q)=(p++[y])++eE ee x q:=by simp[eE,he]
   have I:(((p++[y])++eE ee x q)++J).length=p.length+q.length+2:=by rw[N]; simp; omega
   have hle:((p++[y])++eE ee x q).length<=p.length+q.length+2:=by rw[<-I]; simp
   have hr':kZ (wz K C Z) m [.l (p++y::x::q),.i ((p.length:Int)+1),.i ((0+((p.length:Int)+1).toNat:Nat):Int),.i ((p.length+q.length+2-((p.length:Int)+1).toNat:Nat):Int),.i 1] 0 [.l ((p++[y])++eE ee x q++J),.i (((p++[y])++eE ee x q).length:Int)]:=by
    have a1:(((p++[y]).length:Nat):Int)=(p.length:Int)+1:=by simp
    have a2:((p.length+1:Nat):Int)=((0+((p.length:Int)+1).toNat:Nat):Int):=by omega
    have a3:((q.length+1:Nat):Int)=((p.length+q.length+2-((p.length:Int)+1).toNat:Nat):Int):=by omega
    rw[a1,a2,a3]at d;simpa using d
   refine .inr ⟨1,cC (p.length+q.length+2-((p++[y])++eE ee x q).length) Z,by simp,by rw[e,fX,sK]; simp at hle|-; omega,.stop (aa.toEq ?_)⟩;rw[e];generalize hw:(p++[y])++eE ee x q=w at *;unfold tY;dsimp +instances only[Aa,Ab,Ac,Ad,Ae,Af,Ag];simp only[O,U,V,hC.eta x k,hC.eta y v];(repeat first|refine aa.p ?_|refine aa.n ?_);refine aa.cE (hC.cmp x y k v) ?_;dsimp +instances only[Aa,Ab,Ac,Ad,Ae,Af,Ag]
   try simp only[he]
   (repeat first|refine aa.p ?_|refine aa.n ?_);refine aa.loop (P:=fun x g=>g=_) ⟨m,0,_,hr',by omega,rfl⟩ (by(first|rfl|assumption|(simp only[aB,sl]<;>omega))) ?_;rintro _ _ rfl;dsimp +instances only[Aa,Ab,Ac,Ad,Ae,Af,Ag];simp only[I];(repeat first|refine aa.p ?_|refine aa.n ?_);refine aa.some ?_;have t1:List.take (0+(w.length:Int).toNat) (w++J)=w:=by simp
   have t2:List.drop (0+(w.length:Int).toNat+(p.length+q.length+2-(w.length:Int).toNat)) (w++J)=[]:=by
    apply JV; rw[I]; omega
   rw[t1,t2];simp
  | false =>
   have e:eE ee y (x::q)=x::eE ee x q:=by simp[eE,he]
   have key:tY K C Z [.l (p++y::x::q),.i ((p.length:Int)+1)]=some (none,[.l ((p++[y])++x::q),.i ((((p++[y]).length:Nat):Int)+1)]):=by
    refine aa.toEq ?_;unfold tY;dsimp +instances only[Aa,Ab,Ac,Ad,Ae,Af,Ag];simp only[O,U,V,hC.eta x k,hC.eta y v];(repeat first|refine aa.p ?_|refine aa.n ?_);refine aa.cE (hC.cmp x y k v) ?_;dsimp +instances only[Aa,Ab,Ac,Ad,Ae,Af,Ag]
    try simp only[he]
    (repeat first|refine aa.p ?_|refine aa.n ?_);refine aa.some ?_;simp
   rcases Ov hC q (p++[y]) x (by simpa using h) (by simp; omega)with⟨m,hm,hc,d⟩|⟨m,J,hm,N,d⟩
   ·refine .inl ⟨m + 1, by simp; omega, by rw [e, hc], .next key ?_⟩
    have:p++y::x::q=(p++[y])++x::q:=by simp
    rw[this]; exact d
   ·have W : p ++ y :: eE ee y (x :: q) = (p ++ [y]) ++ x :: eE ee x q := by rw [e]; simp
    refine .inr ⟨m+1,J,by simp; omega,by rw[W,N]; simp; omega,.next key ?_⟩;rw[W]; exact d
theorem Zw(hC:Dm K C Q ee)(rZ:LL)(d:∀ y∈rZ,Q y)(h:rZ.length<99999):aa (Ot K C Z [.l rZ]) fun g=>∃ J,g=[.l (jT ee rZ++J),.i ((jT ee rZ).length:Int)]/\(jT ee rZ++J).length=rZ.length:=by
 unfold Ot;dsimp +instances only[Aa,Ab,Ac,Ad,Ae,Af,Ag]
 match rZ,d,h with
 | [],_,_=>exact aa.p (aa.some ⟨[],rfl,rfl⟩)
 | [x],_,_=>exact aa.p (aa.some ⟨[],rfl,rfl⟩)
 | y::x::q,d,h =>
  simp only[cd]at h;refine aa.n ?_;rcases Ov hC (x::q) [] y (by simpa using d) (by simp; omega)with⟨m,hm,k,d⟩|⟨m,J,hm,v,d⟩
  ·refine aa.loop (P := fun x g => x = 1 /\ g = _) ⟨m, 1, _, d, by simp at hm; omega, rfl, rfl⟩ (by (first|rfl|assumption|(simp only [aB,sl]<;>omega))) ?_
   rintro _ _ ⟨rfl,rfl⟩;refine aa.n (aa.some ⟨[],?_,?_⟩)
   ·(dsimp +instances only [Aa,Ab,Ac,Ad,Ae,Af,Ag])
    simp[jT,k]
   ·simp[jT,k]
  ·refine aa.loop (P := fun x g => x = 0 /\ g = _) ⟨m, 0, _, d, by simp at hm; omega, rfl, rfl⟩ (by (first|rfl|assumption|(simp only [aB,sl]<;>omega))) ?_
   rintro _ _ ⟨rfl,rfl⟩;refine aa.p (aa.some ⟨J,?_,?_⟩)
   ·(dsimp +instances only [Aa,Ab,Ac,Ad,Ae,Af,Ag])
    simp[jT]
   ·simpa[jT,Nat.add_comm]using v
end
end Go.AL

namespace Go.AL
open Go
variable [Dr]
section
variable {K:List Kd} {Q:LG->Prop}
theorem Ih:∀(K:List Kd) (x:LG),(K.all fun k=>match k with | .list _=>false|_=>true)=true->bq K x x=true
 | [],_,_=>rfl
 | k::K,x,h=>by
  simp only[List.all_cons,aL]at h;simp only[bq,Ih K _ h.2,gW];cases k<;>simp only[qW,beq_self_eq_true]
  simp at h
end
end Go.AL

namespace Go.AL
open Go
variable [Dr]
section
variable {K:List Kd} {Z:LG} {Q:LG->Prop} {C:LG->Option LG} {cp:G->G} {cap:G} {p:LG->Bool}
structure Prd (K:List Kd) (C:LG->Option LG) (cp:G->G) (cap:G) (Q:LG->Prop) (p:LG->Bool):Prop where
 cmp:∀ r,Q r->C [.l [r],cap]=some [.t (p r)]
 eta:∀ r,Q r->a8 K r=r
 fix:cp cap=cap
end
section
variable {K:List Kd} {Z:LG}
end
end Go.AL

namespace Go.AL
open Go
variable [Dr]
section sort
variable {α:Type} {lt:α->α->Bool}
theorem Dn(x:α):∀ p:List α,(jo lt x p).Perm (x::p)
 | []=>xY _
 | y::p=>by
  simp only[jo];cases lt x y with
  |true=>exact(List.Perm.cons y (Dn x p)).trans (List.Perm.swap x y p)
  |false=>exact xY _
theorem Ow:∀(r p:List α),(lM lt p r).Perm (p++r)
 | [],p=>by simp[lM]
 | x::r,p=>by
  simp only[lM];refine(Ow r (jo lt x p)).trans ?_;refine(List.Perm.append_right r (Dn x p)).trans ?_;simpa using(List.perm_middle (a:=x) (l₁:=p) (l₂:=r)).symm
theorem wA(l:List α):(eI lt l).Perm l:=by
 unfold eI;exact(List.reverse_perm _).trans (by simpa using Ow (lt:=lt) l [])
structure gP (lt:α->α->Bool) (Q:α->Prop):Prop where
 tr:∀ a b c,Q a->Q b->Q c->lt a b=false->lt b c=false->lt a c=false
 Dp:∀ a b,Q a->Q b->lt a b=true->lt b a=false
variable {Q:α->Prop}
theorem Ox(h:gP lt Q){x:α}(k:Q x):∀{p:List α},(∀ y∈p,Q y)->p.Pairwise (fun a b=>lt a b=false)->(jo lt x p).Pairwise (fun a b=>lt a b=false)
 | [],_,_=>by simp[jo]
 | y::p,v,I=>by
  obtain⟨h1,N⟩:=sR.1 I;have M:=v y cW;have q:∀ z∈p,Q z:=fun z d=>v z (dj _ d);simp only[jo];cases g:lt x y with
  | true =>
   refine sR.2 ⟨fun z d=>?_,Ox h k q N⟩;rcases cq.1 ((Dn x p).mem_iff.1 d)with rfl|d
   ·exact h.Dp _ _ k M g
   ·exact h1 z d
  | false =>
   refine sR.2 ⟨fun z d=>?_,I⟩;rcases cq.1 d with rfl|d
   ·exact g
   ·exact h.tr x y z k M (q z d) g (h1 z d)
theorem Oy(k:gP lt Q):∀{r p:List α},(∀ y∈p,Q y)->(∀ y∈r,Q y)->p.Pairwise (fun a b=>lt a b=false)->(lM lt p r).Pairwise (fun a b=>lt a b=false)
 | [],_,_,_,g=>by simpa[lM]using g
 | x::r,p,q,h,g=>by
  simp only[lM];refine Oy k (fun y d=>?_) (fun y d=>h y (dj _ d)) (Ox k (h x cW) q g);rcases cq.1 ((Dn x p).mem_iff.1 d)with rfl|d
  ·exact h _ cW
  ·exact q y d
theorem Dq(d:gP lt Q){l:List α}(g:∀ y∈l,Q y):(eI lt l).Pairwise (fun a b=>lt b a=false):=by
 unfold eI;rw[List.pairwise_reverse];exact Oy d (by simp) g List.Pairwise.nil
theorem Ii:∀{l r:List α},l.Perm r->(∀ a∈l,∀ b∈l,lt a b=false->lt b a=false->a=b)->l.Pairwise (fun a b=>lt b a=false)->r.Pairwise (fun a b=>lt b a=false)->l=r
 | [],r,d,_,_,_=>d.nil_eq
 |a::l,[],d,_,_,_=>by simpa using d.length_eq
 | a::l,b::r,d,ha,h1,q=>by
  obtain⟨v,I⟩:=sR.1 h1;obtain⟨M,N⟩:=sR.1 q;have e:a=b:=by
   have hb:b∈a::l:=d.symm.subset cW;have h:a∈b::r:=d.subset cW;rcases cq.1 hb with e|k
   ·exact e.symm
   ·rcases cq.1 h with e | g
    ·exact e
    ·exact ha a cW b hb (M a g) (v b k)
  subst e;rw[Ii ((List.perm_cons a).1 d) (fun x O y U=>ha x (dj _ O) y (dj _ U)) I N]
theorem Oz(d:gP lt Q){l r:List α}(g:l.Perm r)(k:∀ y∈l,Q y)(ha:∀ a∈l,∀ b∈l,lt a b=false->lt b a=false->a=b):eI lt l=eI lt r :=
 Ii ((wA l).trans (g.trans (wA r).symm)) (fun a h b h'=>ha a ((wA l).mem_iff.1 h) b ((wA l).mem_iff.1 h')) (Dq d k)
  (Dq d fun y q=>k y (g.mem_iff.2 q))
end sort
theorem OA{sp:jS}{q:LG->Option (Option Nat × LG)}{rZ:LL}{k:Nat}{d:LG}{r:Option Nat × LG}(v:ql rZ k=true)
  (h:∀ b p,p.Perm rZ->sp.side d b=true/\∃ g,f_ sp.st sp.cJ p (sp.init d b)=some g/\q g=some r):qm sp q rZ k d=some r:=by
 unfold qm;rw[v];refine YW fun b p y=>?_;obtain⟨h1,g,I,M⟩:=h b p y;rw[h1,cT,I];exact M
end Go.AL

namespace Go.AL
open Go
variable [Dr]
section
variable {α:Type} (f:α->Int)
end
section
variable {α:Type} {e:α->α->Bool}
end
end Go.AL

namespace Go.AL
open Go
variable [Dr]
section
variable {K:List Kd} {C:LG->Option LG} {Q:LG->Prop} {c:LG->LG->Int}
end
end Go.AL

namespace Go.AL
open Go
variable [Dr]
section
variable {C:LG->Option LG} {Q:LG->Prop} {c:LG->LG->Int}
theorem gP.mono{α:Type}{lt:α->α->Bool}{Q k:α->Prop}(h:gP lt Q)(g:∀ a,k a->Q a):gP lt k :=
 ⟨fun a b d ha hb q=>h.tr a b d (g a ha) (g b hb) (g d q),fun a b ha hb=>h.Dp a b (g a ha) (g b hb)⟩
def tZ(C:LG->Option LG)(Q:LG->Prop)(c:LG->LG->Int):Prop:=∀ r s,Q r->Q s->∃ v,C [.l [r],.l [s]]=some [.i v]/\(v<0↔c r s<0)
end
end Go.AL

namespace Go.AL
open Go Go.Proofs
variable [Dr]
variable {C:LG->Option LG} {Q:LG->Prop} {c:LG->LG->Int}
theorem OB(hC:tZ C Q c){r s:LG}(d:Q r)(g:Q s):decide (zK C r s<0)=cN c r s:=by
 obtain⟨v,h,k⟩:=hC r s d g;unfold zK cN;rw[h,cB];show decide (v<0)=_
 rw[mM,dT,dT];exact k
theorem t_(hC:tZ C Q c){rZ:LL}(d:∀ y∈rZ,Q y)(h0:rZ≠[])(i j:Nat):ltOf (pb C rZ) i j=cN c (im rZ i) (im rZ j) :=
 OB hC (d _ (zL h0 i)) (d _ (zL h0 j))
theorem Zx(hC:tZ C Q c)(k:gP (cN c) Q){rZ:LL}(d:∀ y∈rZ,Q y)(h0:rZ≠[])(I:rZ.length<100000):tT C rZ:=by
 have g:=fun i=>d _ (zL h0 i);refine⟨fun r h s h'=>by obtain⟨v,e,_⟩:=hC r s (d r h) (d s h'); exact⟨v,e⟩,⟨fun x=>?_,fun x y z=>?_,fun x y z=>?_⟩,by omega⟩
 ·rw [t_ hC d h0]
  cases h:cN c (im rZ x) (im rZ x)with
  |false=>rfl
  |true=>rw[k.Dp _ _ (g x) (g x) h]at h; cases h
 ·rw [t_ hC d h0, t_ hC d h0, t_ hC d h0]
  intro h1 q;cases h:cN c (im rZ x) (im rZ z)with
  |true=>rfl
  | false =>
   have:=k.tr _ _ _ (g x) (g z) (g y) h (k.Dp _ _ (g y) (g z) q);rw[this]at h1;cases h1
 ·rw [t_ hC d h0, t_ hC d h0, t_ hC d h0]
  exact k.tr _ _ _ (g x) (g y) (g z)
theorem Zy(hC:tZ C Q c)(q:gP (cN c) Q)(rZ:LL)(g:∀ y∈rZ,Q y)(v:rZ.length<100000) :
  ∃ out,tV C [.l rZ]=some [.l out]/\out.Perm rZ/\out.Pairwise fun a b=>cN c b a=false:=by
 unfold tV;have e:(gi [G.l rZ] 0).rZ=rZ:=rfl;rw[e];by_cases h0:rZ=[]
 ·rw [iP h0, h0]
  exact⟨[],rfl,xY _,List.Pairwise.nil⟩
 ·have d := Zx hC q g h0 v
  rw[iN h0,iP d];have k:=Oc d;refine⟨_,rfl,k,?_⟩;refine ak' ?_ (Zb d);intro a b h1 I h;rw[<-OB hC (g b (k.mem_iff.1 I)) (g a (k.mem_iff.1 h1)),dF];exact h
theorem OC(hC:tZ C Q c)(g:gP (cN c) Q)(rZ:LL)(k:∀ y∈rZ,Q y)(q:rZ.length<100000)(ha:∀ a∈rZ,∀ b∈rZ,cN c a b=false->cN c b a=false->a=b) :
  tV C [.l rZ]=some [.l (eI (cN c) rZ)]:=by
 obtain⟨out,h,d,v⟩:=Zy hC g rZ k q;rw[h,Ii (d.trans (wA (lt:=cN c) rZ).symm) (fun a h1 b I=>ha a (d.mem_iff.1 h1) b (d.mem_iff.1 I)) v (Dq g k)]
end Go.AL

namespace Go.AL
open Go
variable [Dr]
noncomputable abbrev zO(r:LG):Int:=(gi r 0).iV
noncomputable abbrev ua(r:LG):Int:=(gi r 1).iV
def Zz(r:LG):Prop:=r=[.i (zO r),.i (ua r)]/\zO r<ua r
def OD(l:LL)(n:Int):Prop:=∃ r∈l,zO r<=n/\n<ua r
def ZA(l:LL):Prop:=(∀ r∈l,Zz r)/\l.Pairwise fun r s=>ua r<zO s
structure ak3 (out:LL) (a b:Int) (os:LL) (ps:LL) (f:Int):Prop where
 low:a<=f
 at_:f=a\/∃ o∈os,f=ua o
 bu:∀ o∈os,ua o<=f\/b<=zO o
 mem:∀ n,OD ps n↔a<=n/\n<f/\n<b/\¬ OD os n
 can:ZA (out++ps)
 gap:∀ s∈out++ps,ua s<f
 many:ps.length<=os.length
end Go.AL
