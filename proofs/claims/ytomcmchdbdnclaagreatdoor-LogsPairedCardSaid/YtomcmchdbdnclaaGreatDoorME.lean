/-
 What is proved: rules for lifted functions. No condition.
-/
import Derived.Test.YtomcmchdbdnclaaGreatDoorMD
import Derived.Test.YtomcmchdbdnclaaGreatDoorMH
set_option linter.all false
open Bool renaming and_eq_true->ax,eq_iff_iff->lJ
open List renaming length_cons->bG,getElem?_eq_getElem->bx,getD_eq_getElem?_getD->bP,mem_cons->bC,length_append->en,mem_append->cw,replicate->bQ,mem_cons_self->bZ,mem_cons_of_mem->cq,drop_eq_nil_of_le->D8,length_replicate->tc,length_nil->k6,pairwise_cons->ot
open List.Pairwise renaming imp_of_mem->amx
open List.Perm renaming refl->ra
open Nat renaming le_refl->aB,beq->ai
namespace Go.AL
open Go
variable [Dr]
def aa{β:Type}(x:Option β)(Q:β->Prop):Prop:=∃ r,x=some r/\Q r
def iv(st:List G->Option (Option Nat × List G))(d:List G)(Q:Nat->List G->Prop):Prop:=∃ n x d',jG st n d x d'/\n<=1000000/\Q x d'
namespace aa
variable {β:Type} {Q:β->Prop}
theorem some{r:β}(h:Q r):aa (some r) Q:=⟨r,rfl,h⟩
theorem pos{b:Bool}{x y:Option β}(h:b=true)(d:aa x Q):aa (bif b then x else y) Q:=by subst h; exact d
theorem neg{b:Bool}{x y:Option β}(h:b=false)(d:aa y Q):aa (bif b then x else y) Q:=by subst h; exact d
theorem test{b:Bool}{x y:Option β}(d:b=true->aa x Q)(g:b=false->aa y Q):aa (bif b then x else y) Q:=by
 cases b with
 |true=>exact d rfl
 |false=>exact g rfl
theorem call{t:Option (List G)}{k:List G->Option β}{P:List G->Prop}(h:aa t P)(hk:∀ g,P g->aa (k g) Q):aa (ar t k) Q:=by
 obtain⟨r,h,d⟩:=h;subst h;exact hk r d
theorem nO{c:Bool}{t:Option (List G)}{k:List G->Option β}{P:List G->Prop}(h:aa t P)(d:c=true)(hk:∀ g,P g->aa (k g) Q):aa (lu (c&&t.isSome) t k) Q:=by
 obtain⟨r,h,q⟩:=h;subst h d;exact hk r q
theorem loop{c:Bool}{st:List G->Option (Option Nat × List G)}{d:List G}{k:Nat->List G->Option β}{P:Nat->List G->Prop}(h:iv st d P)(q:c=true)(hk:∀ x g,P x g->aa (k x g) Q):aa (aR c (bV st d) k) Q:=by
 obtain⟨n,x,d',h,u,v⟩:=h;rw[h.aaT u];subst q;exact hk x d' v
theorem tail{c:Bool}{t:Option (Option Nat × List G)}{k:Nat->List G->Option β}{P:Nat->List G->Prop}(h:aa t fun o=>∃ x,o.1=Option.some x/\P x o.2)(u:c=true)(hk:∀ x g,P x g->aa (k x g) Q) :
  aa (aR c (cG t) k) Q:=by
 obtain⟨⟨o,d⟩,rfl,x,q,v⟩:=h;simp only at q;subst q u;exact hk x d v
theorem mono{x:Option β}{P:β->Prop}(h:aa x P)(d:∀ r,P r->Q r):aa x Q:=by
 obtain⟨r,h,g⟩:=h;exact⟨r,h,d r g⟩
theorem eq{x:Option β}{r:β}(h:x=Option.some r):aa x (fun g=>g=r):=⟨r,h,rfl⟩
theorem toEq{x:Option β}{r:β}(h:aa x (fun g=>g=r)):x=Option.some r:=by
 obtain⟨r',h,rfl⟩:=h;exact h
end aa
theorem iv.stop{st:List G->Option (Option Nat × List G)}{d d':List G}{x:Nat}{Q:Nat->List G->Prop}(h:st d=some (some x,d'))(g:Q x d'):iv st d Q:=⟨1,x,d',.stop h,by omega,g⟩
def aL(st:List G->Option (Option Nat × List G))(d:List G)(m:Nat)(Q:Nat->List G->Prop):Prop:=∃ n x d',jG st n d x d'/\n<=m/\Q x d'
theorem aL.stop{st:List G->Option (Option Nat × List G)}{d d':List G}{x m:Nat}{Q:Nat->List G->Prop}(h:st d=some (some x,d'))(g:Q x d'):aL st d (m+1) Q:=⟨1,x,d',.stop h,by omega,g⟩
theorem aL.next{st:List G->Option (Option Nat × List G)}{d d1:List G}{m:Nat}{Q:Nat->List G->Prop}(h:st d=some (none,d1))(hr:aL st d1 m Q):aL st d (m+1) Q:=by
 obtain⟨n,x,d',h1,k,g⟩:=hr;exact⟨n+1,x,d',.next h h1,by omega,g⟩
theorem aL.to{st:List G->Option (Option Nat × List G)}{d:List G}{m:Nat}{Q:Nat->List G->Prop}(h:aL st d m Q)(hm:m<=1000000):iv st d Q:=by
 obtain⟨n,x,d',h1,k,g⟩:=h;exact⟨n,x,d',h1,by omega,g⟩
theorem iv.mono{st:List G->Option (Option Nat × List G)}{d:List G}{P Q:Nat->List G->Prop}(h:iv st d P)(k:∀ x g,P x g->Q x g):iv st d Q:=by
 obtain⟨n,x,d',h1,q,u⟩:=h;exact⟨n,x,d',h1,q,k _ _ u⟩
theorem aL.mono{st:List G->Option (Option Nat × List G)}{d:List G}{m:Nat}{P Q:Nat->List G->Prop}(h:aL st d m P)(k:∀ x g,P x g->Q x g):aL st d m Q:=by
 obtain⟨n,x,d',h1,q,u⟩:=h;exact⟨n,x,d',h1,q,k _ _ u⟩
theorem abG{p:Prop}{i:Decidable p}:(@decide p i=true)↔p:=by simp
theorem abH{p:Prop}{i:Decidable p}:(@decide p i=false)↔¬ p:=by simp
theorem abJ{a b:Nat}:ai a b=true↔a=b:=⟨Nat.eq_of_beq_eq_true,fun h=>h▸Nat.beq_refl a⟩
theorem Aa(a:G)(l:List G):gi (a::l) 0=a:=rfl
theorem Ab(a:G)(l:List G)(i:Nat):gi (a::l) (i+1)=gi l i:=rfl
theorem Ac(r:List G)(l:List (List G)):(G.l (r::l)).row=r:=rfl
theorem Ad(l:List (List G)):(G.l l).rows=l:=rfl
theorem Ae(n:Int):(G.i n).int=n:=rfl
theorem Af(s:ByteArray):(G.s s).str=s:=rfl
theorem Ag(b:Bool):(G.t b).bool=b:=rfl
theorem sl:(∀ a b:Int,aj a b=decide (a<b))/\(∀ a b:Int,aZ a b=decide (a<=b))/\(∀ n:Int,az n=decide (0<=n))/\(∀ b:Bool,(b&&true)=b)/\(∀ b:Bool,(true&&b)=b) /\
  (∀ a b:Bool,((a&&b)=true)=(a=true/\b=true))/\(∀ a b:Bool,((a&&b)=false)=(a=false\/b=false))/\(∀(p:Prop) (i:Decidable p),(@decide p i=true)=p)/\(∀(p:Prop) (i:Decidable p),(@decide p i=false)=¬ p) /\
  (∀ b:Bool,((!b)=true)=(b=false))/\(∀ b:Bool,((!b)=false)=(b=true))/\(∀ a b:Int,((a==b)=true)=(a=b))/\(∀ a b:Int,((a==b)=false)=¬ (a=b))/\(∀ a b:Int,((a != b)=true)=¬ (a=b))/\(∀ a b:Int,((a != b)=false)=(a=b)) /\
  (∀(α:Type) (a b:α),(a≠b)=¬ (a=b))/\(∀ a b:Nat,(ai a b=true)=(a=b))/\(∀ a b:Nat,(Nat.ble a b=true)=(a<=b))/\(∀ a b:Nat,(Nat.blt a b=true)=(a<b)) /\
  (∀(l:List (List G)) (i:Nat) (x:List G),(l.set i x).length=l.length)/\(∀(α:Type) (l r:List α),(l++r).length=l.length+r.length)/\(∀(n:Nat) (x:List G),(bQ n x).length=n) /\
  (∀(α:Type) (x:α) (l:List α),(x::l).length=l.length+1)/\(∀ α:Type,([]:List α).length=0)/\(∀(l:List (List G)) (n:Nat),(l.take n).length=min n l.length)/\(∀(l:List (List G)) (n:Nat),(l.drop n).length=l.length-n) /\
  (∀ n:Nat,((n:Int)).toNat=n)/\(∀ p:Prop,(True/\p)=p)/\(∀ p:Prop,(p/\True)=p)/\(∀ a b:Bool,((a==b)=true)=(a=b)) :=
 ⟨cd, eT, iP, Bool.and_true, Bool.true_and, ax, fun a b => by cases a <;> cases b <;> simp, fun _ _ => propext abG, fun _ _ => propext abH, fun b => by cases b <;> simp, fun b => by cases b <;> simp,
  fun a b=>by simp,fun a b=>by simp,fun a b=>by simp,fun a b=>by simp,fun _ a b=>rfl,fun a b=>propext abJ,fun a b=>by simp,fun a b=>by simp,fun l i x=>List.length_set,fun _ l r=>en,fun n x=>tc,
  fun _ x l=>rfl,fun _=>rfl,fun l n=>List.length_take,fun l n=>List.length_drop,fun n=>Int.toNat_natCast n,fun p=>true_and p,fun p=>and_true p,fun a b=>by cases a<;>cases b<;>simp⟩
theorem aa.p{β:Type}{Q:β->Prop}{b:Bool}{x y:Option β}(d:aa x Q)(h:b=true:=by first|rfl|assumption|(simp only[ao,sl]<;>omega)):aa (bif b then x else y) Q:=aa.pos h d
theorem aa.n{β:Type}{Q:β->Prop}{b:Bool}{x y:Option β}(d:aa y Q)(h:b=false:=by first|rfl|assumption|(simp only[ao,sl]<;>omega)):aa (bif b then x else y) Q:=aa.neg h d
theorem aa.cE{β:Type}{Q:β->Prop}{t:Option (List G)}{r:List G}{k:List G->Option β}(h:t=Option.some r)(hk:aa (k r) Q):aa (ar t k) Q:=aa.call (aa.eq h) fun _ e=>by subst e; exact hk

end Go.AL

namespace Go.AL
open Go
variable [Dr]
theorem Pp{σ:Type}{st:List G->Option (Option Nat × List G)}(mk:σ->Nat->List G)(n:Nat)(fin:σ->Nat × List G)(I:σ->Nat->Prop)(E:Nat->List G->Prop)
  (q:∀ s i,I s i->i<n->aa (st (mk s i)) fun o=>(∃ s',o=(none,mk s' (i+1))/\I s' (i+1))\/∃ c g,o=(some c,g)/\E c g)
  (u:∀ s,I s n->aa (st (mk s n)) fun o=>o=(some (fin s).1,(fin s).2)) :
  ∀(k:Nat) (s:σ) (i:Nat),i+k=n->I s i->aL st (mk s i) (k+1) fun c g=>(∃ s',I s' n/\c=(fin s').1/\g=(fin s').2)\/E c g
 | 0,s,i,hi,d=>by
  have e:i=n:=hi;subst e;obtain⟨o,h,rfl⟩:=u s d;exact aL.stop h (.inl ⟨s,d,rfl,rfl⟩)
 | k+1,s,i,hi,d=>by
  obtain⟨o,h,⟨s',rfl,v⟩|⟨c,g,rfl,y⟩⟩:=q s i d (by omega)
  ·exact aL.next h (Pp mk n fin I E q u k s' (i+1) (by omega) v)
  ·exact aL.stop h (.inr y)
theorem abK{rows:List (List G)}{i:Nat}(h:i<rows.length):rows.getD i []∈rows:=by
 rw[bP,bx h];exact List.getElem_mem h
theorem abL{rows:List (List G)}{i:Nat}(h:i<rows.length):rows.take (i+1)=rows.take i++[rows.getD i []]:=by
 rw[List.take_add_one,bP,bx h];rfl
theorem abM{σ:Type}{st:List G->Option (Option Nat × List G)}(mk:σ->Nat->List G)(rows:List (List G))(fin:σ->Nat × List G)(I:σ->Nat->Prop)(E:Nat->List G->Prop)(s:σ)
  (hlen:rows.length<999999) (h0:I s 0)
  (d:∀ s i x,I s i->i<rows.length->rows.getD i []=x->x∈rows->rows.take (i+1)=rows.take i++[x]->aa (st (mk s i)) fun o=>(∃ s',o=(none,mk s' (i+1))/\I s' (i+1))\/∃ c g,o=(some c,g)/\E c g)
  (k:∀ s,I s rows.length->aa (st (mk s rows.length)) fun o=>o=(some (fin s).1,(fin s).2)) :
  iv st (mk s 0) fun c g=>(∃ s',I s' rows.length/\c=(fin s').1/\g=(fin s').2)\/E c g :=
 (Pp mk rows.length fin I E (fun s i q hi=>d s i _ q hi rfl (abK hi) (abL hi)) k rows.length s 0 (by omega) h0).to (by omega)
theorem qs{σ:Type}{st:List G->Option (Option Nat × List G)}(mk:σ->Nat->List G)(rows:List (List G))(fin:σ->Nat × List G)(I:σ->Nat->Prop)(s:σ)
  (hlen:rows.length<999999) (h0:I s 0)
  (k:∀ s i x,I s i->i<rows.length->rows.getD i []=x->x∈rows->rows.take (i+1)=rows.take i++[x]->aa (st (mk s i)) fun o=>∃ s',o=(none,mk s' (i+1))/\I s' (i+1))
  (q:∀ s,I s rows.length->aa (st (mk s rows.length)) fun o=>o=(some (fin s).1,(fin s).2)) :
  iv st (mk s 0) fun c g=>∃ s',I s' rows.length/\c=(fin s').1/\g=(fin s').2 :=
 (abM mk rows fin I (fun _ _=>False) s hlen h0 (fun s i x a b c d e=>(k s i x a b c d e).mono fun _ h=>.inl h) q).mono fun _ _ h=>h.elim id False.elim
end Go.AL

namespace Go.AL
open Go
variable [Dr]
theorem GY{α:Type}[BEq α][LawfulBEq α](a b:α):(a==b)=(b==a):=by
 rw[lJ];simp only[beq_iff_eq];exact eq_comm
theorem abN{k:Kd}{a b:G}:rN k a b=rN k b a:=by
 cases k
 ·exact GY _ _
 ·exact GY _ _
 ·exact GY _ _
 ·rfl
theorem abO{k:Kd}{a b c:G}(h1:rN k a b=true)(d:rN k b c=true):rN k a c=true:=by
 cases k<;>simp only[rN,beq_iff_eq]at *<;>first|exact h1.trans d|cases h1
theorem sn:∀{K:List Kd} {a b:List G},a8 K a b=a8 K b a
 | [],_,_=>rfl
 |k::K,a,b=>by simp only[a8,abN (a:=a.headD default),sn (K:=K) (a:=a.tail)]
theorem uW:∀{K:List Kd} {a b c:List G},a8 K a b=true->a8 K b c=true->a8 K a c=true
 | [],_,_,_,_,_=>rfl
 | k::K,a,b,c,h1,d=>by
  simp only[a8,ax]at *;exact⟨abO h1.1 d.1,uW h1.2 d.2⟩
theorem abP{K:List Kd}{a b c:List G}(h:a8 K a b=true):a8 K a c=a8 K b c:=by
 rw[lJ];constructor
 ·exact fun d=>uW (by rw[sn]; exact h) d
 ·exact fun d=>uW h d
theorem yt{K:List Kd}{a b c:List G}(h:a8 K a b=true):a8 K c a=a8 K c b:=by
 rw[sn,abP h,sn]
theorem oX(ks:List Kd)(key:List G):∀(rows:List (List G)) (i:Nat),bF ks key rows i=(bF ks key rows 0).map fun p=>(p.1+i,p.2)
 | [],i=>rfl
 | r::rs,i=>by
  simp only[bF];cases a8 ks key (gi r 0).row with
  |true=>simp
  | false =>
   simp only[cond_false];rw[oX ks key rs (i+1),oX ks key rs (0+1),Option.map_map];congr 1
   funext p
   simp;omega
theorem abQ(ks:List Kd)(key z:List G):cS ks [] key z=z:=rfl
theorem yu(ks:List Kd)(r:List G)(rs:List (List G))(key z:List G):cS ks (r::rs) key z=bif a8 ks key (gi r 0).row then (gi r 1).row else cS ks rs key z:=by
 unfold cS;simp only[bF];cases a8 ks key (gi r 0).row with
 |true=>rfl
 | false =>
  simp only[cond_false];rw[oX ks key rs (0+1)];cases bF ks key rs 0<;>rfl
theorem Pq(ks:List Kd)(key:List G):dK ks [] key=false:=rfl
theorem yv(ks:List Kd)(r:List G)(rs:List (List G))(key:List G):dK ks (r::rs) key=(a8 ks key (gi r 0).row||dK ks rs key):=by
 unfold dK;simp only[bF];cases a8 ks key (gi r 0).row with
 |true=>rfl
 | false =>
  simp only[cond_false];rw[oX ks key rs (0+1)];cases bF ks key rs 0<;>rfl
theorem Pr(ks:List Kd)(key val:List G)(c:Nat):fx ks [] key val c=[[.l [key],.l [val],.i c]]:=rfl
theorem GZ(ks:List Kd)(r:List G)(rs:List (List G))(key val:List G)(c:Nat) :
  fx ks (r::rs) key val c=bif a8 ks key (gi r 0).row then [.l [key],.l [val],.i (gi r 2).int]::rs else r::fx ks rs key val c:=by
 unfold fx;simp only[bF];cases a8 ks key (gi r 0).row with
 |true=>rfl
 | false =>
  simp only[cond_false];rw[oX ks key rs (0+1)];cases bF ks key rs 0<;>rfl
theorem G0(ks:List Kd)(k v key z:List G)(c:Nat):∀ rows:List (List G),cS ks (fx ks rows k v c) key z=bif a8 ks key k then v else cS ks rows key z
 | []=>by simp only[Pr,yu,abQ]; rfl
 | r::rs=>by
  rw[GZ,yu];cases h:a8 ks k (gi r 0).row with
  | true =>
   simp only[cond_true,yu];have e:a8 ks key (gi r 0).row=a8 ks key k:=(yt h).symm;rw[e];cases d:a8 ks key k with
   |true=>simp only[Aa,Ac,d,cond_true]; rfl
   |false=>simp only[Aa,Ac,d,cond_false]
  | false =>
   simp only[cond_false,yu,G0 ks k v key z c rs];cases d:a8 ks key (gi r 0).row with
   |false=>rfl
   | true =>
    cases g:a8 ks key k with
    |false=>rfl
    | true =>
     have:a8 ks k (gi r 0).row=true:=uW (by rw[sn]; exact g) d;rw[this]at h;cases h
theorem Pt(ks:List Kd)(k v key:List G)(c:Nat):∀ rows:List (List G),dK ks (fx ks rows k v c) key=(a8 ks key k||dK ks rows key)
 | []=>by simp only[Pr,yv,Pq]; rfl
 | r::rs=>by
  rw[GZ,yv];cases h:a8 ks k (gi r 0).row with
  | true =>
   simp only[cond_true,yv];have e:a8 ks key (gi r 0).row=a8 ks key k:=(yt h).symm;rw[e];simp only[Aa,Ac];cases a8 ks key k<;>simp
  | false =>
   simp only[cond_false,yv,Pt ks k v key c rs];cases a8 ks key (gi r 0).row<;>simp
end Go.AL

namespace Go.AL
open Go
variable [Dr]
def yw(K:List Kd)(C:List G->Option (List G))(d:List G):Option (Option Nat × List G) :=
 (bif (aj (gi d 1).int (gi d 4).int) then (bif ((az (gi d 4).int)&&(aj (gi d 4).int (((gi d 0).rows.length:Nat):Int))) then (bif (decide ((0+((gi d 4).int).toNat)<(gi d 0).rows.length)) then (bif (ao ((gi d 4).int-1)) then (bif ((az ((gi d 4).int-1))&&(aj ((gi d 4).int-1) (((gi d 0).rows.length:Nat):Int))) then (bif (decide ((0+((gi d 4).int-1).toNat)<(gi d 0).rows.length)) then (ar (C [.l [(aT K ((gi d 0).rows.getD (0+((gi d 4).int).toNat) []))],.l [(aT K ((gi d 0).rows.getD (0+((gi d 4).int-1).toNat) []))]]) fun g1=>(bif (aj (gi g1 0).int 0) then (bif (ao ((gi d 4).int-1)) then (bif (ao ((gi d 4).int-1)) then (bif ((az ((gi d 4).int-1))&&(aj ((gi d 4).int-1) (((gi d 0).rows.length:Nat):Int))) then (bif (decide ((0+((gi d 4).int-1).toNat)<(gi d 0).rows.length)) then (bif ((az (gi d 4).int)&&(aj (gi d 4).int (((gi d 0).rows.length:Nat):Int))) then (bif (decide ((0+((gi d 4).int).toNat)<(gi d 0).rows.length)) then (bif ((az (gi d 4).int)&&(aj (gi d 4).int (((gi d 0).rows.length:Nat):Int))) then (bif (decide ((0+((gi d 4).int).toNat)<(gi d 0).rows.length)) then (bif ((az ((gi d 4).int-1))&&(aj ((gi d 4).int-1) (((gi d 0).rows.length:Nat):Int))) then (bif (decide ((0+((gi d 4).int-1).toNat)<((gi d 0).rows.set (0+((gi d 4).int).toNat) (dx K ((gi d 0).rows.getD (0+((gi d 4).int).toNat) []) 0 (aT K ((gi d 0).rows.getD (0+((gi d 4).int-1).toNat) [])))).length)) then (bif (ao ((gi d 4).int-1)) then (bif ((ai (gi d 0).rows.length (((gi d 0).rows.set (0+((gi d 4).int).toNat) (dx K ((gi d 0).rows.getD (0+((gi d 4).int).toNat) []) 0 (aT K ((gi d 0).rows.getD (0+((gi d 4).int-1).toNat) [])))).set (0+((gi d 4).int-1).toNat) (dx K (((gi d 0).rows.set (0+((gi d 4).int).toNat) (dx K ((gi d 0).rows.getD (0+((gi d 4).int).toNat) []) 0 (aT K ((gi d 0).rows.getD (0+((gi d 4).int-1).toNat) [])))).getD (0+((gi d 4).int-1).toNat) []) 0 (aT K ((gi d 0).rows.getD (0+((gi d 4).int).toNat) [])))).length)&&true) then some (none,[.l (((gi d 0).rows.set (0+((gi d 4).int).toNat) (dx K ((gi d 0).rows.getD (0+((gi d 4).int).toNat) []) 0 (aT K ((gi d 0).rows.getD (0+((gi d 4).int-1).toNat) [])))).set (0+((gi d 4).int-1).toNat) (dx K (((gi d 0).rows.set (0+((gi d 4).int).toNat) (dx K ((gi d 0).rows.getD (0+((gi d 4).int).toNat) []) 0 (aT K ((gi d 0).rows.getD (0+((gi d 4).int-1).toNat) [])))).getD (0+((gi d 4).int-1).toNat) []) 0 (aT K ((gi d 0).rows.getD (0+((gi d 4).int).toNat) [])))),.i (gi d 1).int,.i (gi d 2).int,.i (gi d 3).int,.i ((gi d 4).int-1)]) else none) else none) else none) else none) else none) else none) else none) else none) else none) else none) else none) else none) else (bif ((ai (gi d 0).rows.length (gi d 0).rows.length)&&true) then some (some 0,[.l (gi d 0).rows,.i (gi d 1).int,.i (gi d 2).int,.i (gi d 3).int]) else none))) else none) else none) else none) else none) else none) else (bif ((ai (gi d 0).rows.length (gi d 0).rows.length)&&true) then some (some 0,[.l (gi d 0).rows,.i (gi d 1).int,.i (gi d 2).int,.i (gi d 3).int]) else none))
def uX(K:List Kd)(C:List G->Option (List G))(d:List G):Option (Option Nat × List G) :=
 (bif (aj (gi d 3).int (gi d 2).int) then (aR ((ai (gi d 0).rows.length (gi d 0).rows.length)&&true) (bV (yw K C) [.l (gi d 0).rows,.i (gi d 1).int,.i (gi d 2).int,.i (gi d 3).int,.i (gi d 3).int]) fun g g2=>(bif (ao ((gi g2 3).int+1)) then (bif ((ai (gi g2 0).rows.length (gi g2 0).rows.length)&&true) then some (none,[.l (gi g2 0).rows,.i (gi g2 1).int,.i (gi g2 2).int,.i ((gi g2 3).int+1)]) else none) else none)) else some (some 0,[.l (gi d 0).rows]))
def nP(K:List Kd)(C:List G->Option (List G))(d:List G):Option (List G) :=
 (bif (ao ((gi d 1).int+1)) then (aR ((ai (gi d 0).rows.length (gi d 0).rows.length)&&true) (bV (uX K C) [.l (gi d 0).rows,.i (gi d 1).int,.i (gi d 2).int,.i ((gi d 1).int+1)]) fun g g3=>some [.l (gi g3 0).rows]) else none)
def sq(K:List Kd)(C:List G->Option (List G))(d:List G):Option (Option Nat × List G) :=
 (bif (aZ (gi d 4).int (gi d 1).int) then (lu (((ai (gi d 0).rows.length (gi d 0).rows.length)&&true)&&((nP K C) [.l (gi d 0).rows,.i (gi d 3).int,.i (gi d 4).int]).isSome) ((nP K C) [.l (gi d 0).rows,.i (gi d 3).int,.i (gi d 4).int]) fun g1=>(bif (ao ((gi d 4).int+(gi d 2).int)) then (bif ((ai (gi d 0).rows.length (gi g1 0).rows.length)&&true) then some (none,[.l (gi g1 0).rows,.i (gi d 1).int,.i (gi d 2).int,.i (gi d 4).int,.i ((gi d 4).int+(gi d 2).int)]) else none) else none)) else (bif ((ai (gi d 0).rows.length (gi d 0).rows.length)&&true) then some (some 0,[.l (gi d 0).rows,.i (gi d 1).int,.i (gi d 2).int,.i (gi d 3).int]) else none))
def abR(K:List Kd)(C:List G->Option (List G))(d:List G):Option (Option Nat × List G) :=
 (bif (aZ (gi d 4).int (gi d 1).int) then (bif (ao ((gi d 3).int+(gi d 2).int)) then none else none) else (bif ((ai (gi d 0).rows.length (gi d 0).rows.length)&&true) then some (some 0,[.l (gi d 0).rows,.i (gi d 1).int,.i (gi d 2).int,.i (gi d 3).int]) else none))
def G1(K:List Kd)(C:List G->Option (List G))(d:List G):Option (Option Nat × List G) :=
 (bif (aj (gi d 2).int (gi d 1).int) then (bif (ao (2*(gi d 2).int)) then (aR ((ai (gi d 0).rows.length (gi d 0).rows.length)&&true) (bV (abR K C) [.l (gi d 0).rows,.i (gi d 1).int,.i (gi d 2).int,.i 0,.i (2*(gi d 2).int)]) fun g g4=>(bif (ao ((gi g4 3).int+(gi g4 2).int)) then (bif (aj ((gi g4 3).int+(gi g4 2).int) (gi g4 1).int) then none else (bif (ao ((gi g4 2).int*2)) then (bif ((ai (gi g4 0).rows.length (gi g4 0).rows.length)&&true) then some (none,[.l (gi g4 0).rows,.i (gi g4 1).int,.i ((gi g4 2).int*2)]) else none) else none)) else none)) else none) else some (some 0,[.l (gi d 0).rows]))
def Ch(K:List Kd)(C:List G->Option (List G))(d:List G):Option (List G) :=
 (aR ((ai (gi d 0).rows.length (gi d 0).rows.length)&&true) (bV (sq K C) [.l (gi d 0).rows,.i (gi d 1).int,.i 20,.i 0,.i 20]) fun g g2=>(lu (((ai (gi g2 0).rows.length (gi g2 0).rows.length)&&true)&&((nP K C) [.l (gi g2 0).rows,.i (gi g2 3).int,.i (gi g2 1).int]).isSome) ((nP K C) [.l (gi g2 0).rows,.i (gi g2 3).int,.i (gi g2 1).int]) fun g3=>(aR ((ai (gi g2 0).rows.length (gi g3 0).rows.length)&&true) (bV (G1 K C) [.l (gi g3 0).rows,.i (gi g2 1).int,.i (gi g2 2).int]) fun k g5=>some [.l (gi g5 0).rows])))
def Pu(K:List Kd)(C:List G->Option (List G))(d:List G):Option (List G) :=
 (lu (((ai (gi d 0).rows.length (gi d 0).rows.length)&&true)&&((Ch K C) [.l (gi d 0).rows,.i (((gi d 0).rows.length:Nat):Int)]).isSome) ((Ch K C) [.l (gi d 0).rows,.i (((gi d 0).rows.length:Nat):Int)]) fun g1=>some [.l (gi g1 0).rows])
theorem l9{α:Type}(l:List α)(x:α)(q:List α)(z:α)(n:Nat)(h:n=l.length):(l++x::q).getD n z=x:=by subst h; simp
theorem Pv{α:Type}(l:List α)(x y:α)(q:List α)(n:Nat)(h:n=l.length):(l++x::q).set n y=l++y::q:=by subst h; simp
def iw{α:Type}(lt:α->α->Bool)(x:α):List α->List α
 | []=>[x]
 |y::p=>bif lt x y then y::iw lt x p else x::y::p
def kK{α:Type}(lt:α->α->Bool):List α->List α->List α
 |p,[]=>p
 |p,x::r=>kK lt (iw lt x p) r
def dG{α:Type}(lt:α->α->Bool)(l:List α):List α:=(kK lt [] l).reverse
theorem Ci{α:Type}(lt:α->α->Bool)(x:α):∀ p,(iw lt x p).length=p.length+1
 | []=>rfl
 | y::p=>by
  simp only[iw];cases lt x y with
  |true=>simp[Ci lt x p]
  |false=>simp
theorem G2{α:Type}{Q:α->Prop}{lt:α->α->Bool}{x:α}(g:Q x):∀{p:List α},(∀ y∈p,Q y)->∀ y∈iw lt x p,Q y
 | [],_,y,d=>by simp[iw]at d; exact d▸g
 | z::p,k,y,d=>by
  simp only[iw]at d;cases q:lt x z with
  | true =>
   rw[q]at d;rcases bC.1 d with rfl|d
   ·exact k _ bZ
   ·exact G2 g (fun y d=>k y (cq _ d)) y d
  | false =>
   rw[q]at d;rcases bC.1 d with rfl|d
   ·exact g
   ·exact k y d
theorem Pw{α:Type}(lt:α->α->Bool):∀(p r:List α),(kK lt p r).length=p.length+r.length
 |p,[]=>rfl
 |p,x::r=>by simp only[kK,Pw lt,Ci,bG]; omega
theorem Px{α:Type}{Q:α->Prop}{lt:α->α->Bool}:∀{r p:List α},(∀ y∈p,Q y)->(∀ y∈r,Q y)->∀ y∈kK lt p r,Q y
 | [],_,d,_=>d
 | x::r,p,d,hr=>by
  simp only[kK];exact Px (G2 (hr x bZ) d) fun y g=>hr y (cq _ g)
theorem Cj{α:Type}(lt:α->α->Bool)(l:List α):(dG lt l).length=l.length:=by simp[dG,Pw]
theorem abS{α:Type}{Q:α->Prop}{lt:α->α->Bool}{l:List α}(h:∀ y∈l,Q y):∀ y∈dG lt l,Q y:=by
 intro y d;exact Px (p:=[]) (by simp) h y (by simpa[dG]using d)
theorem Ck:∀(K:List Kd) (r:List G),(aT K r).length=K.length
 | [],_=>rfl
 |k::K,r=>by simp[aT,Ck K]
theorem Cl{K:List Kd}{r gs:List G}(h:gs.length=K.length):dx K r 0 gs=gs:=by
 simp[dx,h,FB,D8]
section
variable {K:List Kd} {C:List G->Option (List G)} {Q:List G->Prop} {c:List G->List G->Int}
structure uY (K:List Kd) (C:List G->Option (List G)) (Q:List G->Prop) (c:List G->List G->Int):Prop where
 cmp:∀ r s,Q r->Q s->C [.l [r],.l [s]]=some [.i (c r s)]
 eta:∀ r,Q r->aT K r=r
def cf(c:List G->List G->Int)(r s:List G):Bool:=aj (c r s) 0
theorem Py(hC:uY K C Q c):∀(p q:List (List G)) (x:List G) (b i:Int) (j:Nat),(∀ y∈p,Q y)->Q x->p.length<1000000->j=p.length ->
  ∃ m,m<=p.length+1/\jG (yw K C) m [.l (p.reverse++x::q),.i 0,.i b,.i i,.i (j:Int)] 0 [.l ((iw (cf c) x p).reverse++q),.i 0,.i b,.i i]
 | [],q,x,b,i,j,_,_,_,d=>by
  simp only[k6]at d;subst d;refine⟨1,by simp,.stop (aa.toEq ?_)⟩;unfold yw;dsimp +instances only[Aa,Ab,Ac,Ad,Ae,Af,Ag];refine aa.n (aa.p (aa.some ?_));rfl
 | y::p,q,x,b,i,j,I,g,U,d=>by
  have u:=I y bZ;have M:(y::p).reverse++x::q=(p.reverse++[y])++x::q:=by simp
  have V:(y::p).reverse++x::q=p.reverse++y::x::q:=by simp
  simp only[bG]at U d;have g1:((y::p).reverse++x::q).getD (0+(j:Int).toNat) []=x:=by rw[M]; exact l9 _ _ _ _ _ (by simp[d])
  have g2:((y::p).reverse++x::q).getD (0+((j:Int)-1).toNat) []=y:=by rw[V]; exact l9 _ _ _ _ _ (by simp[d])
  have hlen:((y::p).reverse++x::q).length=p.length+q.length+2:=by simp; omega
  have v:=hC.cmp x y g u;cases k:cf c x y with
  | false =>
   refine⟨1,by simp,.stop (aa.toEq ?_)⟩;unfold yw;dsimp +instances only[Aa,Ab,Ac,Ad,Ae,Af,Ag];simp only[hlen,g1,g2,hC.eta x g,hC.eta y u];refine aa.p (aa.p (aa.p (aa.p (aa.p (aa.p (aa.call (aa.eq v) ?_))))));rintro _ rfl;dsimp +instances only[Aa,Ab,Ac,Ad,Ae,Af,Ag];refine aa.neg k (aa.p (aa.some ?_));simp[iw,k]
  | true =>
   obtain⟨m,hm,hr⟩:=Py hC p (y::q) x b i (j-1) (fun z W=>I z (cq _ W)) g (by omega) (by omega);refine⟨m+1,by simp; omega,.next (aa.toEq ?_) (by
    have e:(iw (cf c) x (y::p)).reverse++q=(iw (cf c) x p).reverse++y::q:=by simp[iw,k]
    rw[e]; exact hr)⟩
   have s1:((y::p).reverse++x::q).set (0+(j:Int).toNat) y=p.reverse++y::y::q:=by
    rw[M,Pv _ _ _ _ _ (by simp[d])]; simp
   have s2:(p.reverse++y::y::q).set (0+((j:Int)-1).toNat) x=p.reverse++x::y::q:=Pv _ _ _ _ _ (by simp[d]);have N:(p.reverse++y::y::q).length=p.length+q.length+2:=by simp; omega
   have O:(p.reverse++x::y::q).length=p.length+q.length+2:=by simp; omega
   have ky:y.length=K.length:=by rw[<-hC.eta y u,Ck]
   have kx:x.length=K.length:=by rw[<-hC.eta x g,Ck]
   unfold yw;dsimp +instances only[Aa,Ab,Ac,Ad,Ae,Af,Ag];simp only[hlen,g1,g2,hC.eta x g,hC.eta y u,Cl ky,Cl kx,s1,s2,N,O];refine aa.p (aa.p (aa.p (aa.p (aa.p (aa.p (aa.call (aa.eq v) ?_))))));rintro _ rfl;dsimp +instances only[Aa,Ab,Ac,Ad,Ae,Af,Ag];refine aa.pos k ?_;refine aa.p (aa.p (aa.p (aa.p (aa.p (aa.p (aa.p (aa.p (aa.p (aa.p (aa.p (aa.p (aa.some ?_))))))))))));congr;omega
theorem Pz(hC:uY K C Q c):∀(r p:List (List G)) (i n:Nat),(∀ y∈p,Q y)->(∀ y∈r,Q y)->i=p.length->n=p.length+r.length->n<100000 ->
  ∃ m,m<=r.length+1/\jG (uX K C) m [.l (p.reverse++r),.i 0,.i (n:Int),.i (i:Int)] 0 [.l (kK (cf c) p r).reverse]
 | [],p,i,n,_,_,hi,d,k=>by
  refine⟨1,by simp,.stop (aa.toEq ?_)⟩;simp only[k6]at d;unfold uX;dsimp +instances only[Aa,Ab,Ac,Ad,Ae,Af,Ag];refine aa.n (aa.some ?_);simp[kK]
 | x::r,p,i,n,q,hr,hi,d,k=>by
  simp only[bG]at d;obtain⟨m1,I,h1⟩:=Py hC p r x (n:Int) (i:Int) i q (hr x bZ) (by omega) hi;obtain⟨m,hm,u⟩:=Pz hC r (iw (cf c) x p) (i+1) n (G2 (hr x bZ) q) (fun y v=>hr y (cq _ v)) (by rw[Ci,hi]) (by rw[Ci]; omega) k;refine⟨m+1,by simp; omega,.next (aa.toEq ?_) u⟩;unfold uX;dsimp +instances only[Aa,Ab,Ac,Ad,Ae,Af,Ag];refine aa.p (aa.loop (P:=fun x g=>g=_) ⟨m1,0,_,h1,by omega,rfl⟩ (by(first|rfl|assumption|(simp only[ao,sl]<;>omega))) ?_);rintro _ _ rfl;dsimp +instances only[Aa,Ab,Ac,Ad,Ae,Af,Ag];refine aa.p (aa.p (aa.some ?_));rfl
theorem abT(hC:uY K C Q c)(rows:List (List G))(hr:∀ y∈rows,Q y)(d:rows.length<100000):nP K C [.l rows,.i 0,.i (rows.length:Int)]=some [.l (dG (cf c) rows)]:=by
 refine aa.toEq ?_;unfold nP;dsimp +instances only[Aa,Ab,Ac,Ad,Ae,Af,Ag];refine aa.p ?_;cases rows with
 | nil =>
  refine aa.loop (P:=fun x g=>g=[.l []]) ⟨1,0,_,.stop (aa.toEq (?_:aa _ (fun g=>g=(some 0,[G.l []])))),by omega,rfl⟩ (by(first|rfl|assumption|(simp only[ao,sl]<;>omega))) ?_
  ·unfold uX
   dsimp +instances only[Aa,Ab,Ac,Ad,Ae,Af,Ag];exact aa.n (aa.some rfl)
  ·rintro _ _ rfl
   exact aa.some rfl
 | cons x r =>
  simp only[bG]at d;obtain⟨m,hm,h⟩:=Pz hC r [x] 1 (r.length+1) (by simpa using hr x bZ) (fun y k=>hr y (cq _ k)) rfl (by simp; omega) (by omega);refine aa.loop (P:=fun y g=>g=_) ⟨m,0,_,h,by omega,rfl⟩ (by(first|rfl|assumption|(simp only[ao,sl]<;>omega))) ?_;rintro _ _ rfl;exact aa.some rfl
theorem abU(rows:List (List G))(a b:Nat)(h:b<=a)(d:a<100000):nP K C [.l rows,.i (a:Int),.i (b:Int)]=some [.l rows]:=by
 refine aa.toEq ?_;unfold nP;dsimp +instances only[Aa,Ab,Ac,Ad,Ae,Af,Ag];refine aa.p ?_;refine aa.loop (P:=fun x g=>g=[.l rows]) ⟨1,0,_,.stop (aa.toEq (?_:aa _ (fun g=>g=(some 0,[G.l rows])))),by omega,rfl⟩ (by(first|rfl|assumption|(simp only[ao,sl]<;>omega))) ?_
 ·unfold uX
  dsimp +instances only[Aa,Ab,Ac,Ad,Ae,Af,Ag];exact aa.n (aa.some rfl)
 ·rintro _ _ rfl
  exact aa.some rfl
theorem abV(hC:uY K C Q c)(rows:List (List G))(hr:∀ y∈rows,Q y)(I:rows.length<=20):Ch K C [.l rows,.i (rows.length:Int)]=some [.l (dG (cf c) rows)]:=by
 refine aa.toEq ?_;unfold Ch;dsimp +instances only[Aa,Ab,Ac,Ad,Ae,Af,Ag];have d:=abT hC rows hr (by omega);have hlen:=Cj (cf c) rows;have q:∀ rows':List (List G),rows'.length=rows.length->iv (G1 K C) [.l rows',.i (rows.length:Int),.i 20] fun _ g=>g=[.l rows']:=by
  intro rows' M;refine iv.stop (x:=0) (aa.toEq ?_) rfl;unfold G1;dsimp +instances only[Aa,Ab,Ac,Ad,Ae,Af,Ag];exact aa.n (aa.some rfl)
 by_cases k:rows.length=20
 ·have h1:sq K C [.l rows,.i (rows.length:Int),.i 20,.i 0,.i 20]=some (none,[.l (dG (cf c) rows),.i (rows.length:Int),.i 20,.i 20,.i 40]):=by
   refine aa.toEq ?_;unfold sq;dsimp +instances only[Aa,Ab,Ac,Ad,Ae,Af,Ag];have d:nP K C [.l rows,.i 0,.i 20]=some [.l (dG (cf c) rows)]:=by rw[k]at d; exact d
   refine aa.p (aa.nO (aa.eq d) (by(first|rfl|assumption|(simp only[ao,sl]<;>omega))) ?_);rintro _ rfl;dsimp +instances only[Aa,Ab,Ac,Ad,Ae,Af,Ag];exact aa.p (aa.p (aa.some rfl))
  have u:sq K C [.l (dG (cf c) rows),.i (rows.length:Int),.i 20,.i 20,.i 40]=some (some 0,[.l (dG (cf c) rows),.i (rows.length:Int),.i 20,.i 20]):=by
   refine aa.toEq ?_;unfold sq;dsimp +instances only[Aa,Ab,Ac,Ad,Ae,Af,Ag];exact aa.n (aa.p (aa.some rfl))
  refine aa.loop (P:=fun x g=>g=_) ⟨2,0,_,.next h1 (.stop u),by omega,rfl⟩ (by(first|rfl|assumption|(simp only[ao,sl]<;>omega))) ?_;rintro _ _ rfl;dsimp +instances only[Aa,Ab,Ac,Ad,Ae,Af,Ag];have v:nP K C [.l (dG (cf c) rows),.i 20,.i (rows.length:Int)]=some [.l (dG (cf c) rows)]:=by
   rw[k]; exact abU _ 20 20 (by omega) (by omega)
  refine aa.nO (aa.eq v) (by(first|rfl|assumption|(simp only[ao,sl]<;>omega))) ?_;rintro _ rfl;dsimp +instances only[Aa,Ab,Ac,Ad,Ae,Af,Ag];refine aa.loop (q _ hlen) (by(first|rfl|assumption|(simp only[ao,sl]<;>omega))) ?_;rintro _ _ rfl;exact aa.some rfl
 ·have h1:sq K C [.l rows,.i (rows.length:Int),.i 20,.i 0,.i 20]=some (some 0,[.l rows,.i (rows.length:Int),.i 20,.i 0]):=by
   refine aa.toEq ?_;unfold sq;dsimp +instances only[Aa,Ab,Ac,Ad,Ae,Af,Ag];exact aa.n (aa.p (aa.some rfl))
  refine aa.loop (P:=fun x g=>g=_) ⟨1,0,_,.stop h1,by omega,rfl⟩ (by(first|rfl|assumption|(simp only[ao,sl]<;>omega))) ?_;rintro _ _ rfl;dsimp +instances only[Aa,Ab,Ac,Ad,Ae,Af,Ag];refine aa.nO (aa.eq d) (by(first|rfl|assumption|(simp only[ao,sl]<;>omega))) ?_;rintro _ rfl;dsimp +instances only[Aa,Ab,Ac,Ad,Ae,Af,Ag];refine aa.loop (q _ hlen) (by(first|rfl|assumption|(simp only[ao,sl]<;>omega))) ?_;rintro _ _ rfl;exact aa.some rfl
theorem abW(hC:uY K C Q c)(rows:List (List G))(hr:∀ y∈rows,Q y)(d:rows.length<=20):Pu K C [.l rows]=some [.l (dG (cf c) rows)]:=by
 refine aa.toEq ?_;unfold Pu;dsimp +instances only[Aa,Ab,Ac,Ad,Ae,Af,Ag];refine aa.nO (aa.eq (abV hC rows hr d)) (by(first|rfl|assumption|(simp only[ao,sl]<;>omega))) ?_;rintro _ rfl;exact aa.some rfl
end
end Go.AL

namespace Go.AL
open Go
variable [Dr]
def uZ(K:List Kd)(C:List G->Option (List G))(Z:List G)(d:List G):Option (Option Nat × List G) :=
 (bif (aj (gi d 4).int (((gi d 3).int.toNat:Nat):Int)) then (bif ((az (gi d 4).int)&&(aj (gi d 4).int (((gi d 3).int.toNat:Nat):Int))) then (bif (decide (((gi d 2).int.toNat+((gi d 4).int).toNat)<(gi d 0).rows.length)) then (bif (ao ((gi d 4).int-1)) then (bif ((az ((gi d 4).int-1))&&(aj ((gi d 4).int-1) (((gi d 3).int.toNat:Nat):Int))) then (bif (decide (((gi d 2).int.toNat+((gi d 4).int-1).toNat)<(gi d 0).rows.length)) then (ar (C [.l [(aT K ((gi d 0).rows.getD ((gi d 2).int.toNat+((gi d 4).int).toNat) []))],.l [(aT K ((gi d 0).rows.getD ((gi d 2).int.toNat+((gi d 4).int-1).toNat) []))]]) fun g2=>(bif (!(gi g2 0).bool) then (bif ((az (gi d 4).int)&&(aj (gi d 4).int (((gi d 3).int.toNat:Nat):Int))) then (bif (decide (((gi d 2).int.toNat+((gi d 4).int).toNat)<(gi d 0).rows.length)) then (bif ((az (gi d 1).int)&&(aj (gi d 1).int (((gi d 0).rows.length:Nat):Int))) then (bif (decide ((0+((gi d 1).int).toNat)<(gi d 0).rows.length)) then (bif (ao ((gi d 1).int+1)) then (bif (ao ((gi d 4).int+1)) then (bif ((ai (gi d 0).rows.length ((gi d 0).rows.set (0+((gi d 1).int).toNat) (dx K ((gi d 0).rows.getD (0+((gi d 1).int).toNat) []) 0 (aT K ((gi d 0).rows.getD ((gi d 2).int.toNat+((gi d 4).int).toNat) [])))).length)&&true) then some (none,[.l ((gi d 0).rows.set (0+((gi d 1).int).toNat) (dx K ((gi d 0).rows.getD (0+((gi d 1).int).toNat) []) 0 (aT K ((gi d 0).rows.getD ((gi d 2).int.toNat+((gi d 4).int).toNat) [])))),.i ((gi d 1).int+1),.i (((gi d 2).int.toNat:Nat):Int),.i (((gi d 3).int.toNat:Nat):Int),.i ((gi d 4).int+1)]) else none) else none) else none) else none) else none) else none) else none) else (bif (ao ((gi d 4).int+1)) then (bif ((ai (gi d 0).rows.length (gi d 0).rows.length)&&true) then some (none,[.l (gi d 0).rows,.i (gi d 1).int,.i (((gi d 2).int.toNat:Nat):Int),.i (((gi d 3).int.toNat:Nat):Int),.i ((gi d 4).int+1)]) else none) else none))) else none) else none) else none) else none) else none) else (bif ((ai (gi d 0).rows.length (gi d 0).rows.length)&&true) then some (some 0,[.l (gi d 0).rows,.i (gi d 1).int]) else none))
def sr(K:List Kd)(C:List G->Option (List G))(Z:List G)(d:List G):Option (Option Nat × List G) :=
 (bif (aj (gi d 1).int (((gi d 0).rows.length:Nat):Int)) then (bif ((az (gi d 1).int)&&(aj (gi d 1).int (((gi d 0).rows.length:Nat):Int))) then (bif (decide ((0+((gi d 1).int).toNat)<(gi d 0).rows.length)) then (bif (ao ((gi d 1).int-1)) then (bif ((az ((gi d 1).int-1))&&(aj ((gi d 1).int-1) (((gi d 0).rows.length:Nat):Int))) then (bif (decide ((0+((gi d 1).int-1).toNat)<(gi d 0).rows.length)) then (ar (C [.l [(aT K ((gi d 0).rows.getD (0+((gi d 1).int).toNat) []))],.l [(aT K ((gi d 0).rows.getD (0+((gi d 1).int-1).toNat) []))]]) fun g1=>(bif (gi g1 0).bool then (bif ((az (gi d 1).int)&&(aZ (gi d 1).int (((gi d 0).rows.length:Nat):Int))) then (aR ((ai (gi d 0).rows.length (gi d 0).rows.length)&&true) (bV (uZ K C Z) [.l (gi d 0).rows,.i (gi d 1).int,.i (((0+((gi d 1).int).toNat):Nat):Int),.i ((((gi d 0).rows.length-((gi d 1).int).toNat):Nat):Int),.i 1]) fun g g3=>(bif ((az (gi g3 1).int)&&(aZ (gi g3 1).int (((gi g3 0).rows.length:Nat):Int))) then (bif (Nat.ble ((0+((gi g3 1).int).toNat)+((gi g3 0).rows.length-((gi g3 1).int).toNat)) (gi g3 0).rows.length) then (bif ((az (gi g3 1).int)&&(aZ (gi g3 1).int (((gi g3 0).rows.length:Nat):Int))) then some (some 0,[.l ((gi g3 0).rows.take (0+((gi g3 1).int).toNat)++bQ ((gi g3 0).rows.length-((gi g3 1).int).toNat) Z++(gi g3 0).rows.drop ((0+((gi g3 1).int).toNat)+((gi g3 0).rows.length-((gi g3 1).int).toNat))),.i (((((gi g3 1).int).toNat-0):Nat):Int)]) else none) else none) else none)) else none) else (bif (ao ((gi d 1).int+1)) then (bif ((ai (gi d 0).rows.length (gi d 0).rows.length)&&true) then some (none,[.l (gi d 0).rows,.i ((gi d 1).int+1)]) else none) else none))) else none) else none) else none) else none) else none) else (bif ((ai (gi d 0).rows.length (gi d 0).rows.length)&&true) then some (some 1,[.l (gi d 0).rows]) else none))
def PA(K:List Kd)(C:List G->Option (List G))(Z:List G)(d:List G):Option (List G) :=
 (bif (aj (((gi d 0).rows.length:Nat):Int) 2) then some [.l (gi d 0).rows,.i (((gi d 0).rows.length:Nat):Int)] else (aR ((ai (gi d 0).rows.length (gi d 0).rows.length)&&true) (bV (sr K C Z) [.l (gi d 0).rows,.i 1]) fun g g4=>(bif ai g 0 then some [.l (gi g4 0).rows,.i (((gi g4 1).int.toNat:Nat):Int)] else some [.l (gi g4 0).rows,.i (((gi g4 0).rows.length:Nat):Int)])))
def dz{α:Type}(e:α->α->Bool):α->List α->List α
 |_,[]=>[]
 |y,x::q=>bif e x y then dz e x q else x::dz e x q
def jh{α:Type}(e:α->α->Bool):List α->List α
 | []=>[]
 |x::q=>x::dz e x q
theorem PB{α:Type}(e:α->α->Bool):∀(q:List α) (y:α),(dz e y q).length<=q.length
 | [],_=>aB _
 | x::q,y=>by
  have:=PB e q x;simp only[dz];cases e x y with
  |true=>simp; omega
  |false=>simp; omega
theorem G3{α:Type}{e:α->α->Bool}:∀{q:List α} {y z:α},z∈dz e y q->z∈q
 | x::q,y,z,h=>by
  simp only[dz]at h;cases he:e x y with
  |true=>rw[he]at h; exact cq _ (G3 h)
  | false =>
   rw[he]at h;rcases bC.1 h with rfl|h
   ·exact bZ
   ·exact cq _ (G3 h)
theorem abX{α:Type}{e:α->α->Bool}:∀{l:List α} {z:α},z∈jh e l->z∈l
 | x::q,z,h=>by
  rcases bC.1 h with rfl|h
  ·exact bZ
  ·exact cq _ (G3 h)
theorem abY{α:Type}(e:α->α->Bool):∀ l:List α,(jh e l).length<=l.length
 | []=>aB _
 |x::q=>by have:=PB e q x; simp[jh]; omega
section
variable {K:List Kd} {Z:List G} {Q:List G->Prop}
structure Kds (K:List Kd) (Q:List G->Prop):Prop where
 eta:∀ r,Q r->aT K r=r
structure Cm (K:List Kd) (C:List G->Option (List G)) (Q:List G->Prop) (e:List G->List G->Bool):Prop where
 cmp:∀ r s,Q r->Q s->C [.l [r],.l [s]]=some [.t (e r s)]
 eta:∀ r,Q r->aT K r=r
variable {C:List G->Option (List G)} {ee:List G->List G->Bool}
theorem G4(hC:Cm K C Q ee):∀(q kept M:List (List G)) (y:List G) (lo len g:Nat),(∀ z∈kept++M++y::q,Q z)->lo+g=kept.length+M.length+1->g+q.length=len->kept.length+M.length+q.length<100000->1<=g ->
  ∃ m J,m<=q.length+1/\(kept++dz ee y q++J).length=kept.length+M.length+1+q.length/\jG (uZ K C Z) m [.l (kept++M++y::q),.i (kept.length:Int),.i (lo:Int),.i (len:Int),.i (g:Int)] 0 [.l (kept++dz ee y q++J),.i ((kept++dz ee y q).length:Int)]
 | [],kept,M,y,lo,len,g,k,h1,U,V,h4=>by
  refine⟨1,M++[y],by simp,by simp[dz]; omega,.stop (aa.toEq ?_)⟩;simp only[k6]at U V;unfold uZ;dsimp +instances only[Aa,Ab,Ac,Ad,Ae,Af,Ag];(repeat first|refine aa.p ?_|refine aa.n ?_);refine aa.some ?_;simp[dz]
 | x::q,kept,M,y,lo,len,g,k,h1,U,V,h4=>by
  simp only[bG]at U V;have u:Q x:=k x (by simp);have I:Q y:=k y (by simp);have g1:(kept++M++y::x::q).getD ((lo:Int).toNat+(g:Int).toNat) []=x:=by
   have e:kept++M++y::x::q=(kept++M++[y])++x::q:=by simp
   rw[e]; exact l9 _ _ _ _ _ (by simp<;>omega)
  have g2:(kept++M++y::x::q).getD ((lo:Int).toNat+((g:Int)-1).toNat) []=y:=l9 _ _ _ _ _ (by simp; omega);have hlen:(kept++M++y::x::q).length=kept.length+M.length+q.length+2:=by simp; omega
  cases he:ee x y with
  | true =>
   obtain⟨m,J,hm,W,hr⟩:=G4 hC q kept (M++[y]) x lo len (g+1) (by simpa using k) (by simp; omega) (by omega) (by simp; omega) (by omega);have e:dz ee y (x::q)=dz ee x q:=by simp[dz,he]
   refine⟨m+1,J,by simp; omega,by rw[e,W]; simp; omega,.next (aa.toEq ?_) (by rw[e]; exact hr)⟩;unfold uZ;dsimp +instances only[Aa,Ab,Ac,Ad,Ae,Af,Ag];simp only[hlen,g1,g2,hC.eta x u,hC.eta y I];(repeat first|refine aa.p ?_|refine aa.n ?_);refine aa.cE (hC.cmp x y u I) ?_;dsimp +instances only[Aa,Ab,Ac,Ad,Ae,Af,Ag]
   try simp only[he]
   (repeat first|refine aa.p ?_|refine aa.n ?_);refine aa.some ?_;simp
  | false =>
   obtain⟨O,v,e1,e2⟩:∃ O v,(kept++M++y::x::q).set kept.length x=O++v++x::q/\(O=kept++[x]/\v.length=M.length/\∀ z∈v,z∈M++[y]):=by
    cases M with
    |nil=>exact⟨kept++[x],[],by simp,rfl,rfl,by simp⟩
    |cons z M=>exact⟨kept++[x],M++[y],by simp,rfl,by simp,by simp; intro z d; rcases d with d|d<;>simp[d]⟩
   obtain⟨e2,N,e4⟩:=e2;subst e2;obtain⟨m,J,hm,W,hr⟩:=G4 hC q (kept++[x]) v x lo len (g+1) (by
    intro z d;simp only[cw,bC]at d;rcases d with((d|d)|d)|d|d
    ·exact k z (by simp[d])
    ·simp at d; exact d▸u
    ·have := e4 z d
     simp only[cw,bC]at this;rcases this with h|h|h
     ·exact k z (by simp[h])
     ·exact h▸I
     ·simp at h
    ·exact d▸u
    ·exact k z (by simp[d])) (by simp[N]; omega) (by omega) (by simp[N]; omega) (by omega)
   have e:kept++dz ee y (x::q)=(kept++[x])++dz ee x q:=by simp[dz,he]
   refine⟨m+1,J,by simp; omega,by rw[e,W]; simp[N]; omega,.next (aa.toEq ?_) (by rw[e]; exact hr)⟩;have kx:x.length=K.length:=by rw[<-hC.eta x u,Ck]
   have hl2:((kept++[x])++v++x::q).length=kept.length+M.length+q.length+2:=by simp[N]; omega
   have e1:(kept++M++y::x::q).set (0+(kept.length:Int).toNat) x=(kept++[x])++v++x::q:=by simpa using e1
   unfold uZ;dsimp +instances only[Aa,Ab,Ac,Ad,Ae,Af,Ag];simp only[hlen,g1,g2,hC.eta x u,hC.eta y I,Cl kx,e1,hl2];(repeat first|refine aa.p ?_|refine aa.n ?_);refine aa.cE (hC.cmp x y u I) ?_;dsimp +instances only[Aa,Ab,Ac,Ad,Ae,Af,Ag]
   try simp only[he]
   (repeat first|refine aa.p ?_|refine aa.n ?_);refine aa.some ?_;simp
theorem PC(hC:Cm K C Q ee):∀(q p:List (List G)) (y:List G),(∀ z∈p++y::q,Q z)->p.length+q.length<99999 ->
  (∃ m,m<=q.length+1/\dz ee y q=q/\jG (sr K C Z) m [.l (p++y::q),.i ((p.length:Int)+1)] 1 [.l (p++y::q)]) \/
  ∃ m J,m<=q.length+1/\(p++y::dz ee y q++J).length=p.length+1+q.length/\jG (sr K C Z) m [.l (p++y::q),.i ((p.length:Int)+1)] 0 [.l (p++y::dz ee y q++J),.i ((p++y::dz ee y q).length:Int)]
 | [],p,y,d,I=>by
  refine .inl ⟨1,by simp,rfl,.stop (aa.toEq ?_)⟩;simp only[k6]at I;unfold sr;dsimp +instances only[Aa,Ab,Ac,Ad,Ae,Af,Ag];(repeat first|refine aa.p ?_|refine aa.n ?_);exact aa.some rfl
 | x::q,p,y,d,I=>by
  simp only[bG]at I;have k:Q x:=d x (by simp);have u:Q y:=d y (by simp);have g1:(p++y::x::q).getD (0+((p.length:Int)+1).toNat) []=x:=by
   have e:p++y::x::q=(p++[y])++x::q:=by simp
   rw[e]; exact l9 _ _ _ _ _ (by simp<;>omega)
  have g2:(p++y::x::q).getD (0+((p.length:Int)+1-1).toNat) []=y:=l9 _ _ _ _ _ (by simp<;>omega);have hlen:(p++y::x::q).length=p.length+q.length+2:=by simp; omega
  cases he:ee x y with
  | true =>
   obtain⟨m,J,hm,M,hr⟩:=G4 hC q (p++[y]) [] x (p.length+1) (q.length+1) 1 (by simpa using d) (by simp) (by omega) (by simp; omega) (by omega);have e:p++y::dz ee y (x::q)=(p++[y])++dz ee x q:=by simp[dz,he]
   have v:(((p++[y])++dz ee x q)++J).length=p.length+q.length+2:=by rw[M]; simp; omega
   have hle:((p++[y])++dz ee x q).length<=p.length+q.length+2:=by rw[<-v]; simp
   have N:jG (uZ K C Z) m [.l (p++y::x::q),.i ((p.length:Int)+1),.i ((0+((p.length:Int)+1).toNat:Nat):Int),.i ((p.length+q.length+2-((p.length:Int)+1).toNat:Nat):Int),.i 1] 0 [.l ((p++[y])++dz ee x q++J),.i (((p++[y])++dz ee x q).length:Int)]:=by
    have O:(((p++[y]).length:Nat):Int)=(p.length:Int)+1:=by simp
    have a2:((p.length+1:Nat):Int)=((0+((p.length:Int)+1).toNat:Nat):Int):=by omega
    have a3:((q.length+1:Nat):Int)=((p.length+q.length+2-((p.length:Int)+1).toNat:Nat):Int):=by omega
    rw[O,a2,a3]at hr;simpa using hr
   refine .inr ⟨1,bQ (p.length+q.length+2-((p++[y])++dz ee x q).length) Z,by simp,by rw[e,en,tc]; simp at hle|-; omega,.stop (aa.toEq ?_)⟩;rw[e];generalize hw:(p++[y])++dz ee x q=w at *;unfold sr;dsimp +instances only[Aa,Ab,Ac,Ad,Ae,Af,Ag];simp only[hlen,g1,g2,hC.eta x k,hC.eta y u];(repeat first|refine aa.p ?_|refine aa.n ?_);refine aa.cE (hC.cmp x y k u) ?_;dsimp +instances only[Aa,Ab,Ac,Ad,Ae,Af,Ag]
   try simp only[he]
   (repeat first|refine aa.p ?_|refine aa.n ?_);refine aa.loop (P:=fun x g=>g=_) ⟨m,0,_,N,by omega,rfl⟩ (by(first|rfl|assumption|(simp only[ao,sl]<;>omega))) ?_;rintro _ _ rfl;dsimp +instances only[Aa,Ab,Ac,Ad,Ae,Af,Ag];simp only[v];(repeat first|refine aa.p ?_|refine aa.n ?_);refine aa.some ?_;have t1:List.take (0+(w.length:Int).toNat) (w++J)=w:=by simp
   have t2:List.drop (0+(w.length:Int).toNat+(p.length+q.length+2-(w.length:Int).toNat)) (w++J)=[]:=by
    apply D8; rw[v]; omega
   rw[t1,t2];simp
  | false =>
   have e:dz ee y (x::q)=x::dz ee x q:=by simp[dz,he]
   have key:sr K C Z [.l (p++y::x::q),.i ((p.length:Int)+1)]=some (none,[.l ((p++[y])++x::q),.i ((((p++[y]).length:Nat):Int)+1)]):=by
    refine aa.toEq ?_;unfold sr;dsimp +instances only[Aa,Ab,Ac,Ad,Ae,Af,Ag];simp only[hlen,g1,g2,hC.eta x k,hC.eta y u];(repeat first|refine aa.p ?_|refine aa.n ?_);refine aa.cE (hC.cmp x y k u) ?_;dsimp +instances only[Aa,Ab,Ac,Ad,Ae,Af,Ag]
    try simp only[he]
    (repeat first|refine aa.p ?_|refine aa.n ?_);refine aa.some ?_;simp
   rcases PC hC q (p++[y]) x (by simpa using d) (by simp; omega)with⟨m,hm,U,hr⟩|⟨m,J,hm,M,hr⟩
   ·refine .inl ⟨m + 1, by simp; omega, by rw [e, U], .next key ?_⟩
    have:p++y::x::q=(p++[y])++x::q:=by simp
    rw[this]; exact hr
   ·have e' : p ++ y :: dz ee y (x :: q) = (p ++ [y]) ++ x :: dz ee x q := by rw [e]; simp
    refine .inr ⟨m+1,J,by simp; omega,by rw[e',M]; simp; omega,.next key ?_⟩;rw[e']; exact hr
theorem abZ(hC:Cm K C Q ee)(rows:List (List G))(hr:∀ y∈rows,Q y)(d:rows.length<99999):aa (PA K C Z [.l rows]) fun g=>∃ J,g=[.l (jh ee rows++J),.i ((jh ee rows).length:Int)]/\(jh ee rows++J).length=rows.length:=by
 unfold PA;dsimp +instances only[Aa,Ab,Ac,Ad,Ae,Af,Ag]
 match rows,hr,d with
 | [],_,_=>exact aa.p (aa.some ⟨[],rfl,rfl⟩)
 | [x],_,_=>exact aa.p (aa.some ⟨[],rfl,rfl⟩)
 | y::x::q,hr,d =>
  simp only[bG]at d;refine aa.n ?_;rcases PC hC (x::q) [] y (by simpa using hr) (by simp; omega)with⟨m,hm,k,hr⟩|⟨m,J,hm,u,hr⟩
  ·refine aa.loop (P := fun x g => x = 1 /\ g = _) ⟨m, 1, _, hr, by simp at hm; omega, rfl, rfl⟩ (by (first|rfl|assumption|(simp only [ao,sl]<;>omega))) ?_
   rintro _ _ ⟨rfl,rfl⟩;refine aa.n (aa.some ⟨[],?_,?_⟩)
   ·(dsimp +instances only [Aa,Ab,Ac,Ad,Ae,Af,Ag])
    simp[jh,k]
   ·simp[jh,k]
  ·refine aa.loop (P := fun x g => x = 0 /\ g = _) ⟨m, 0, _, hr, by simp at hm; omega, rfl, rfl⟩ (by (first|rfl|assumption|(simp only [ao,sl]<;>omega))) ?_
   rintro _ _ ⟨rfl,rfl⟩;refine aa.p (aa.some ⟨J,?_,?_⟩)
   ·(dsimp +instances only [Aa,Ab,Ac,Ad,Ae,Af,Ag])
    simp[jh]
   ·simpa[jh,Nat.add_comm]using u
end
end Go.AL

namespace Go.AL
open Go
variable [Dr]
section
variable {K:List Kd} {Q:List G->Prop}
end
end Go.AL

namespace Go.AL
open Go
variable [Dr]
section
variable {K:List Kd} {Z:List G} {Q:List G->Prop} {C:List G->Option (List G)} {cp:G->G} {cap:G} {p:List G->Bool}
structure Prd (K:List Kd) (C:List G->Option (List G)) (cp:G->G) (cap:G) (Q:List G->Prop) (p:List G->Bool):Prop where
 cmp:∀ r,Q r->C [.l [r],cap]=some [.t (p r)]
 eta:∀ r,Q r->aT K r=r
 fix:cp cap=cap
end
section
variable {K:List Kd} {Z:List G}
end
end Go.AL

namespace Go.AL
open Go
variable [Dr]
section sort
variable {α:Type} {lt:α->α->Bool}
theorem Cn(x:α):∀ p:List α,(iw lt x p).Perm (x::p)
 | []=>ra _
 | y::p=>by
  simp only[iw];cases lt x y with
  |true=>exact(List.Perm.cons y (Cn x p)).trans (List.Perm.swap x y p)
  |false=>exact ra _
theorem PD:∀(r p:List α),(kK lt p r).Perm (p++r)
 | [],p=>by simp[kK]
 | x::r,p=>by
  simp only[kK];refine(PD r (iw lt x p)).trans ?_;refine(List.Perm.append_right r (Cn x p)).trans ?_;simpa using(List.perm_middle (a:=x) (l₁:=p) (l₂:=r)).symm
theorem u3(l:List α):(dG lt l).Perm l:=by
 unfold dG;exact(List.reverse_perm _).trans (by simpa using PD (lt:=lt) l [])
structure gf (lt:α->α->Bool) (Q:α->Prop):Prop where
 tr:∀ a b c,Q a->Q b->Q c->lt a b=false->lt b c=false->lt a c=false
 Co:∀ a b,Q a->Q b->lt a b=true->lt b a=false
variable {Q:α->Prop}
theorem PE(k:gf lt Q){x:α}(q:Q x):∀{p:List α},(∀ y∈p,Q y)->p.Pairwise (fun a b=>lt a b=false)->(iw lt x p).Pairwise (fun a b=>lt a b=false)
 | [],_,_=>by simp[iw]
 | y::p,v,I=>by
  obtain⟨h1,N⟩:=ot.1 I;have M:=v y bZ;have u:∀ z∈p,Q z:=fun z d=>v z (cq _ d);simp only[iw];cases g:lt x y with
  | true =>
   refine ot.2 ⟨fun z d=>?_,PE k q u N⟩;rcases bC.1 ((Cn x p).mem_iff.1 d)with rfl|d
   ·exact k.Co _ _ q M g
   ·exact h1 z d
  | false =>
   refine ot.2 ⟨fun z d=>?_,I⟩;rcases bC.1 d with rfl|d
   ·exact g
   ·exact k.tr x y z q M (u z d) g (h1 z d)
theorem PF(k:gf lt Q):∀{r p:List α},(∀ y∈p,Q y)->(∀ y∈r,Q y)->p.Pairwise (fun a b=>lt a b=false)->(kK lt p r).Pairwise (fun a b=>lt a b=false)
 | [],_,_,_,g=>by simpa[kK]using g
 | x::r,p,q,hr,g=>by
  simp only[kK];refine PF k (fun y d=>?_) (fun y d=>hr y (cq _ d)) (PE k (hr x bZ) q g);rcases bC.1 ((Cn x p).mem_iff.1 d)with rfl|d
  ·exact hr _ bZ
  ·exact q y d
theorem Cp(d:gf lt Q){l:List α}(g:∀ y∈l,Q y):(dG lt l).Pairwise (fun a b=>lt b a=false):=by
 unfold dG;rw[List.pairwise_reverse];exact PF d (by simp) g List.Pairwise.nil
theorem G5:∀{l r:List α},l.Perm r->(∀ a∈l,∀ b∈l,lt a b=false->lt b a=false->a=b)->l.Pairwise (fun a b=>lt b a=false)->r.Pairwise (fun a b=>lt b a=false)->l=r
 | [],r,d,_,_,_=>d.nil_eq
 |a::l,[],d,_,_,_=>by simpa using d.length_eq
 | a::l,b::r,d,ha,h1,u=>by
  obtain⟨v,I⟩:=ot.1 h1;obtain⟨M,N⟩:=ot.1 u;have e:a=b:=by
   have hb:b∈a::l:=d.symm.subset bZ;have k:a∈b::r:=d.subset bZ;rcases bC.1 hb with e|q
   ·exact e.symm
   ·rcases bC.1 k with e | g
    ·exact e
    ·exact ha a bZ b hb (M a g) (v b q)
  subst e;rw[G5 ((List.perm_cons a).1 d) (fun x O y U=>ha x (cq _ O) y (cq _ U)) I N]
theorem PG(d:gf lt Q){l r:List α}(g:l.Perm r)(k:∀ y∈l,Q y)(ha:∀ a∈l,∀ b∈l,lt a b=false->lt b a=false->a=b):dG lt l=dG lt r :=
 G5 ((u3 l).trans (g.trans (u3 r).symm)) (fun a h b h'=>ha a ((u3 l).mem_iff.1 h) b ((u3 l).mem_iff.1 h')) (Cp d k)
  (Cp d fun y q=>k y (g.mem_iff.2 q))
end sort
theorem Cq{sp:iu}{tl:List G->Option (Option Nat × List G)}{rows:List (List G)}{clock:Nat}{d:List G}{r:Option Nat × List G}(g:mU rows clock=true)
  (h:∀ b p,p.Perm rows->sp.side d b=true/\∃ d',eC sp.st sp.bl p (sp.init d b)=some d'/\tl d'=some r):lv sp tl rows clock d=some r:=by
 unfold lv;rw[g];refine abm fun b p k=>?_;obtain⟨h1,d',q,u⟩:=h b p k;rw[h1,cond_true,q];exact u
end Go.AL

namespace Go.AL
open Go
variable [Dr]
section
variable {α:Type} (f:α->Int)
end
section
variable {α:Type} {e:α->α->Bool}
end
end Go.AL

namespace Go.AL
open Go
variable [Dr]
section
variable {K:List Kd} {C:List G->Option (List G)} {Q:List G->Prop} {c:List G->List G->Int}
end
end Go.AL

namespace Go.AL
open Go
variable [Dr]
section
variable {C:List G->Option (List G)} {Q:List G->Prop} {c:List G->List G->Int}
theorem gf.mono{α:Type}{lt:α->α->Bool}{Q k:α->Prop}(h:gf lt Q)(g:∀ a,k a->Q a):gf lt k :=
 ⟨fun a b d ha hb q=>h.tr a b d (g a ha) (g b hb) (g d q),fun a b ha hb=>h.Co a b (g a ha) (g b hb)⟩
def su(C:List G->Option (List G))(Q:List G->Prop)(c:List G->List G->Int):Prop:=∀ r s,Q r->Q s->∃ v,C [.l [r],.l [s]]=some [.i v]/\(v<0↔c r s<0)
end
end Go.AL

namespace Go.AL
open Go Go.Proofs
variable [Dr]
variable {C:List G->Option (List G)} {Q:List G->Prop} {c:List G->List G->Int}
theorem PH(hC:su C Q c){r s:List G}(hr:Q r)(d:Q s):decide (yq C r s<0)=cf c r s:=by
 obtain⟨v,h,g⟩:=hC r s hr d;unfold yq cf;rw[h,cd];show decide (v<0)=_
 rw[lJ,decide_eq_true_eq,decide_eq_true_eq];exact g
theorem sv(hC:su C Q c){rows:List (List G)}(hr:∀ y∈rows,Q y)(h0:rows≠[])(i j:Nat):ltOf (nN C rows) i j=cf c (gy rows i) (gy rows j) :=
 PH hC (hr _ (yr h0 i)) (hr _ (yr h0 j))
theorem ab0(hC:su C Q c)(g:gf (cf c) Q){rows:List (List G)}(hr:∀ y∈rows,Q y)(h0:rows≠[])(q:rows.length<100000):se C rows:=by
 have d:=fun i=>hr _ (yr h0 i);refine⟨fun r h s h'=>by obtain⟨v,e,_⟩:=hC r s (hr r h) (hr s h'); exact⟨v,e⟩,⟨fun x=>?_,fun x y z=>?_,fun x y z=>?_⟩,by omega⟩
 ·rw [sv hC hr h0]
  cases h:cf c (gy rows x) (gy rows x)with
  |false=>rfl
  |true=>rw[g.Co _ _ (d x) (d x) h]at h; cases h
 ·rw [sv hC hr h0, sv hC hr h0, sv hC hr h0]
  intro h1 k;cases h:cf c (gy rows x) (gy rows z)with
  |true=>rfl
  | false =>
   have:=g.tr _ _ _ (d x) (d z) (d y) h (g.Co _ _ (d y) (d z) k);rw[this]at h1;cases h1
 ·rw [sv hC hr h0, sv hC hr h0, sv hC hr h0]
  exact g.tr _ _ _ (d x) (d y) (d z)
theorem ab1(hC:su C Q c)(k:gf (cf c) Q)(rows:List (List G))(hr:∀ y∈rows,Q y)(q:rows.length<100000) :
  ∃ out,sk C [.l rows]=some [.l out]/\out.Perm rows/\out.Pairwise fun a b=>cf c b a=false:=by
 unfold sk;have e:(gi [G.l rows] 0).rows=rows:=rfl;rw[e];by_cases h0:rows=[]
 ·rw [if_pos h0, h0]
  exact⟨[],rfl,ra _,List.Pairwise.nil⟩
 ·have d := ab0 hC k hr h0 q
  rw[if_neg h0,if_pos d];have g:=Pl d;refine⟨_,rfl,g,?_⟩;refine amx ?_ (abD d);intro a b h1 u h;rw[<-PH hC (hr b (g.mem_iff.1 u)) (hr a (g.mem_iff.1 h1)),decide_eq_false_iff_not];exact h
theorem PI(hC:su C Q c)(g:gf (cf c) Q)(rows:List (List G))(hr:∀ y∈rows,Q y)(k:rows.length<100000)(ha:∀ a∈rows,∀ b∈rows,cf c a b=false->cf c b a=false->a=b) :
  sk C [.l rows]=some [.l (dG (cf c) rows)]:=by
 obtain⟨out,h,d,q⟩:=ab1 hC g rows hr k;rw[h,G5 (d.trans (u3 (lt:=cf c) rows).symm) (fun a h1 b u=>ha a (d.mem_iff.1 h1) b (d.mem_iff.1 u)) q (Cp g hr)]
end Go.AL

namespace Go.AL
open Go
variable [Dr]
noncomputable abbrev yx(r:List G):Int:=(gi r 0).int
noncomputable abbrev sw(r:List G):Int:=(gi r 1).int
def IsR(r:List G):Prop:=r=[.i (yx r),.i (sw r)]/\yx r<sw r
def PJ(l:List (List G))(n:Int):Prop:=∃ r∈l,yx r<=n/\n<sw r
def ab3(l:List (List G)):Prop:=(∀ r∈l,IsR r)/\l.Pairwise fun r s=>sw r<yx s
structure amp (out:List (List G)) (a b:Int) (os:List (List G)) (ps:List (List G)) (f:Int):Prop where
 low:a<=f
 at_:f=a\/∃ o∈os,f=sw o
 past:∀ o∈os,sw o<=f\/b<=yx o
 mem:∀ n,PJ ps n↔a<=n/\n<f/\n<b/\¬ PJ os n
 can:ab3 (out++ps)
 gap:∀ s∈out++ps,sw s<f
 many:ps.length<=os.length
end Go.AL
