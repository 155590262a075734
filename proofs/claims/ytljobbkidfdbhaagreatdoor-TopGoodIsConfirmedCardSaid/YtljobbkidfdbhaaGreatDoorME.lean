/-
 What is proved here: rules by which lifted functions are shown to give what they should. No program in sight; no condition.
-/
import Derived.Test.YtljobbkidfdbhaaGreatDoorMD
import Derived.Test.YtljobbkidfdbhaaGreatDoorMH
set_option linter.all false
open Bool renaming and_eq_true→ax,eq_iff_iff→oN
open List renaming length_cons→cw,getElem?_eq_getElem→bI,getD_eq_getElem?_getD→cf,mem_cons→bW,length_append→fb,mem_append→cS,replicate→bM,mem_cons_self→cW,mem_cons_of_mem→c9,drop_eq_nil_of_le→QT,length_replicate→wF,length_nil→ma,pairwise_cons→np
open List.Pairwise renaming imp_of_mem→afD
open List.Perm renaming refl→oO
open Nat renaming le_refl→aB,beq→ad
namespace Go.AL
open Go
variable [Dr]
def aa{β:Type}(x:Option β)(Q:β→Prop):Prop:=∃ r,x=some r∧Q r
def jN(st:List G→Option (Option Nat × List G))(d:List G)(Q:Nat→List G→Prop):Prop:=∃ n x d',iL st n d x d'∧n≤1000000∧Q x d'
namespace aa
variable {β:Type} {Q:β→Prop}
theorem some{r:β}(h:Q r):aa (some r) Q:=⟨r,rfl,h⟩
theorem pos{b:Bool}{x y:Option β}(h:b=true)(d:aa x Q):aa (bif b then x else y) Q:=by subst h; exact d
theorem neg{b:Bool}{x y:Option β}(h:b=false)(d:aa y Q):aa (bif b then x else y) Q:=by subst h; exact d
theorem test{b:Bool}{x y:Option β}(d:b=true→aa x Q)(g:b=false→aa y Q):aa (bif b then x else y) Q:=by
 cases b with
 |true=>exact d rfl
 |false=>exact g rfl
theorem call{t:Option (List G)}{k:List G→Option β}{P:List G→Prop}(h:aa t P)(hk:∀ g,P g→aa (k g) Q):aa (aA t k) Q:=by
 obtain⟨r,h,d⟩:=h;subst h;exact hk r d
theorem oe{c:Bool}{t:Option (List G)}{k:List G→Option β}{P:List G→Prop}(h:aa t P)(d:c=true)(hk:∀ g,P g→aa (k g) Q):aa (iK (c&&t.isSome) t k) Q:=by
 obtain⟨r,h,q⟩:=h;subst h d;exact hk r q
theorem loop{c:Bool}{st:List G→Option (Option Nat × List G)}{d:List G}{k:Nat→List G→Option β}{P:Nat→List G→Prop}(h:jN st d P)(q:c=true)(hk:∀ x g,P x g→aa (k x g) Q):aa (aN c (bT st d) k) Q:=by
 obtain⟨n,x,d',h,u,v⟩:=h;rw[h.UY u];subst q;exact hk x d' v
theorem tail{c:Bool}{t:Option (Option Nat × List G)}{k:Nat→List G→Option β}{P:Nat→List G→Prop}(h:aa t fun o=>∃ x,o.1=Option.some x∧P x o.2)(u:c=true)(hk:∀ x g,P x g→aa (k x g) Q) :
  aa (aN c (bU t) k) Q:=by
 obtain⟨⟨o,d⟩,rfl,x,q,v⟩:=h;simp only at q;subst q u;exact hk x d v
theorem mono{x:Option β}{P:β→Prop}(h:aa x P)(d:∀ r,P r→Q r):aa x Q:=by
 obtain⟨r,h,g⟩:=h;exact⟨r,h,d r g⟩
theorem eq{x:Option β}{r:β}(h:x=Option.some r):aa x (fun g=>g=r):=⟨r,h,rfl⟩
theorem toEq{x:Option β}{r:β}(h:aa x (fun g=>g=r)):x=Option.some r:=by
 obtain⟨r',h,rfl⟩:=h;exact h
end aa
theorem jN.stop{st:List G→Option (Option Nat × List G)}{d d':List G}{x:Nat}{Q:Nat→List G→Prop}(h:st d=some (some x,d'))(g:Q x d'):jN st d Q:=⟨1,x,d',.stop h,by omega,g⟩
def aX(st:List G→Option (Option Nat × List G))(d:List G)(m:Nat)(Q:Nat→List G→Prop):Prop:=∃ n x d',iL st n d x d'∧n≤m∧Q x d'
theorem aX.stop{st:List G→Option (Option Nat × List G)}{d d':List G}{x m:Nat}{Q:Nat→List G→Prop}(h:st d=some (some x,d'))(g:Q x d'):aX st d (m+1) Q:=⟨1,x,d',.stop h,by omega,g⟩
theorem aX.next{st:List G→Option (Option Nat × List G)}{d d1:List G}{m:Nat}{Q:Nat→List G→Prop}(h:st d=some (none,d1))(g:aX st d1 m Q):aX st d (m+1) Q:=by
 obtain⟨n,x,d',h1,q,k⟩:=g;exact⟨n+1,x,d',.next h h1,by omega,k⟩
theorem aX.to{st:List G→Option (Option Nat × List G)}{d:List G}{m:Nat}{Q:Nat→List G→Prop}(h:aX st d m Q)(hm:m≤1000000):jN st d Q:=by
 obtain⟨n,x,d',h1,k,g⟩:=h;exact⟨n,x,d',h1,by omega,g⟩
theorem jN.mono{st:List G→Option (Option Nat × List G)}{d:List G}{P Q:Nat→List G→Prop}(h:jN st d P)(k:∀ x g,P x g→Q x g):jN st d Q:=by
 obtain⟨n,x,d',h1,q,u⟩:=h;exact⟨n,x,d',h1,q,k _ _ u⟩
theorem aX.mono{st:List G→Option (Option Nat × List G)}{d:List G}{m:Nat}{P Q:Nat→List G→Prop}(h:aX st d m P)(k:∀ x g,P x g→Q x g):aX st d m Q:=by
 obtain⟨n,x,d',h1,q,u⟩:=h;exact⟨n,x,d',h1,q,k _ _ u⟩
theorem VQ{p:Prop}{i:Decidable p}:(@decide p i=true)↔p:=by simp
theorem VR{p:Prop}{i:Decidable p}:(@decide p i=false)↔¬ p:=by simp
theorem Lk{a b:Nat}:ad a b=true↔a=b:=⟨Nat.eq_of_beq_eq_true,fun h=>h▸Nat.beq_refl a⟩
theorem Aa(a:G)(l:List G):gi (a::l) 0=a:=rfl
theorem Ab(a:G)(l:List G)(i:Nat):gi (a::l) (i+1)=gi l i:=rfl
theorem Ac(r:List G)(l:List (List G)):(G.l (r::l)).row=r:=rfl
theorem Ad(l:List (List G)):(G.l l).rows=l:=rfl
theorem Ae(n:Int):(G.i n).int=n:=rfl
theorem Af(s:ByteArray):(G.s s).str=s:=rfl
theorem Ag(b:Bool):(G.t b).bool=b:=rfl
theorem sl:(∀ a b:Int,aj a b=decide (a<b))∧(∀ a b:Int,be a b=decide (a≤b))∧(∀ n:Int,az n=decide (0≤n))∧(∀ b:Bool,(b&&true)=b)∧(∀ b:Bool,(true&&b)=b) ∧
  (∀ a b:Bool,((a&&b)=true)=(a=true∧b=true))∧(∀ a b:Bool,((a&&b)=false)=(a=false∨b=false))∧(∀(p:Prop) (i:Decidable p),(@decide p i=true)=p)∧(∀(p:Prop) (i:Decidable p),(@decide p i=false)=¬ p) ∧
  (∀ b:Bool,((!b)=true)=(b=false))∧(∀ b:Bool,((!b)=false)=(b=true))∧(∀ a b:Int,((a==b)=true)=(a=b))∧(∀ a b:Int,((a==b)=false)=¬ (a=b))∧(∀ a b:Int,((a != b)=true)=¬ (a=b))∧(∀ a b:Int,((a != b)=false)=(a=b)) ∧
  (∀(α:Type) (a b:α),(a≠b)=¬ (a=b))∧(∀ a b:Nat,(ad a b=true)=(a=b))∧(∀ a b:Nat,(Nat.ble a b=true)=(a≤b))∧(∀ a b:Nat,(Nat.blt a b=true)=(a<b)) ∧
  (∀(l:List (List G)) (i:Nat) (x:List G),(l.set i x).length=l.length)∧(∀(α:Type) (l r:List α),(l++r).length=l.length+r.length)∧(∀(n:Nat) (x:List G),(bM n x).length=n) ∧
  (∀(α:Type) (x:α) (l:List α),(x::l).length=l.length+1)∧(∀ α:Type,([]:List α).length=0)∧(∀(l:List (List G)) (n:Nat),(l.take n).length=min n l.length)∧(∀(l:List (List G)) (n:Nat),(l.drop n).length=l.length-n) ∧
  (∀ n:Nat,((n:Int)).toNat=n)∧(∀ p:Prop,(True∧p)=p)∧(∀ p:Prop,(p∧True)=p)∧(∀ a b:Bool,((a==b)=true)=(a=b)) :=
 ⟨dm, eu, jz, Bool.and_true, Bool.true_and, ax, fun a b => by cases a <;> cases b <;> simp, fun _ _ => propext VQ, fun _ _ => propext VR, fun b => by cases b <;> simp, fun b => by cases b <;> simp,
  fun a b=>by simp,fun a b=>by simp,fun a b=>by simp,fun a b=>by simp,fun _ a b=>rfl,fun a b=>propext Lk,fun a b=>by simp,fun a b=>by simp,fun l i x=>List.length_set,fun _ l r=>fb,fun n x=>wF,
  fun _ x l=>rfl,fun _=>rfl,fun l n=>List.length_take,fun l n=>List.length_drop,fun n=>Int.toNat_natCast n,fun p=>true_and p,fun p=>and_true p,fun a b=>by cases a<;>cases b<;>simp⟩
theorem aa.p{β:Type}{Q:β→Prop}{b:Bool}{x y:Option β}(d:aa x Q)(h:b=true:=by first|rfl|assumption|(simp only[ao,sl]<;>omega)):aa (bif b then x else y) Q:=aa.pos h d
theorem aa.n{β:Type}{Q:β→Prop}{b:Bool}{x y:Option β}(d:aa y Q)(h:b=false:=by first|rfl|assumption|(simp only[ao,sl]<;>omega)):aa (bif b then x else y) Q:=aa.neg h d
theorem aa.cE{β:Type}{Q:β→Prop}{t:Option (List G)}{r:List G}{k:List G→Option β}(h:t=Option.some r)(hk:aa (k r) Q):aa (aA t k) Q:=aa.call (aa.eq h) fun _ e=>by subst e; exact hk

end Go.AL

namespace Go.AL
open Go
variable [Dr]
theorem Dl{σ:Type}{st:List G→Option (Option Nat × List G)}(mk:σ→Nat→List G)(n:Nat)(fin:σ→Nat × List G)(I:σ→Nat→Prop)(E:Nat→List G→Prop)
  (q:∀ s i,I s i→i<n→aa (st (mk s i)) fun o=>(∃ s',o=(none,mk s' (i+1))∧I s' (i+1))∨∃ c g,o=(some c,g)∧E c g)
  (u:∀ s,I s n→aa (st (mk s n)) fun o=>o=(some (fin s).1,(fin s).2)) :
  ∀(k:Nat) (s:σ) (i:Nat),i+k=n→I s i→aX st (mk s i) (k+1) fun c g=>(∃ s',I s' n∧c=(fin s').1∧g=(fin s').2)∨E c g
 | 0,s,i,hi,d=>by
  have e:i=n:=hi;subst e;obtain⟨o,h,rfl⟩:=u s d;exact aX.stop h (.inl ⟨s,d,rfl,rfl⟩)
 | k+1,s,i,hi,d=>by
  obtain⟨o,h,⟨s',rfl,v⟩|⟨c,g,rfl,y⟩⟩:=q s i d (by omega)
  ·exact aX.next h (Dl mk n fin I E q u k s' (i+1) (by omega) v)
  ·exact aX.stop h (.inr y)
theorem pK{rows:List (List G)}{i:Nat}(h:i<rows.length):rows.getD i []∈rows:=by
 rw[cf,bI h];exact List.getElem_mem h
theorem VS{rows:List (List G)}{i:Nat}(h:i<rows.length):rows.take (i+1)=rows.take i++[rows.getD i []]:=by
 rw[List.take_add_one,cf,bI h];rfl
theorem VT{σ:Type}{st:List G→Option (Option Nat × List G)}(mk:σ→Nat→List G)(rows:List (List G))(fin:σ→Nat × List G)(I:σ→Nat→Prop)(E:Nat→List G→Prop)(s:σ)
  (hlen:rows.length<999999) (h0:I s 0)
  (d:∀ s i x,I s i→i<rows.length→rows.getD i []=x→x∈rows→rows.take (i+1)=rows.take i++[x]→aa (st (mk s i)) fun o=>(∃ s',o=(none,mk s' (i+1))∧I s' (i+1))∨∃ c g,o=(some c,g)∧E c g)
  (h:∀ s,I s rows.length→aa (st (mk s rows.length)) fun o=>o=(some (fin s).1,(fin s).2)) :
  jN st (mk s 0) fun c g=>(∃ s',I s' rows.length∧c=(fin s').1∧g=(fin s').2)∨E c g :=
 (Dl mk rows.length fin I E (fun s i k hi=>d s i _ k hi rfl (pK hi) (VS hi)) h rows.length s 0 (by omega) h0).to (by omega)
theorem za{σ:Type}{st:List G→Option (Option Nat × List G)}(mk:σ→Nat→List G)(rows:List (List G))(fin:σ→Nat × List G)(I:σ→Nat→Prop)(s:σ)
  (hlen:rows.length<999999) (h0:I s 0)
  (k:∀ s i x,I s i→i<rows.length→rows.getD i []=x→x∈rows→rows.take (i+1)=rows.take i++[x]→aa (st (mk s i)) fun o=>∃ s',o=(none,mk s' (i+1))∧I s' (i+1))
  (q:∀ s,I s rows.length→aa (st (mk s rows.length)) fun o=>o=(some (fin s).1,(fin s).2)) :
  jN st (mk s 0) fun c g=>∃ s',I s' rows.length∧c=(fin s').1∧g=(fin s').2 :=
 (VT mk rows fin I (fun _ _=>False) s hlen h0 (fun s i x a b c d e=>(k s i x a b c d e).mono fun _ h=>.inl h) q).mono fun _ _ h=>h.elim id False.elim
end Go.AL

namespace Go.AL
open Go
variable [Dr]
theorem Dm{α:Type}[BEq α][LawfulBEq α](a b:α):(a==b)=(b==a):=by
 rw[oN];simp only[beq_iff_eq];exact eq_comm
theorem VU{k:Kd}{a b:G}:pg k a b=pg k b a:=by
 cases k
 ·exact Dm _ _
 ·exact Dm _ _
 ·exact Dm _ _
 ·rfl
theorem VV{k:Kd}{a b c:G}(h1:pg k a b=true)(d:pg k b c=true):pg k a c=true:=by
 cases k<;>simp only[pg,beq_iff_eq]at *<;>first|exact h1.trans d|cases h1
theorem pL:∀{K:List Kd} {a b:List G},aR K a b=aR K b a
 | [],_,_=>rfl
 |k::K,a,b=>by simp only[aR,VU (a:=a.headD default),pL (K:=K) (a:=a.tail)]
theorem pM:∀{K:List Kd} {a b c:List G},aR K a b=true→aR K b c=true→aR K a c=true
 | [],_,_,_,_,_=>rfl
 | k::K,a,b,c,h1,d=>by
  simp only[aR,ax]at *;exact⟨VV h1.1 d.1,pM h1.2 d.2⟩
theorem VW{K:List Kd}{a b c:List G}(h:aR K a b=true):aR K a c=aR K b c:=by
 rw[oN];constructor
 ·exact fun d=>pM (by rw[pL]; exact h) d
 ·exact fun d=>pM h d
theorem vh{K:List Kd}{a b c:List G}(h:aR K a b=true):aR K c a=aR K c b:=by
 rw[pL,VW h,pL]
theorem mL(ks:List Kd)(key:List G):∀(rows:List (List G)) (i:Nat),bS ks key rows i=(bS ks key rows 0).map fun p=>(p.1+i,p.2)
 | [],i=>rfl
 | r::rs,i=>by
  simp only[bS];cases aR ks key (gi r 0).row with
  |true=>simp
  | false =>
   simp only[cond_false];rw[mL ks key rs (i+1),mL ks key rs (0+1),Option.map_map];congr 1
   funext p
   simp;omega
theorem Dn(ks:List Kd)(key z:List G):aw ks [] key z=z:=rfl
theorem zb(ks:List Kd)(r:List G)(rs:List (List G))(key z:List G):aw ks (r::rs) key z=bif aR ks key (gi r 0).row then (gi r 1).row else aw ks rs key z:=by
 unfold aw;simp only[bS];cases aR ks key (gi r 0).row with
 |true=>rfl
 | false =>
  simp only[cond_false];rw[mL ks key rs (0+1)];cases bS ks key rs 0<;>rfl
theorem Ll(ks:List Kd)(key:List G):dN ks [] key=false:=rfl
theorem zd(ks:List Kd)(r:List G)(rs:List (List G))(key:List G):dN ks (r::rs) key=(aR ks key (gi r 0).row||dN ks rs key):=by
 unfold dN;simp only[bS];cases aR ks key (gi r 0).row with
 |true=>rfl
 | false =>
  simp only[cond_false];rw[mL ks key rs (0+1)];cases bS ks key rs 0<;>rfl
theorem Dp(ks:List Kd)(key val:List G)(c:Nat):aI ks [] key val c=[[.l [key],.l [val],.i c]]:=rfl
theorem Dq(ks:List Kd)(r:List G)(rs:List (List G))(key val:List G)(c:Nat) :
  aI ks (r::rs) key val c=bif aR ks key (gi r 0).row then [.l [key],.l [val],.i (gi r 2).int]::rs else r::aI ks rs key val c:=by
 unfold aI;simp only[bS];cases aR ks key (gi r 0).row with
 |true=>rfl
 | false =>
  simp only[cond_false];rw[mL ks key rs (0+1)];cases bS ks key rs 0<;>rfl
theorem vj(ks:List Kd)(k v key z:List G)(c:Nat):∀ rows:List (List G),aw ks (aI ks rows k v c) key z=bif aR ks key k then v else aw ks rows key z
 | []=>by simp only[Dp,zb,Dn]; rfl
 | r::rs=>by
  rw[Dq,zb];cases h:aR ks k (gi r 0).row with
  | true =>
   simp only[cond_true,zb];have e:aR ks key (gi r 0).row=aR ks key k:=(vh h).symm;rw[e];cases d:aR ks key k with
   |true=>simp only[Aa,Ac,d,cond_true]; rfl
   |false=>simp only[Aa,Ac,d,cond_false]
  | false =>
   simp only[cond_false,zb,vj ks k v key z c rs];cases d:aR ks key (gi r 0).row with
   |false=>rfl
   | true =>
    cases g:aR ks key k with
    |false=>rfl
    | true =>
     have:aR ks k (gi r 0).row=true:=pM (by rw[pL]; exact g) d;rw[this]at h;cases h
theorem Lm(ks:List Kd)(k v key:List G)(c:Nat):∀ rows:List (List G),dN ks (aI ks rows k v c) key=(aR ks key k||dN ks rows key)
 | []=>by simp only[Dp,zd,Ll]; rfl
 | r::rs=>by
  rw[Dq,zd];cases h:aR ks k (gi r 0).row with
  | true =>
   simp only[cond_true,zd];have e:aR ks key (gi r 0).row=aR ks key k:=(vh h).symm;rw[e];simp only[Aa,Ac];cases aR ks key k<;>simp
  | false =>
   simp only[cond_false,zd,Lm ks k v key c rs];cases aR ks key (gi r 0).row<;>simp
end Go.AL

namespace Go.AL
open Go
variable [Dr]
def vk(K:List Kd)(C:List G→Option (List G))(d:List G):Option (Option Nat × List G) :=
 (bif (aj (gi d 1).int (gi d 4).int) then (bif ((az (gi d 4).int)&&(aj (gi d 4).int (((gi d 0).rows.length:Nat):Int))) then (bif (decide ((0+((gi d 4).int).toNat)<(gi d 0).rows.length)) then (bif (ao ((gi d 4).int-1)) then (bif ((az ((gi d 4).int-1))&&(aj ((gi d 4).int-1) (((gi d 0).rows.length:Nat):Int))) then (bif (decide ((0+((gi d 4).int-1).toNat)<(gi d 0).rows.length)) then (aA (C [.l [(aH K ((gi d 0).rows.getD (0+((gi d 4).int).toNat) []))],.l [(aH K ((gi d 0).rows.getD (0+((gi d 4).int-1).toNat) []))]]) fun g1=>(bif (aj (gi g1 0).int 0) then (bif (ao ((gi d 4).int-1)) then (bif (ao ((gi d 4).int-1)) then (bif ((az ((gi d 4).int-1))&&(aj ((gi d 4).int-1) (((gi d 0).rows.length:Nat):Int))) then (bif (decide ((0+((gi d 4).int-1).toNat)<(gi d 0).rows.length)) then (bif ((az (gi d 4).int)&&(aj (gi d 4).int (((gi d 0).rows.length:Nat):Int))) then (bif (decide ((0+((gi d 4).int).toNat)<(gi d 0).rows.length)) then (bif ((az (gi d 4).int)&&(aj (gi d 4).int (((gi d 0).rows.length:Nat):Int))) then (bif (decide ((0+((gi d 4).int).toNat)<(gi d 0).rows.length)) then (bif ((az ((gi d 4).int-1))&&(aj ((gi d 4).int-1) (((gi d 0).rows.length:Nat):Int))) then (bif (decide ((0+((gi d 4).int-1).toNat)<((gi d 0).rows.set (0+((gi d 4).int).toNat) (bf K ((gi d 0).rows.getD (0+((gi d 4).int).toNat) []) 0 (aH K ((gi d 0).rows.getD (0+((gi d 4).int-1).toNat) [])))).length)) then (bif (ao ((gi d 4).int-1)) then (bif ((ad (gi d 0).rows.length (((gi d 0).rows.set (0+((gi d 4).int).toNat) (bf K ((gi d 0).rows.getD (0+((gi d 4).int).toNat) []) 0 (aH K ((gi d 0).rows.getD (0+((gi d 4).int-1).toNat) [])))).set (0+((gi d 4).int-1).toNat) (bf K (((gi d 0).rows.set (0+((gi d 4).int).toNat) (bf K ((gi d 0).rows.getD (0+((gi d 4).int).toNat) []) 0 (aH K ((gi d 0).rows.getD (0+((gi d 4).int-1).toNat) [])))).getD (0+((gi d 4).int-1).toNat) []) 0 (aH K ((gi d 0).rows.getD (0+((gi d 4).int).toNat) [])))).length)&&true) then some (none,[.l (((gi d 0).rows.set (0+((gi d 4).int).toNat) (bf K ((gi d 0).rows.getD (0+((gi d 4).int).toNat) []) 0 (aH K ((gi d 0).rows.getD (0+((gi d 4).int-1).toNat) [])))).set (0+((gi d 4).int-1).toNat) (bf K (((gi d 0).rows.set (0+((gi d 4).int).toNat) (bf K ((gi d 0).rows.getD (0+((gi d 4).int).toNat) []) 0 (aH K ((gi d 0).rows.getD (0+((gi d 4).int-1).toNat) [])))).getD (0+((gi d 4).int-1).toNat) []) 0 (aH K ((gi d 0).rows.getD (0+((gi d 4).int).toNat) [])))),.i (gi d 1).int,.i (gi d 2).int,.i (gi d 3).int,.i ((gi d 4).int-1)]) else none) else none) else none) else none) else none) else none) else none) else none) else none) else none) else none) else none) else (bif ((ad (gi d 0).rows.length (gi d 0).rows.length)&&true) then some (some 0,[.l (gi d 0).rows,.i (gi d 1).int,.i (gi d 2).int,.i (gi d 3).int]) else none))) else none) else none) else none) else none) else none) else (bif ((ad (gi d 0).rows.length (gi d 0).rows.length)&&true) then some (some 0,[.l (gi d 0).rows,.i (gi d 1).int,.i (gi d 2).int,.i (gi d 3).int]) else none))
def rS(K:List Kd)(C:List G→Option (List G))(d:List G):Option (Option Nat × List G) :=
 (bif (aj (gi d 3).int (gi d 2).int) then (aN ((ad (gi d 0).rows.length (gi d 0).rows.length)&&true) (bT (vk K C) [.l (gi d 0).rows,.i (gi d 1).int,.i (gi d 2).int,.i (gi d 3).int,.i (gi d 3).int]) fun g g2=>(bif (ao ((gi g2 3).int+1)) then (bif ((ad (gi g2 0).rows.length (gi g2 0).rows.length)&&true) then some (none,[.l (gi g2 0).rows,.i (gi g2 1).int,.i (gi g2 2).int,.i ((gi g2 3).int+1)]) else none) else none)) else some (some 0,[.l (gi d 0).rows]))
def lF(K:List Kd)(C:List G→Option (List G))(d:List G):Option (List G) :=
 (bif (ao ((gi d 1).int+1)) then (aN ((ad (gi d 0).rows.length (gi d 0).rows.length)&&true) (bT (rS K C) [.l (gi d 0).rows,.i (gi d 1).int,.i (gi d 2).int,.i ((gi d 1).int+1)]) fun g g3=>some [.l (gi g3 0).rows]) else none)
def pN(K:List Kd)(C:List G→Option (List G))(d:List G):Option (Option Nat × List G) :=
 (bif (be (gi d 4).int (gi d 1).int) then (iK (((ad (gi d 0).rows.length (gi d 0).rows.length)&&true)&&((lF K C) [.l (gi d 0).rows,.i (gi d 3).int,.i (gi d 4).int]).isSome) ((lF K C) [.l (gi d 0).rows,.i (gi d 3).int,.i (gi d 4).int]) fun g1=>(bif (ao ((gi d 4).int+(gi d 2).int)) then (bif ((ad (gi d 0).rows.length (gi g1 0).rows.length)&&true) then some (none,[.l (gi g1 0).rows,.i (gi d 1).int,.i (gi d 2).int,.i (gi d 4).int,.i ((gi d 4).int+(gi d 2).int)]) else none) else none)) else (bif ((ad (gi d 0).rows.length (gi d 0).rows.length)&&true) then some (some 0,[.l (gi d 0).rows,.i (gi d 1).int,.i (gi d 2).int,.i (gi d 3).int]) else none))
def VX(K:List Kd)(C:List G→Option (List G))(d:List G):Option (Option Nat × List G) :=
 (bif (be (gi d 4).int (gi d 1).int) then (bif (ao ((gi d 3).int+(gi d 2).int)) then none else none) else (bif ((ad (gi d 0).rows.length (gi d 0).rows.length)&&true) then some (some 0,[.l (gi d 0).rows,.i (gi d 1).int,.i (gi d 2).int,.i (gi d 3).int]) else none))
def Ds(K:List Kd)(C:List G→Option (List G))(d:List G):Option (Option Nat × List G) :=
 (bif (aj (gi d 2).int (gi d 1).int) then (bif (ao (2*(gi d 2).int)) then (aN ((ad (gi d 0).rows.length (gi d 0).rows.length)&&true) (bT (VX K C) [.l (gi d 0).rows,.i (gi d 1).int,.i (gi d 2).int,.i 0,.i (2*(gi d 2).int)]) fun g g4=>(bif (ao ((gi g4 3).int+(gi g4 2).int)) then (bif (aj ((gi g4 3).int+(gi g4 2).int) (gi g4 1).int) then none else (bif (ao ((gi g4 2).int*2)) then (bif ((ad (gi g4 0).rows.length (gi g4 0).rows.length)&&true) then some (none,[.l (gi g4 0).rows,.i (gi g4 1).int,.i ((gi g4 2).int*2)]) else none) else none)) else none)) else none) else some (some 0,[.l (gi d 0).rows]))
def ze(K:List Kd)(C:List G→Option (List G))(d:List G):Option (List G) :=
 (aN ((ad (gi d 0).rows.length (gi d 0).rows.length)&&true) (bT (pN K C) [.l (gi d 0).rows,.i (gi d 1).int,.i 20,.i 0,.i 20]) fun g g2=>(iK (((ad (gi g2 0).rows.length (gi g2 0).rows.length)&&true)&&((lF K C) [.l (gi g2 0).rows,.i (gi g2 3).int,.i (gi g2 1).int]).isSome) ((lF K C) [.l (gi g2 0).rows,.i (gi g2 3).int,.i (gi g2 1).int]) fun g3=>(aN ((ad (gi g2 0).rows.length (gi g3 0).rows.length)&&true) (bT (Ds K C) [.l (gi g3 0).rows,.i (gi g2 1).int,.i (gi g2 2).int]) fun h g5=>some [.l (gi g5 0).rows])))
def Ln(K:List Kd)(C:List G→Option (List G))(d:List G):Option (List G) :=
 (iK (((ad (gi d 0).rows.length (gi d 0).rows.length)&&true)&&((ze K C) [.l (gi d 0).rows,.i (((gi d 0).rows.length:Nat):Int)]).isSome) ((ze K C) [.l (gi d 0).rows,.i (((gi d 0).rows.length:Nat):Int)]) fun g1=>some [.l (gi g1 0).rows])
theorem kf{α:Type}(l:List α)(x:α)(q:List α)(z:α)(n:Nat)(h:n=l.length):(l++x::q).getD n z=x:=by subst h; simp
theorem Lo{α:Type}(l:List α)(x y:α)(q:List α)(n:Nat)(h:n=l.length):(l++x::q).set n y=l++y::q:=by subst h; simp
def fV{α:Type}(lt:α→α→Bool)(x:α):List α→List α
 | []=>[x]
 |y::p=>bif lt x y then y::fV lt x p else x::y::p
def je{α:Type}(lt:α→α→Bool):List α→List α→List α
 |p,[]=>p
 |p,x::r=>je lt (fV lt x p) r
def dq{α:Type}(lt:α→α→Bool)(l:List α):List α:=(je lt [] l).reverse
theorem zf{α:Type}(lt:α→α→Bool)(x:α):∀ p,(fV lt x p).length=p.length+1
 | []=>rfl
 | y::p=>by
  simp only[fV];cases lt x y with
  |true=>simp[zf lt x p]
  |false=>simp
theorem Dt{α:Type}{Q:α→Prop}{lt:α→α→Bool}{x:α}(g:Q x):∀{p:List α},(∀ y∈p,Q y)→∀ y∈fV lt x p,Q y
 | [],_,y,d=>by simp[fV]at d; exact d▸g
 | z::p,h,y,d=>by
  simp only[fV]at d;cases k:lt x z with
  | true =>
   rw[k]at d;rcases bW.1 d with rfl|d
   ·exact h _ cW
   ·exact Dt g (fun y d=>h y (c9 _ d)) y d
  | false =>
   rw[k]at d;rcases bW.1 d with rfl|d
   ·exact g
   ·exact h y d
theorem Lp{α:Type}(lt:α→α→Bool):∀(p r:List α),(je lt p r).length=p.length+r.length
 |p,[]=>rfl
 |p,x::r=>by simp only[je,Lp lt,zf,cw]; omega
theorem Lq{α:Type}{Q:α→Prop}{lt:α→α→Bool}:∀{r p:List α},(∀ y∈p,Q y)→(∀ y∈r,Q y)→∀ y∈je lt p r,Q y
 | [],_,d,_=>d
 | x::r,p,d,g=>by
  simp only[je];exact Lq (Dt (g x cW) d) fun y h=>g y (c9 _ h)
theorem Du{α:Type}(lt:α→α→Bool)(l:List α):(dq lt l).length=l.length:=by simp[dq,Lp]
theorem VY{α:Type}{Q:α→Prop}{lt:α→α→Bool}{l:List α}(h:∀ y∈l,Q y):∀ y∈dq lt l,Q y:=by
 intro y d;exact Lq (p:=[]) (by simp) h y (by simpa[dq]using d)
theorem zg:∀(K:List Kd) (r:List G),(aH K r).length=K.length
 | [],_=>rfl
 |k::K,r=>by simp[aH,zg K]
theorem Dv{K:List Kd}{r gs:List G}(h:gs.length=K.length):bf K r 0 gs=gs:=by
 simp[bf,h,B_,QT]
section
variable {K:List Kd} {C:List G→Option (List G)} {Q:List G→Prop} {c:List G→List G→Int}
structure rT (K:List Kd) (C:List G→Option (List G)) (Q:List G→Prop) (c:List G→List G→Int):Prop where
 cmp:∀ r s,Q r→Q s→C [.l [r],.l [s]]=some [.i (c r s)]
 eta:∀ r,Q r→aH K r=r
def bY(c:List G→List G→Int)(r s:List G):Bool:=aj (c r s) 0
theorem Lr(hC:rT K C Q c):∀(p q:List (List G)) (x:List G) (b i:Int) (j:Nat),(∀ y∈p,Q y)→Q x→p.length<1000000→j=p.length →
  ∃ m,m≤p.length+1∧iL (vk K C) m [.l (p.reverse++x::q),.i 0,.i b,.i i,.i (j:Int)] 0 [.l ((fV (bY c) x p).reverse++q),.i 0,.i b,.i i]
 | [],q,x,b,i,j,_,_,_,d=>by
  simp only[ma]at d;subst d;refine⟨1,by simp,.stop (aa.toEq ?_)⟩;unfold vk
  (dsimp +instances only[Aa,Ab,Ac,Ad,Ae,Af,Ag])
  refine aa.n (aa.p (aa.some ?_));rfl
 | y::p,q,x,b,i,j,v,g,M,d=>by
  have k:=v y cW;have B:(y::p).reverse++x::q=(p.reverse++[y])++x::q:=by simp
  have N:(y::p).reverse++x::q=p.reverse++y::x::q:=by simp
  simp only[cw]at M d;have g1:((y::p).reverse++x::q).getD (0+(j:Int).toNat) []=x:=by rw[B]; exact kf _ _ _ _ _ (by simp[d])
  have g2:((y::p).reverse++x::q).getD (0+((j:Int)-1).toNat) []=y:=by rw[N]; exact kf _ _ _ _ _ (by simp[d])
  have hlen:((y::p).reverse++x::q).length=p.length+q.length+2:=by simp; omega
  have u:=hC.cmp x y g k;cases h:bY c x y with
  | false =>
   refine⟨1,by simp,.stop (aa.toEq ?_)⟩;unfold vk
   (dsimp +instances only[Aa,Ab,Ac,Ad,Ae,Af,Ag])
   simp only[hlen,g1,g2,hC.eta x g,hC.eta y k];refine aa.p (aa.p (aa.p (aa.p (aa.p (aa.p (aa.call (aa.eq u) ?_))))));rintro _ rfl
   (dsimp +instances only[Aa,Ab,Ac,Ad,Ae,Af,Ag])
   refine aa.neg h (aa.p (aa.some ?_));simp[fV,h]
  | true =>
   obtain⟨m,hm,O⟩:=Lr hC p (y::q) x b i (j-1) (fun z U=>v z (c9 _ U)) g (by omega) (by omega);refine⟨m+1,by simp; omega,.next (aa.toEq ?_) (by
    have e:(fV (bY c) x (y::p)).reverse++q=(fV (bY c) x p).reverse++y::q:=by simp[fV,h]
    rw[e]; exact O)⟩
   have s1:((y::p).reverse++x::q).set (0+(j:Int).toNat) y=p.reverse++y::y::q:=by
    rw[B,Lo _ _ _ _ _ (by simp[d])]; simp
   have s2:(p.reverse++y::y::q).set (0+((j:Int)-1).toNat) x=p.reverse++x::y::q:=Lo _ _ _ _ _ (by simp[d]);have I:(p.reverse++y::y::q).length=p.length+q.length+2:=by simp; omega
   have J:(p.reverse++x::y::q).length=p.length+q.length+2:=by simp; omega
   have V:y.length=K.length:=by rw[←hC.eta y k,zg]
   have W:x.length=K.length:=by rw[←hC.eta x g,zg]
   unfold vk
   (dsimp +instances only[Aa,Ab,Ac,Ad,Ae,Af,Ag])
   simp only[hlen,g1,g2,hC.eta x g,hC.eta y k,Dv V,Dv W,s1,s2,I,J];refine aa.p (aa.p (aa.p (aa.p (aa.p (aa.p (aa.call (aa.eq u) ?_))))));rintro _ rfl
   (dsimp +instances only[Aa,Ab,Ac,Ad,Ae,Af,Ag])
   refine aa.pos h ?_;refine aa.p (aa.p (aa.p (aa.p (aa.p (aa.p (aa.p (aa.p (aa.p (aa.p (aa.p (aa.p (aa.some ?_))))))))))));congr;omega
theorem Ls(hC:rT K C Q c):∀(r p:List (List G)) (i n:Nat),(∀ y∈p,Q y)→(∀ y∈r,Q y)→i=p.length→n=p.length+r.length→n<100000 →
  ∃ m,m≤r.length+1∧iL (rS K C) m [.l (p.reverse++r),.i 0,.i (n:Int),.i (i:Int)] 0 [.l (je (bY c) p r).reverse]
 | [],p,i,n,_,_,hi,d,k=>by
  refine⟨1,by simp,.stop (aa.toEq ?_)⟩;simp only[ma]at d;unfold rS
  (dsimp +instances only[Aa,Ab,Ac,Ad,Ae,Af,Ag])
  refine aa.n (aa.some ?_);simp[je]
 | x::r,p,i,n,q,h,hi,d,k=>by
  simp only[cw]at d;obtain⟨m1,B,h1⟩:=Lr hC p r x (n:Int) (i:Int) i q (h x cW) (by omega) hi;obtain⟨m,hm,u⟩:=Ls hC r (fV (bY c) x p) (i+1) n (Dt (h x cW) q) (fun y v=>h y (c9 _ v)) (by rw[zf,hi]) (by rw[zf]; omega) k;refine⟨m+1,by simp; omega,.next (aa.toEq ?_) u⟩;unfold rS
  (dsimp +instances only[Aa,Ab,Ac,Ad,Ae,Af,Ag])
  refine aa.p (aa.loop (P:=fun x g=>g=_) ⟨m1,0,_,h1,by omega,rfl⟩ (by(first|rfl|assumption|(simp only[ao,sl]<;>omega))) ?_);rintro _ _ rfl
  (dsimp +instances only[Aa,Ab,Ac,Ad,Ae,Af,Ag])
  refine aa.p (aa.p (aa.some ?_));rfl
theorem VZ(hC:rT K C Q c)(rows:List (List G))(d:∀ y∈rows,Q y)(k:rows.length<100000):lF K C [.l rows,.i 0,.i (rows.length:Int)]=some [.l (dq (bY c) rows)]:=by
 refine aa.toEq ?_;unfold lF
 (dsimp +instances only[Aa,Ab,Ac,Ad,Ae,Af,Ag])
 refine aa.p ?_;cases rows with
 | nil =>
  refine aa.loop (P:=fun x g=>g=[.l []]) ⟨1,0,_,.stop (aa.toEq (?_:aa _ (fun g=>g=(some 0,[G.l []])))),by omega,rfl⟩ (by(first|rfl|assumption|(simp only[ao,sl]<;>omega))) ?_
  ·unfold rS
   (dsimp +instances only[Aa,Ab,Ac,Ad,Ae,Af,Ag])
   exact aa.n (aa.some rfl)
  ·rintro _ _ rfl
   exact aa.some rfl
 | cons x r =>
  simp only[cw]at k;obtain⟨m,hm,h⟩:=Ls hC r [x] 1 (r.length+1) (by simpa using d x cW) (fun y q=>d y (c9 _ q)) rfl (by simp; omega) (by omega);refine aa.loop (P:=fun y g=>g=_) ⟨m,0,_,h,by omega,rfl⟩ (by(first|rfl|assumption|(simp only[ao,sl]<;>omega))) ?_;rintro _ _ rfl;exact aa.some rfl
theorem V3(rows:List (List G))(a b:Nat)(h:b≤a)(d:a<100000):lF K C [.l rows,.i (a:Int),.i (b:Int)]=some [.l rows]:=by
 refine aa.toEq ?_;unfold lF
 (dsimp +instances only[Aa,Ab,Ac,Ad,Ae,Af,Ag])
 refine aa.p ?_;refine aa.loop (P:=fun x g=>g=[.l rows]) ⟨1,0,_,.stop (aa.toEq (?_:aa _ (fun g=>g=(some 0,[G.l rows])))),by omega,rfl⟩ (by(first|rfl|assumption|(simp only[ao,sl]<;>omega))) ?_
 ·unfold rS
  (dsimp +instances only[Aa,Ab,Ac,Ad,Ae,Af,Ag])
  exact aa.n (aa.some rfl)
 ·rintro _ _ rfl
  exact aa.some rfl
theorem V4(hC:rT K C Q c)(rows:List (List G))(q:∀ y∈rows,Q y)(B:rows.length≤20):ze K C [.l rows,.i (rows.length:Int)]=some [.l (dq (bY c) rows)]:=by
 refine aa.toEq ?_;unfold ze
 (dsimp +instances only[Aa,Ab,Ac,Ad,Ae,Af,Ag])
 have d:=VZ hC rows q (by omega);have hlen:=Du (bY c) rows;have k:∀ rows':List (List G),rows'.length=rows.length→jN (Ds K C) [.l rows',.i (rows.length:Int),.i 20] fun _ g=>g=[.l rows']:=by
  intro rows' I;refine jN.stop (x:=0) (aa.toEq ?_) rfl;unfold Ds
  (dsimp +instances only[Aa,Ab,Ac,Ad,Ae,Af,Ag])
  exact aa.n (aa.some rfl)
 by_cases h:rows.length=20
 ·have h1:pN K C [.l rows,.i (rows.length:Int),.i 20,.i 0,.i 20]=some (none,[.l (dq (bY c) rows),.i (rows.length:Int),.i 20,.i 20,.i 40]):=by
   refine aa.toEq ?_;unfold pN
   (dsimp +instances only[Aa,Ab,Ac,Ad,Ae,Af,Ag])
   have d:lF K C [.l rows,.i 0,.i 20]=some [.l (dq (bY c) rows)]:=by rw[h]at d; exact d
   refine aa.p (aa.oe (aa.eq d) (by(first|rfl|assumption|(simp only[ao,sl]<;>omega))) ?_);rintro _ rfl
   (dsimp +instances only[Aa,Ab,Ac,Ad,Ae,Af,Ag])
   exact aa.p (aa.p (aa.some rfl))
  have u:pN K C [.l (dq (bY c) rows),.i (rows.length:Int),.i 20,.i 20,.i 40]=some (some 0,[.l (dq (bY c) rows),.i (rows.length:Int),.i 20,.i 20]):=by
   refine aa.toEq ?_;unfold pN
   (dsimp +instances only[Aa,Ab,Ac,Ad,Ae,Af,Ag])
   exact aa.n (aa.p (aa.some rfl))
  refine aa.loop (P:=fun x g=>g=_) ⟨2,0,_,.next h1 (.stop u),by omega,rfl⟩ (by(first|rfl|assumption|(simp only[ao,sl]<;>omega))) ?_;rintro _ _ rfl
  (dsimp +instances only[Aa,Ab,Ac,Ad,Ae,Af,Ag])
  have v:lF K C [.l (dq (bY c) rows),.i 20,.i (rows.length:Int)]=some [.l (dq (bY c) rows)]:=by
   rw[h]; exact V3 _ 20 20 (by omega) (by omega)
  refine aa.oe (aa.eq v) (by(first|rfl|assumption|(simp only[ao,sl]<;>omega))) ?_;rintro _ rfl
  (dsimp +instances only[Aa,Ab,Ac,Ad,Ae,Af,Ag])
  refine aa.loop (k _ hlen) (by(first|rfl|assumption|(simp only[ao,sl]<;>omega))) ?_;rintro _ _ rfl;exact aa.some rfl
 ·have h1:pN K C [.l rows,.i (rows.length:Int),.i 20,.i 0,.i 20]=some (some 0,[.l rows,.i (rows.length:Int),.i 20,.i 0]):=by
   refine aa.toEq ?_;unfold pN
   (dsimp +instances only[Aa,Ab,Ac,Ad,Ae,Af,Ag])
   exact aa.n (aa.p (aa.some rfl))
  refine aa.loop (P:=fun x g=>g=_) ⟨1,0,_,.stop h1,by omega,rfl⟩ (by(first|rfl|assumption|(simp only[ao,sl]<;>omega))) ?_;rintro _ _ rfl
  (dsimp +instances only[Aa,Ab,Ac,Ad,Ae,Af,Ag])
  refine aa.oe (aa.eq d) (by(first|rfl|assumption|(simp only[ao,sl]<;>omega))) ?_;rintro _ rfl
  (dsimp +instances only[Aa,Ab,Ac,Ad,Ae,Af,Ag])
  refine aa.loop (k _ hlen) (by(first|rfl|assumption|(simp only[ao,sl]<;>omega))) ?_;rintro _ _ rfl;exact aa.some rfl
theorem V5(hC:rT K C Q c)(rows:List (List G))(d:∀ y∈rows,Q y)(g:rows.length≤20):Ln K C [.l rows]=some [.l (dq (bY c) rows)]:=by
 refine aa.toEq ?_;unfold Ln
 (dsimp +instances only[Aa,Ab,Ac,Ad,Ae,Af,Ag])
 refine aa.oe (aa.eq (V4 hC rows d g)) (by(first|rfl|assumption|(simp only[ao,sl]<;>omega))) ?_;rintro _ rfl;exact aa.some rfl
end
end Go.AL

namespace Go.AL
open Go
variable [Dr]
def rU(K:List Kd)(C:List G→Option (List G))(Z:List G)(d:List G):Option (Option Nat × List G) :=
 (bif (aj (gi d 4).int (((gi d 3).int.toNat:Nat):Int)) then (bif ((az (gi d 4).int)&&(aj (gi d 4).int (((gi d 3).int.toNat:Nat):Int))) then (bif (decide (((gi d 2).int.toNat+((gi d 4).int).toNat)<(gi d 0).rows.length)) then (bif (ao ((gi d 4).int-1)) then (bif ((az ((gi d 4).int-1))&&(aj ((gi d 4).int-1) (((gi d 3).int.toNat:Nat):Int))) then (bif (decide (((gi d 2).int.toNat+((gi d 4).int-1).toNat)<(gi d 0).rows.length)) then (aA (C [.l [(aH K ((gi d 0).rows.getD ((gi d 2).int.toNat+((gi d 4).int).toNat) []))],.l [(aH K ((gi d 0).rows.getD ((gi d 2).int.toNat+((gi d 4).int-1).toNat) []))]]) fun g2=>(bif (!(gi g2 0).bool) then (bif ((az (gi d 4).int)&&(aj (gi d 4).int (((gi d 3).int.toNat:Nat):Int))) then (bif (decide (((gi d 2).int.toNat+((gi d 4).int).toNat)<(gi d 0).rows.length)) then (bif ((az (gi d 1).int)&&(aj (gi d 1).int (((gi d 0).rows.length:Nat):Int))) then (bif (decide ((0+((gi d 1).int).toNat)<(gi d 0).rows.length)) then (bif (ao ((gi d 1).int+1)) then (bif (ao ((gi d 4).int+1)) then (bif ((ad (gi d 0).rows.length ((gi d 0).rows.set (0+((gi d 1).int).toNat) (bf K ((gi d 0).rows.getD (0+((gi d 1).int).toNat) []) 0 (aH K ((gi d 0).rows.getD ((gi d 2).int.toNat+((gi d 4).int).toNat) [])))).length)&&true) then some (none,[.l ((gi d 0).rows.set (0+((gi d 1).int).toNat) (bf K ((gi d 0).rows.getD (0+((gi d 1).int).toNat) []) 0 (aH K ((gi d 0).rows.getD ((gi d 2).int.toNat+((gi d 4).int).toNat) [])))),.i ((gi d 1).int+1),.i (((gi d 2).int.toNat:Nat):Int),.i (((gi d 3).int.toNat:Nat):Int),.i ((gi d 4).int+1)]) else none) else none) else none) else none) else none) else none) else none) else (bif (ao ((gi d 4).int+1)) then (bif ((ad (gi d 0).rows.length (gi d 0).rows.length)&&true) then some (none,[.l (gi d 0).rows,.i (gi d 1).int,.i (((gi d 2).int.toNat:Nat):Int),.i (((gi d 3).int.toNat:Nat):Int),.i ((gi d 4).int+1)]) else none) else none))) else none) else none) else none) else none) else none) else (bif ((ad (gi d 0).rows.length (gi d 0).rows.length)&&true) then some (some 0,[.l (gi d 0).rows,.i (gi d 1).int]) else none))
def pO(K:List Kd)(C:List G→Option (List G))(Z:List G)(d:List G):Option (Option Nat × List G) :=
 (bif (aj (gi d 1).int (((gi d 0).rows.length:Nat):Int)) then (bif ((az (gi d 1).int)&&(aj (gi d 1).int (((gi d 0).rows.length:Nat):Int))) then (bif (decide ((0+((gi d 1).int).toNat)<(gi d 0).rows.length)) then (bif (ao ((gi d 1).int-1)) then (bif ((az ((gi d 1).int-1))&&(aj ((gi d 1).int-1) (((gi d 0).rows.length:Nat):Int))) then (bif (decide ((0+((gi d 1).int-1).toNat)<(gi d 0).rows.length)) then (aA (C [.l [(aH K ((gi d 0).rows.getD (0+((gi d 1).int).toNat) []))],.l [(aH K ((gi d 0).rows.getD (0+((gi d 1).int-1).toNat) []))]]) fun g1=>(bif (gi g1 0).bool then (bif ((az (gi d 1).int)&&(be (gi d 1).int (((gi d 0).rows.length:Nat):Int))) then (aN ((ad (gi d 0).rows.length (gi d 0).rows.length)&&true) (bT (rU K C Z) [.l (gi d 0).rows,.i (gi d 1).int,.i (((0+((gi d 1).int).toNat):Nat):Int),.i ((((gi d 0).rows.length-((gi d 1).int).toNat):Nat):Int),.i 1]) fun g g3=>(bif ((az (gi g3 1).int)&&(be (gi g3 1).int (((gi g3 0).rows.length:Nat):Int))) then (bif (Nat.ble ((0+((gi g3 1).int).toNat)+((gi g3 0).rows.length-((gi g3 1).int).toNat)) (gi g3 0).rows.length) then (bif ((az (gi g3 1).int)&&(be (gi g3 1).int (((gi g3 0).rows.length:Nat):Int))) then some (some 0,[.l ((gi g3 0).rows.take (0+((gi g3 1).int).toNat)++bM ((gi g3 0).rows.length-((gi g3 1).int).toNat) Z++(gi g3 0).rows.drop ((0+((gi g3 1).int).toNat)+((gi g3 0).rows.length-((gi g3 1).int).toNat))),.i (((((gi g3 1).int).toNat-0):Nat):Int)]) else none) else none) else none)) else none) else (bif (ao ((gi d 1).int+1)) then (bif ((ad (gi d 0).rows.length (gi d 0).rows.length)&&true) then some (none,[.l (gi d 0).rows,.i ((gi d 1).int+1)]) else none) else none))) else none) else none) else none) else none) else none) else (bif ((ad (gi d 0).rows.length (gi d 0).rows.length)&&true) then some (some 1,[.l (gi d 0).rows]) else none))
def Lt(K:List Kd)(C:List G→Option (List G))(Z:List G)(d:List G):Option (List G) :=
 (bif (aj (((gi d 0).rows.length:Nat):Int) 2) then some [.l (gi d 0).rows,.i (((gi d 0).rows.length:Nat):Int)] else (aN ((ad (gi d 0).rows.length (gi d 0).rows.length)&&true) (bT (pO K C Z) [.l (gi d 0).rows,.i 1]) fun g g4=>(bif ad g 0 then some [.l (gi g4 0).rows,.i (((gi g4 1).int.toNat:Nat):Int)] else some [.l (gi g4 0).rows,.i (((gi g4 0).rows.length:Nat):Int)])))
def dc{α:Type}(e:α→α→Bool):α→List α→List α
 |_,[]=>[]
 |y,x::q=>bif e x y then dc e x q else x::dc e x q
def gO{α:Type}(e:α→α→Bool):List α→List α
 | []=>[]
 |x::q=>x::dc e x q
theorem Lu{α:Type}(e:α→α→Bool):∀(q:List α) (y:α),(dc e y q).length≤q.length
 | [],_=>aB _
 | x::q,y=>by
  have:=Lu e q x;simp only[dc];cases e x y with
  |true=>simp; omega
  |false=>simp; omega
theorem Dw{α:Type}{e:α→α→Bool}:∀{q:List α} {y z:α},z∈dc e y q→z∈q
 | x::q,y,z,h=>by
  simp only[dc]at h;cases he:e x y with
  |true=>rw[he]at h; exact c9 _ (Dw h)
  | false =>
   rw[he]at h;rcases bW.1 h with rfl|h
   ·exact cW
   ·exact c9 _ (Dw h)
theorem V6{α:Type}{e:α→α→Bool}:∀{l:List α} {z:α},z∈gO e l→z∈l
 | x::q,z,h=>by
  rcases bW.1 h with rfl|h
  ·exact cW
  ·exact c9 _ (Dw h)
theorem V7{α:Type}(e:α→α→Bool):∀ l:List α,(gO e l).length≤l.length
 | []=>aB _
 |x::q=>by have:=Lu e q x; simp[gO]; omega
section
variable {K:List Kd} {Z:List G} {Q:List G→Prop}
structure Kds (K:List Kd) (Q:List G→Prop):Prop where
 eta:∀ r,Q r→aH K r=r
structure zh (K:List Kd) (C:List G→Option (List G)) (Q:List G→Prop) (e:List G→List G→Bool):Prop where
 cmp:∀ r s,Q r→Q s→C [.l [r],.l [s]]=some [.t (e r s)]
 eta:∀ r,Q r→aH K r=r
variable {C:List G→Option (List G)} {ee:List G→List G→Bool}
theorem Dx(hC:zh K C Q ee):∀(q kept M:List (List G)) (y:List G) (lo len g:Nat),(∀ z∈kept++M++y::q,Q z)→lo+g=kept.length+M.length+1→g+q.length=len→kept.length+M.length+q.length<100000→1≤g →
  ∃ m J,m≤q.length+1∧(kept++dc ee y q++J).length=kept.length+M.length+1+q.length∧iL (rU K C Z) m [.l (kept++M++y::q),.i (kept.length:Int),.i (lo:Int),.i (len:Int),.i (g:Int)] 0 [.l (kept++dc ee y q++J),.i ((kept++dc ee y q).length:Int)]
 | [],kept,M,y,lo,len,g,k,h1,O,U,h4=>by
  refine⟨1,M++[y],by simp,by simp[dc]; omega,.stop (aa.toEq ?_)⟩;simp only[ma]at O U;unfold rU
  (dsimp +instances only[Aa,Ab,Ac,Ad,Ae,Af,Ag])
  (repeat first|refine aa.p ?_|refine aa.n ?_)
  refine aa.some ?_;simp[dc]
 | x::q,kept,M,y,lo,len,g,k,h1,O,U,h4=>by
  simp only[cw]at O U;have u:Q x:=k x (by simp);have B:Q y:=k y (by simp);have g1:(kept++M++y::x::q).getD ((lo:Int).toNat+(g:Int).toNat) []=x:=by
   have e:kept++M++y::x::q=(kept++M++[y])++x::q:=by simp
   rw[e]; exact kf _ _ _ _ _ (by simp<;>omega)
  have g2:(kept++M++y::x::q).getD ((lo:Int).toNat+((g:Int)-1).toNat) []=y:=kf _ _ _ _ _ (by simp; omega);have hlen:(kept++M++y::x::q).length=kept.length+M.length+q.length+2:=by simp; omega
  cases he:ee x y with
  | true =>
   obtain⟨m,J,hm,V,W⟩:=Dx hC q kept (M++[y]) x lo len (g+1) (by simpa using k) (by simp; omega) (by omega) (by simp; omega) (by omega);have e:dc ee y (x::q)=dc ee x q:=by simp[dc,he]
   refine⟨m+1,J,by simp; omega,by rw[e,V]; simp; omega,.next (aa.toEq ?_) (by rw[e]; exact W)⟩;unfold rU
   (dsimp +instances only[Aa,Ab,Ac,Ad,Ae,Af,Ag])
   simp only[hlen,g1,g2,hC.eta x u,hC.eta y B]
   (repeat first|refine aa.p ?_|refine aa.n ?_)
   refine aa.cE (hC.cmp x y u B) ?_
   (dsimp +instances only[Aa,Ab,Ac,Ad,Ae,Af,Ag])
   try simp only[he]
   (repeat first|refine aa.p ?_|refine aa.n ?_)
   refine aa.some ?_;simp
  | false =>
   obtain⟨N,v,e1,e2⟩:∃ N v,(kept++M++y::x::q).set kept.length x=N++v++x::q∧(N=kept++[x]∧v.length=M.length∧∀ z∈v,z∈M++[y]):=by
    cases M with
    |nil=>exact⟨kept++[x],[],by simp,rfl,rfl,by simp⟩
    |cons z M=>exact⟨kept++[x],M++[y],by simp,rfl,by simp,by simp; intro z d; rcases d with d|d<;>simp[d]⟩
   obtain⟨e2,I,e4⟩:=e2;subst e2;obtain⟨m,J,hm,V,W⟩:=Dx hC q (kept++[x]) v x lo len (g+1) (by
    intro z d;simp only[cS,bW]at d;rcases d with((d|d)|d)|d|d
    ·exact k z (by simp[d])
    ·simp at d; exact d▸u
    ·have := e4 z d
     simp only[cS,bW]at this;rcases this with h|h|h
     ·exact k z (by simp[h])
     ·exact h▸B
     ·simp at h
    ·exact d▸u
    ·exact k z (by simp[d])) (by simp[I]; omega) (by omega) (by simp[I]; omega) (by omega)
   have e:kept++dc ee y (x::q)=(kept++[x])++dc ee x q:=by simp[dc,he]
   refine⟨m+1,J,by simp; omega,by rw[e,V]; simp[I]; omega,.next (aa.toEq ?_) (by rw[e]; exact W)⟩;have kx:x.length=K.length:=by rw[←hC.eta x u,zg]
   have hl2:((kept++[x])++v++x::q).length=kept.length+M.length+q.length+2:=by simp[I]; omega
   have e1:(kept++M++y::x::q).set (0+(kept.length:Int).toNat) x=(kept++[x])++v++x::q:=by simpa using e1
   unfold rU
   (dsimp +instances only[Aa,Ab,Ac,Ad,Ae,Af,Ag])
   simp only[hlen,g1,g2,hC.eta x u,hC.eta y B,Dv kx,e1,hl2]
   (repeat first|refine aa.p ?_|refine aa.n ?_)
   refine aa.cE (hC.cmp x y u B) ?_
   (dsimp +instances only[Aa,Ab,Ac,Ad,Ae,Af,Ag])
   try simp only[he]
   (repeat first|refine aa.p ?_|refine aa.n ?_)
   refine aa.some ?_;simp
theorem Lv(hC:zh K C Q ee):∀(q p:List (List G)) (y:List G),(∀ z∈p++y::q,Q z)→p.length+q.length<99999 →
  (∃ m,m≤q.length+1∧dc ee y q=q∧iL (pO K C Z) m [.l (p++y::q),.i ((p.length:Int)+1)] 1 [.l (p++y::q)]) ∨
  ∃ m J,m≤q.length+1∧(p++y::dc ee y q++J).length=p.length+1+q.length∧iL (pO K C Z) m [.l (p++y::q),.i ((p.length:Int)+1)] 0 [.l (p++y::dc ee y q++J),.i ((p++y::dc ee y q).length:Int)]
 | [],p,y,h,B=>by
  refine .inl ⟨1,by simp,rfl,.stop (aa.toEq ?_)⟩;simp only[ma]at B;unfold pO
  (dsimp +instances only[Aa,Ab,Ac,Ad,Ae,Af,Ag])
  (repeat first|refine aa.p ?_|refine aa.n ?_)
  exact aa.some rfl
 | x::q,p,y,h,B=>by
  simp only[cw]at B;have k:Q x:=h x (by simp);have u:Q y:=h y (by simp);have g1:(p++y::x::q).getD (0+((p.length:Int)+1).toNat) []=x:=by
   have e:p++y::x::q=(p++[y])++x::q:=by simp
   rw[e]; exact kf _ _ _ _ _ (by simp<;>omega)
  have g2:(p++y::x::q).getD (0+((p.length:Int)+1-1).toNat) []=y:=kf _ _ _ _ _ (by simp<;>omega);have hlen:(p++y::x::q).length=p.length+q.length+2:=by simp; omega
  cases he:ee x y with
  | true =>
   obtain⟨m,J,hm,I,d⟩:=Dx hC q (p++[y]) [] x (p.length+1) (q.length+1) 1 (by simpa using h) (by simp) (by omega) (by simp; omega) (by omega);have e:p++y::dc ee y (x::q)=(p++[y])++dc ee x q:=by simp[dc,he]
   have v:(((p++[y])++dc ee x q)++J).length=p.length+q.length+2:=by rw[I]; simp; omega
   have hle:((p++[y])++dc ee x q).length≤p.length+q.length+2:=by rw[←v]; simp
   have M:iL (rU K C Z) m [.l (p++y::x::q),.i ((p.length:Int)+1),.i ((0+((p.length:Int)+1).toNat:Nat):Int),.i ((p.length+q.length+2-((p.length:Int)+1).toNat:Nat):Int),.i 1] 0 [.l ((p++[y])++dc ee x q++J),.i (((p++[y])++dc ee x q).length:Int)]:=by
    have N:(((p++[y]).length:Nat):Int)=(p.length:Int)+1:=by simp
    have a2:((p.length+1:Nat):Int)=((0+((p.length:Int)+1).toNat:Nat):Int):=by omega
    have a3:((q.length+1:Nat):Int)=((p.length+q.length+2-((p.length:Int)+1).toNat:Nat):Int):=by omega
    rw[N,a2,a3]at d;simpa using d
   refine .inr ⟨1,bM (p.length+q.length+2-((p++[y])++dc ee x q).length) Z,by simp,by rw[e,fb,wF]; simp at hle⊢; omega,.stop (aa.toEq ?_)⟩;rw[e];generalize hw:(p++[y])++dc ee x q=w at *;unfold pO
   (dsimp +instances only[Aa,Ab,Ac,Ad,Ae,Af,Ag])
   simp only[hlen,g1,g2,hC.eta x k,hC.eta y u]
   (repeat first|refine aa.p ?_|refine aa.n ?_)
   refine aa.cE (hC.cmp x y k u) ?_
   (dsimp +instances only[Aa,Ab,Ac,Ad,Ae,Af,Ag])
   try simp only[he]
   (repeat first|refine aa.p ?_|refine aa.n ?_)
   refine aa.loop (P:=fun x g=>g=_) ⟨m,0,_,M,by omega,rfl⟩ (by(first|rfl|assumption|(simp only[ao,sl]<;>omega))) ?_;rintro _ _ rfl
   (dsimp +instances only[Aa,Ab,Ac,Ad,Ae,Af,Ag])
   simp only[v]
   (repeat first|refine aa.p ?_|refine aa.n ?_)
   refine aa.some ?_;have t1:List.take (0+(w.length:Int).toNat) (w++J)=w:=by simp
   have t2:List.drop (0+(w.length:Int).toNat+(p.length+q.length+2-(w.length:Int).toNat)) (w++J)=[]:=by
    apply QT; rw[v]; omega
   rw[t1,t2];simp
  | false =>
   have e:dc ee y (x::q)=x::dc ee x q:=by simp[dc,he]
   have key:pO K C Z [.l (p++y::x::q),.i ((p.length:Int)+1)]=some (none,[.l ((p++[y])++x::q),.i ((((p++[y]).length:Nat):Int)+1)]):=by
    refine aa.toEq ?_;unfold pO
    (dsimp +instances only[Aa,Ab,Ac,Ad,Ae,Af,Ag])
    simp only[hlen,g1,g2,hC.eta x k,hC.eta y u]
    (repeat first|refine aa.p ?_|refine aa.n ?_)
    refine aa.cE (hC.cmp x y k u) ?_
    (dsimp +instances only[Aa,Ab,Ac,Ad,Ae,Af,Ag])
    try simp only[he]
    (repeat first|refine aa.p ?_|refine aa.n ?_)
    refine aa.some ?_;simp
   rcases Lv hC q (p++[y]) x (by simpa using h) (by simp; omega)with⟨m,hm,O,d⟩|⟨m,J,hm,I,d⟩
   ·refine .inl ⟨m + 1, by simp; omega, by rw [e, O], .next key ?_⟩
    have:p++y::x::q=(p++[y])++x::q:=by simp
    rw[this]; exact d
   ·have e' : p ++ y :: dc ee y (x :: q) = (p ++ [y]) ++ x :: dc ee x q := by rw [e]; simp
    refine .inr ⟨m+1,J,by simp; omega,by rw[e',I]; simp; omega,.next key ?_⟩;rw[e']; exact d
theorem V8(hC:zh K C Q ee)(rows:List (List G))(d:∀ y∈rows,Q y)(h:rows.length<99999):aa (Lt K C Z [.l rows]) fun g=>∃ J,g=[.l (gO ee rows++J),.i ((gO ee rows).length:Int)]∧(gO ee rows++J).length=rows.length:=by
 unfold Lt
 (dsimp +instances only[Aa,Ab,Ac,Ad,Ae,Af,Ag])
 match rows,d,h with
 | [],_,_=>exact aa.p (aa.some ⟨[],rfl,rfl⟩)
 | [x],_,_=>exact aa.p (aa.some ⟨[],rfl,rfl⟩)
 | y::x::q,d,h =>
  simp only[cw]at h;refine aa.n ?_;rcases Lv hC (x::q) [] y (by simpa using d) (by simp; omega)with⟨m,hm,k,d⟩|⟨m,J,hm,u,d⟩
  ·refine aa.loop (P := fun x g => x = 1 ∧ g = _) ⟨m, 1, _, d, by simp at hm; omega, rfl, rfl⟩ (by (first|rfl|assumption|(simp only [ao,sl]<;>omega))) ?_
   rintro _ _ ⟨rfl,rfl⟩;refine aa.n (aa.some ⟨[],?_,?_⟩)
   ·(dsimp +instances only [Aa,Ab,Ac,Ad,Ae,Af,Ag])
    simp[gO,k]
   ·simp[gO,k]
  ·refine aa.loop (P := fun x g => x = 0 ∧ g = _) ⟨m, 0, _, d, by simp at hm; omega, rfl, rfl⟩ (by (first|rfl|assumption|(simp only [ao,sl]<;>omega))) ?_
   rintro _ _ ⟨rfl,rfl⟩;refine aa.p (aa.some ⟨J,?_,?_⟩)
   ·(dsimp +instances only [Aa,Ab,Ac,Ad,Ae,Af,Ag])
    simp[gO]
   ·simpa[gO,Nat.add_comm]using u
end
end Go.AL

namespace Go.AL
open Go
variable [Dr]
section
variable {K:List Kd} {Q:List G→Prop}
end
end Go.AL

namespace Go.AL
open Go
variable [Dr]
section
variable {K:List Kd} {Z:List G} {Q:List G→Prop} {C:List G→Option (List G)} {cp:G→G} {cap:G} {p:List G→Bool}
structure Prd (K:List Kd) (C:List G→Option (List G)) (cp:G→G) (cap:G) (Q:List G→Prop) (p:List G→Bool):Prop where
 cmp:∀ r,Q r→C [.l [r],cap]=some [.t (p r)]
 eta:∀ r,Q r→aH K r=r
 fix:cp cap=cap
end
section
variable {K:List Kd} {Z:List G}
def parts (ps:List (List (List G))):List (List G):=ps.map fun p=>[.l p]
end
end Go.AL

namespace Go.AL
open Go
variable [Dr]
section sort
variable {α:Type} {lt:α→α→Bool}
theorem zi(x:α):∀ p:List α,(fV lt x p).Perm (x::p)
 | []=>oO _
 | y::p=>by
  simp only[fV];cases lt x y with
  |true=>exact(List.Perm.cons y (zi x p)).trans (List.Perm.swap x y p)
  |false=>exact oO _
theorem Lw:∀(r p:List α),(je lt p r).Perm (p++r)
 | [],p=>by simp[je]
 | x::r,p=>by
  simp only[je];refine(Lw r (fV lt x p)).trans ?_;refine(List.Perm.append_right r (zi x p)).trans ?_;simpa using(List.perm_middle (a:=x) (l₁:=p) (l₂:=r)).symm
theorem rV(l:List α):(dq lt l).Perm l:=by
 unfold dq;exact(List.reverse_perm _).trans (by simpa using Lw (lt:=lt) l [])
structure eZ (lt:α→α→Bool) (Q:α→Prop):Prop where
 tr:∀ a b c,Q a→Q b→Q c→lt a b=false→lt b c=false→lt a c=false
 zk:∀ a b,Q a→Q b→lt a b=true→lt b a=false
variable {Q:α→Prop}
theorem Lx(h:eZ lt Q){x:α}(k:Q x):∀{p:List α},(∀ y∈p,Q y)→p.Pairwise (fun a b=>lt a b=false)→(fV lt x p).Pairwise (fun a b=>lt a b=false)
 | [],_,_=>by simp[fV]
 | y::p,u,v=>by
  obtain⟨h1,I⟩:=np.1 v;have B:=u y cW;have q:∀ z∈p,Q z:=fun z d=>u z (c9 _ d);simp only[fV];cases g:lt x y with
  | true =>
   refine np.2 ⟨fun z d=>?_,Lx h k q I⟩;rcases bW.1 ((zi x p).mem_iff.1 d)with rfl|d
   ·exact h.zk _ _ k B g
   ·exact h1 z d
  | false =>
   refine np.2 ⟨fun z d=>?_,v⟩;rcases bW.1 d with rfl|d
   ·exact g
   ·exact h.tr x y z k B (q z d) g (h1 z d)
theorem Ly(k:eZ lt Q):∀{r p:List α},(∀ y∈p,Q y)→(∀ y∈r,Q y)→p.Pairwise (fun a b=>lt a b=false)→(je lt p r).Pairwise (fun a b=>lt a b=false)
 | [],_,_,_,g=>by simpa[je]using g
 | x::r,p,q,h,g=>by
  simp only[je];refine Ly k (fun y d=>?_) (fun y d=>h y (c9 _ d)) (Lx k (h x cW) q g);rcases bW.1 ((zi x p).mem_iff.1 d)with rfl|d
  ·exact h _ cW
  ·exact q y d
theorem zl(d:eZ lt Q){l:List α}(g:∀ y∈l,Q y):(dq lt l).Pairwise (fun a b=>lt b a=false):=by
 unfold dq;rw[List.pairwise_reverse];exact Ly d (by simp) g List.Pairwise.nil
theorem Dy:∀{l r:List α},l.Perm r→(∀ a∈l,∀ b∈l,lt a b=false→lt b a=false→a=b)→l.Pairwise (fun a b=>lt b a=false)→r.Pairwise (fun a b=>lt b a=false)→l=r
 | [],r,d,_,_,_=>d.nil_eq
 |a::l,[],d,_,_,_=>by simpa using d.length_eq
 | a::l,b::r,d,ha,h1,q=>by
  obtain⟨u,v⟩:=np.1 h1;obtain⟨B,I⟩:=np.1 q;have e:a=b:=by
   have hb:b∈a::l:=d.symm.subset cW;have h:a∈b::r:=d.subset cW;rcases bW.1 hb with e|k
   ·exact e.symm
   ·rcases bW.1 h with e | g
    ·exact e
    ·exact ha a cW b hb (B a g) (u b k)
  subst e;rw[Dy ((List.perm_cons a).1 d) (fun x J y M=>ha x (c9 _ J) y (c9 _ M)) v I]
theorem V9(d:eZ lt Q){l r:List α}(g:l.Perm r)(k:∀ y∈l,Q y)(ha:∀ a∈l,∀ b∈l,lt a b=false→lt b a=false→a=b):dq lt l=dq lt r :=
 Dy ((rV l).trans (g.trans (rV r).symm)) (fun a h b h'=>ha a ((rV l).mem_iff.1 h) b ((rV l).mem_iff.1 h')) (zl d k)
  (zl d fun y q=>k y (g.mem_iff.2 q))
end sort
theorem V_{sp:fv}{tl:List G→Option (Option Nat × List G)}{rows:List (List G)}{clock:Nat}{d:List G}{r:Option Nat × List G}(g:lB rows clock=true)
  (h:∀ b p,p.Perm rows→sp.side d b=true∧∃ d',cH sp.st sp.a7 p (sp.init d b)=some d'∧tl d'=some r):jK sp tl rows clock d=some r:=by
 unfold jK;rw[g];refine KV fun b p k=>?_;obtain⟨h1,d',q,u⟩:=h b p k;rw[h1,cond_true,q];exact u
end Go.AL

namespace Go.AL
open Go
variable [Dr]
section
variable {α:Type} (f:α→Int)
end
section
variable {α:Type} {e:α→α→Bool}
end
end Go.AL

namespace Go.AL
open Go
variable [Dr]
section
variable {K:List Kd} {C:List G→Option (List G)} {Q:List G→Prop} {c:List G→List G→Int}
end
end Go.AL

namespace Go.AL
open Go
variable [Dr]
section
variable {C:List G→Option (List G)} {Q:List G→Prop} {c:List G→List G→Int}
theorem eZ.mono{α:Type}{lt:α→α→Bool}{Q k:α→Prop}(h:eZ lt Q)(g:∀ a,k a→Q a):eZ lt k :=
 ⟨fun a b d ha hb q=>h.tr a b d (g a ha) (g b hb) (g d q),fun a b ha hb=>h.zk a b (g a ha) (g b hb)⟩
def rW(C:List G→Option (List G))(Q:List G→Prop)(c:List G→List G→Int):Prop:=∀ r s,Q r→Q s→∃ v,C [.l [r],.l [s]]=some [.i v]∧(v<0↔c r s<0)
end
end Go.AL

namespace Go.AL
open Go Go.Proofs
variable [Dr]
variable {C:List G→Option (List G)} {Q:List G→Prop} {c:List G→List G→Int}
theorem Lz(hC:rW C Q c){r s:List G}(d:Q r)(g:Q s):decide (vf C r s<0)=bY c r s:=by
 obtain⟨v,h,k⟩:=hC r s d g;unfold vf bY;rw[h,dm];show decide (v<0)=_
 rw[oN,decide_eq_true_eq,decide_eq_true_eq];exact k
theorem pP(hC:rW C Q c){rows:List (List G)}(d:∀ y∈rows,Q y)(h0:rows≠[])(i j:Nat):ltOf (lE C rows) i j=bY c (fl rows i) (fl rows j) :=
 Lz hC (d _ (vg h0 i)) (d _ (vg h0 j))
theorem Wa(hC:rW C Q c)(k:eZ (bY c) Q){rows:List (List G)}(d:∀ y∈rows,Q y)(h0:rows≠[])(u:rows.length<100000):pI C rows:=by
 have g:=fun i=>d _ (vg h0 i);refine⟨fun r h s h'=>by obtain⟨v,e,_⟩:=hC r s (d r h) (d s h'); exact⟨v,e⟩,⟨fun x=>?_,fun x y z=>?_,fun x y z=>?_⟩,by omega⟩
 ·rw [pP hC d h0]
  cases h:bY c (fl rows x) (fl rows x)with
  |false=>rfl
  |true=>rw[k.zk _ _ (g x) (g x) h]at h; cases h
 ·rw [pP hC d h0, pP hC d h0, pP hC d h0]
  intro h1 q;cases h:bY c (fl rows x) (fl rows z)with
  |true=>rfl
  | false =>
   have:=k.tr _ _ _ (g x) (g z) (g y) h (k.zk _ _ (g y) (g z) q);rw[this]at h1;cases h1
 ·rw [pP hC d h0, pP hC d h0, pP hC d h0]
  exact k.tr _ _ _ (g x) (g y) (g z)
theorem Wb(hC:rW C Q c)(q:eZ (bY c) Q)(rows:List (List G))(g:∀ y∈rows,Q y)(u:rows.length<100000) :
  ∃ out,rR C [.l rows]=some [.l out]∧out.Perm rows∧out.Pairwise fun a b=>bY c b a=false:=by
 unfold rR;have e:(gi [G.l rows] 0).rows=rows:=rfl;rw[e];by_cases h0:rows=[]
 ·rw [if_pos h0, h0]
  exact⟨[],rfl,oO _,List.Pairwise.nil⟩
 ·have d := Wa hC q g h0 u
  rw[if_neg h0,if_pos d];have k:=Li d;refine⟨_,rfl,k,?_⟩;refine afD ?_ (VM d);intro a b h1 v h;rw[←Lz hC (g b (k.mem_iff.1 v)) (g a (k.mem_iff.1 h1)),decide_eq_false_iff_not];exact h
theorem Wc(hC:rW C Q c)(g:eZ (bY c) Q)(rows:List (List G))(k:∀ y∈rows,Q y)(q:rows.length<100000)(ha:∀ a∈rows,∀ b∈rows,bY c a b=false→bY c b a=false→a=b) :
  rR C [.l rows]=some [.l (dq (bY c) rows)]:=by
 obtain⟨out,h,d,u⟩:=Wb hC g rows k q;rw[h,Dy (d.trans (rV (lt:=bY c) rows).symm) (fun a h1 b v=>ha a (d.mem_iff.1 h1) b (d.mem_iff.1 v)) u (zl g k)]
end Go.AL

namespace Go.AL
open Go
variable [Dr]
noncomputable abbrev vl(r:List G):Int:=(gi r 0).int
noncomputable abbrev pQ(r:List G):Int:=(gi r 1).int
def Wd(r:List G):Prop:=r=[.i (vl r),.i (pQ r)]∧vl r<pQ r
def LA(l:List (List G))(n:Int):Prop:=∃ r∈l,vl r≤n∧n<pQ r
def We(l:List (List G)):Prop:=(∀ r∈l,Wd r)∧l.Pairwise fun r s=>pQ r<vl s
/-! ### Rows put d -/
/-! ### Rows d others -/
structure afp (out:List (List G)) (a b:Int) (os:List (List G)) (ps:List (List G)) (f:Int):Prop where
 low:a≤f
 at_:f=a∨∃ o∈os,f=pQ o
 past:∀ o∈os,pQ o≤f∨b≤vl o
 mem:∀ n,LA ps n↔a≤n∧n<f∧n<b∧¬ LA os n
 can:We (out++ps)
 gap:∀ s∈out++ps,pQ s<f
 many:ps.length≤os.length
end Go.AL
