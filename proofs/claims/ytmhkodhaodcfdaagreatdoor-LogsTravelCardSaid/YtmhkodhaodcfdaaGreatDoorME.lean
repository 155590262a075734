/-
 What is proved here: rules by which lifted functions are shown to give what they should. No program in sight; no condition.
-/
import Derived.Test.YtmhkodhaodcfdaaGreatDoorMD
import Derived.Test.YtmhkodhaodcfdaaGreatDoorMU
import Derived.Lib.ItoaNum
import Derived.Lib.SlTrimSet
set_option linter.all false
open Bool renaming and_true->gu,and_eq_true->aE
open Go.Lib renaming join->eD,indexByte->eN,join_cons->akh,join_one->kN,decDigits->jg,trimS->pE,itoa->f_,digitVal->akk,decFrom->akl,decNat->uK
open List renaming length_cons->bW,getElem?_eq_getElem->cn,getD_eq_getElem?_getD->eh,mem_cons->cf,eq_nil_of_length_eq_zero->ot,length_append->dG,mem_append->cN,nil_append->nm,replicate->dz,mem_cons_self->cZ,mem_cons_of_mem->c8,all_cons->jA,drop_eq_nil_of_le->EZ,length_replicate->S',mem_singleton->gH,length_nil->kf,count_eq_zero->A9,count_append->A_,eq_nil_or_concat->xp,concat_eq_append->xq,all_append->sF
open Nat renaming le_refl->aY,zero_add->eo,beq->aH,ble->bf,ble_eq->cu,pow_succ->akj
open Option.some renaming injEq->a_
open UInt8 renaming ofNat->jB
namespace Go.AL
open Go
variable [Dr]
def aa{β:Type}(x:Option β)(Q:β->Prop):Prop:=∃ r,x=some r/\Q r
def iZ(st:LG->Option (Option Nat × LG))(d:LG)(Q:Nat->LG->Prop):Prop:=∃ n x a,j9 st n d x a/\n<=1000000/\Q x a
namespace aa
variable {β:Type} {Q:β->Prop}
theorem some{r:β}(h:Q r):aa (some r) Q:=⟨r,rfl,h⟩
theorem pos{b:Bool}{x y:Option β}(h:b=true)(a:aa x Q):aa (bif b then x else y) Q:=by subst h; exact a
theorem neg{b:Bool}{x y:Option β}(h:b=false)(a:aa y Q):aa (bif b then x else y) Q:=by subst h; exact a
theorem test{b:Bool}{x y:Option β}(a:b=true->aa x Q)(d:b=false->aa y Q):aa (bif b then x else y) Q:=by
 cases b with
 |true=>exact a rfl
 |false=>exact d rfl
theorem call{t:Option LG}{k:LG->Option β}{P:LG->Prop}(h:aa t P)(a:∀ g,P g->aa (k g) Q):aa (aj t k) Q:=by
 obtain⟨r,h,b⟩:=h;subst h;exact a r b
theorem lT{c:Bool}{t:Option LG}{k:LG->Option β}{P:LG->Prop}(h:aa t P)(a:c=true)(b:∀ g,P g->aa (k g) Q):aa (iY (c&&t.isSome) t k) Q:=by
 obtain⟨r,h,d⟩:=h;subst h a;exact b r d
theorem loop{c:Bool}{st:LG->Option (Option Nat × LG)}{d:LG}{k:Nat->LG->Option β}{P:Nat->LG->Prop}(h:iZ st d P)(a:c=true)(b:∀ x g,P x g->aa (k x g) Q):aa (bT c (cd st d) k) Q:=by
 obtain⟨n,x,q,h,t,v⟩:=h;rw[h.Xx t];subst a;exact b x q v
theorem tail{c:Bool}{t:Option (Option Nat × LG)}{k:Nat->LG->Option β}{P:Nat->LG->Prop}(h:aa t fun o=>∃ x,o.1=Option.some x/\P x o.2)(b:c=true)(q:∀ x g,P x g->aa (k x g) Q) :
  aa (bT c (rG t) k) Q:=by
 obtain⟨⟨o,d⟩,rfl,x,a,v⟩:=h;simp only at a;subst a b;exact q x d v
theorem mono{x:Option β}{P:β->Prop}(h:aa x P)(a:∀ r,P r->Q r):aa x Q:=by
 obtain⟨r,h,b⟩:=h;exact⟨r,h,a r b⟩
theorem eq{x:Option β}{r:β}(h:x=Option.some r):aa x (fun g=>g=r):=⟨r,h,rfl⟩
theorem toEq{x:Option β}{r:β}(h:aa x (fun g=>g=r)):x=Option.some r:=by
 obtain⟨a,h,rfl⟩:=h;exact h
end aa
def iZ.stop{st:LG->Option (Option Nat × LG)}{d d':LG}{x:Nat}{Q:Nat->LG->Prop}(h:st d=some (some x,d'))(a:Q x d'):iZ st d Q:=⟨1,x,d',.stop h,by omega,a⟩
def bl(st:LG->Option (Option Nat × LG))(d:LG)(m:Nat)(Q:Nat->LG->Prop):Prop:=∃ n x a,j9 st n d x a/\n<=m/\Q x a
def bl.stop{st:LG->Option (Option Nat × LG)}{d d':LG}{x m:Nat}{Q:Nat->LG->Prop}(h:st d=some (some x,d'))(a:Q x d'):bl st d (m+1) Q:=⟨1,x,d',.stop h,by omega,a⟩
def bl.next{st:LG->Option (Option Nat × LG)}{d d1:LG}{m:Nat}{Q:Nat->LG->Prop}(h:st d=some (none,d1))(a:bl st d1 m Q):bl st d (m+1) Q:=by
 obtain⟨n,x,b,g,q,k⟩:=a;exact⟨n+1,x,b,.next h g,by omega,k⟩
def bl.to{st:LG->Option (Option Nat × LG)}{d:LG}{m:Nat}{Q:Nat->LG->Prop}(h:bl st d m Q)(hm:m<=1000000):iZ st d Q:=by
 obtain⟨n,x,a,b,k,g⟩:=h;exact⟨n,x,a,b,by omega,g⟩
def iZ.mono{st:LG->Option (Option Nat × LG)}{d:LG}{P Q:Nat->LG->Prop}(h:iZ st d P)(a:∀ x g,P x g->Q x g):iZ st d Q:=by
 obtain⟨n,x,b,k,q,t⟩:=h;exact⟨n,x,b,k,q,a _ _ t⟩
def bl.mono{st:LG->Option (Option Nat × LG)}{d:LG}{m:Nat}{P Q:Nat->LG->Prop}(h:bl st d m P)(a:∀ x g,P x g->Q x g):bl st d m Q:=by
 obtain⟨n,x,b,k,q,t⟩:=h;exact⟨n,x,b,k,q,a _ _ t⟩
def iZ.inv{α:Type}{st:LG->Option (Option Nat × LG)}{Q:Nat->LG->Prop}(f:α->LG)(I:α->Prop)(m:α->Nat)
  (v:∀ a,I a->aa (st (f a)) fun o=>(o.1=none/\∃ b,o.2=f b/\I b/\m b<m a)\/∃ x,o.1=some x/\Q x o.2)
  (a:α) (t:I a) (hm:m a<1000000):iZ st (f a) Q:=by
 have key:∀ k a,I a->m a<=k->∃ n x q,j9 st n (f a) x q/\n<=m a+1/\Q x q:=by
  intro k
  induction k with
  | zero =>
   intro a t B;obtain⟨⟨o,d⟩,h,g⟩:=v a t;rcases g with⟨_,b,_,_,z⟩|⟨x,rfl,g⟩
   ·omega
   ·exact⟨1,x,d,.stop h,by omega,g⟩
  | succ k F =>
   intro a t B;obtain⟨⟨o,d⟩,h,g⟩:=v a t;rcases g with⟨w,b,y,J,z⟩|⟨x,rfl,g⟩
   ·obtain ⟨n, x, q, A, M, g⟩ := F b J (by omega)
    simp only at w y;subst w y;exact⟨n+1,x,q,.next h A,by omega,g⟩
   ·exact⟨1,x,d,.stop h,by omega,g⟩
 obtain⟨n,x,q,h,M,g⟩:=key (m a) a t (aY _);exact⟨n,x,q,h,by omega,g⟩
def YH{p:Prop}{i:Decidable p}:(@decide p i=true)↔p:=by simp
def YI{p:Prop}{i:Decidable p}:(@decide p i=false)↔¬ p:=by simp
def YJ{a b:Nat}:aH a b=true↔a=b:=⟨Nat.eq_of_beq_eq_true,fun h=>h▸Nat.beq_refl a⟩
def Aa(a:G)(l:LG):gi (a::l) 0=a:=rfl
def Ab(a:G)(l:LG)(i:Nat):gi (a::l) (i+1)=gi l i:=rfl
def Ac(r:LG)(l:LL):(G.l (r::l)).rV=r:=rfl
def Ad(l:LL):(G.l l).rZ=l:=rfl
def Ae(n:Int):(G.i n).iV=n:=rfl
def Af(s:BY):(G.s s).sV=s:=rfl
def Ag(b:Bool):(G.t b).bV=b:=rfl
attribute [go_sem] Aa Ab Ac Ad Ae Af Ag
def sl:(∀ a b:Int,aK a b=decide (a<b))/\(∀ a b:Int,aR a b=decide (a<=b))/\(∀ n:Int,cA n=decide (0<=n))/\(∀ b:Bool,(b&&true)=b)/\(∀ b:Bool,(true&&b)=b) /\
  (∀ a b:Bool,((a&&b)=true)=(a=true/\b=true))/\(∀ a b:Bool,((a&&b)=false)=(a=false\/b=false))/\(∀(p:Prop) (i:Decidable p),(@decide p i=true)=p)/\(∀(p:Prop) (i:Decidable p),(@decide p i=false)=¬ p) /\
  (∀ b:Bool,((!b)=true)=(b=false))/\(∀ b:Bool,((!b)=false)=(b=true))/\(∀ a b:Int,((a==b)=true)=(a=b))/\(∀ a b:Int,((a==b)=false)=¬ (a=b))/\(∀ a b:Int,((a != b)=true)=¬ (a=b))/\(∀ a b:Int,((a != b)=false)=(a=b)) /\
  (∀(α:Type) (a b:α),(a≠b)=¬ (a=b))/\(∀ a b:Nat,(aH a b=true)=(a=b))/\(∀ a b:Nat,(bf a b=true)=(a<=b))/\(∀ a b:Nat,(Nat.blt a b=true)=(a<b)) /\
  (∀(l:LL) (i:Nat) (x:LG),(l.set i x).length=l.length)/\(∀(α:Type) (l r:List α),(l++r).length=l.length+r.length)/\(∀(n:Nat) (x:LG),(dz n x).length=n) /\
  (∀(α:Type) (x:α) (l:List α),(x::l).length=l.length+1)/\(∀ α:Type,([]:List α).length=0)/\(∀(l:LL) (n:Nat),(l.take n).length=min n l.length)/\(∀(l:LL) (n:Nat),(l.drop n).length=l.length-n) /\
  (∀ n:Nat,((n:Int)).toNat=n)/\(∀ p:Prop,(True/\p)=p)/\(∀ p:Prop,(p/\True)=p)/\(∀ a b:Bool,((a==b)=true)=(a=b)) :=
 ⟨be, bz, dY, gu, Bool.true_and, aE, fun a b => by cases a <;> cases b <;> simp, fun _ _ => propext YH, fun _ _ => propext YI, fun b => by cases b <;> simp, fun b => by cases b <;> simp,
  fun a b=>by simp,fun a b=>by simp,fun a b=>by simp,fun a b=>by simp,fun _ a b=>rfl,fun a b=>propext YJ,fun a b=>by simp,fun a b=>by simp,fun l i x=>List.length_set,fun _ l r=>dG,fun n x=>S',
  fun _ x l=>rfl,fun _=>rfl,fun l n=>List.length_take,fun l n=>List.length_drop,fun n=>Int.toNat_natCast n,fun p=>true_and p,fun p=>and_true p,fun a b=>by cases a<;>cases b<;>simp⟩
def aa.p{β:Type}{Q:β->Prop}{b:Bool}{x y:Option β}(a:aa x Q)(h:b=true:=by first|rfl|assumption|(simp only[aF,sl]<;>omega)):aa (bif b then x else y) Q:=aa.pos h a
def aa.n{β:Type}{Q:β->Prop}{b:Bool}{x y:Option β}(a:aa y Q)(h:b=false:=by first|rfl|assumption|(simp only[aF,sl]<;>omega)):aa (bif b then x else y) Q:=aa.neg h a
def aa.cE{β:Type}{Q:β->Prop}{t:Option LG}{r:LG}{k:LG->Option β}(h:t=Option.some r)(a:aa (k r) Q):aa (aj t k) Q:=aa.call (aa.eq h) fun _ e=>by subst e; exact a

end Go.AL

namespace Go.AL
open Go
variable [Dr]
def oO{σ:Type}{st:LG->Option (Option Nat × LG)}(mk:σ->Nat->LG)(n:Nat)(a:σ->Nat × LG)(I:σ->Nat->Prop)(E:Nat->LG->Prop)
  (d:∀ s i,I s i->i<n->aa (st (mk s i)) fun o=>(∃ s',o=(none,mk s' (i+1))/\I s' (i+1))\/∃ c g,o=(some c,g)/\E c g)
  (q:∀ s,I s n->aa (st (mk s n)) fun o=>o=(some (a s).1,(a s).2)) :
  ∀(k:Nat) (s:σ) (i:Nat),i+k=n->I s i->bl st (mk s i) (k+1) fun c g=>(∃ s',I s' n/\c=(a s').1/\g=(a s').2)\/E c g
 | 0,s,i,hi,b=>by
  have e:i=n:=hi;subst e;obtain⟨o,h,rfl⟩:=q s b;exact bl.stop h (.inl ⟨s,b,rfl,rfl⟩)
 | k+1,s,i,hi,b=>by
  obtain⟨o,h,⟨s',rfl,t⟩|⟨c,g,rfl,v⟩⟩:=d s i b (by omega)
  ·exact bl.next h (oO mk n a I E d q k s' (i+1) (by omega) t)
  ·exact bl.stop h (.inr v)
def i_{rZ:LL}{i:Nat}(h:i<rZ.length):rZ.getD i []∈rZ:=by
 rw[eh,cn h];exact List.getElem_mem h
def YK{rZ:LL}{i:Nat}(h:i<rZ.length):rZ.take (i+1)=rZ.take i++[rZ.getD i []]:=by
 rw[List.take_add_one,eh,cn h];rfl
def OD{σ:Type}{st:LG->Option (Option Nat × LG)}(mk:σ->Nat->LG)(rZ:LL)(a:σ->Nat × LG)(I:σ->Nat->Prop)(E:Nat->LG->Prop)(s:σ)
  (q:rZ.length<999999) (h:I s 0)
  (b:∀ s i x,I s i->i<rZ.length->rZ.getD i []=x->x∈rZ->rZ.take (i+1)=rZ.take i++[x]->aa (st (mk s i)) fun o=>(∃ s',o=(none,mk s' (i+1))/\I s' (i+1))\/∃ c g,o=(some c,g)/\E c g)
  (d:∀ s,I s rZ.length->aa (st (mk s rZ.length)) fun o=>o=(some (a s).1,(a s).2)) :
  iZ st (mk s 0) fun c g=>(∃ s',I s' rZ.length/\c=(a s').1/\g=(a s').2)\/E c g :=
 (oO mk rZ.length a I E (fun s i k hi=>b s i _ k hi rfl (i_ hi) (YK hi)) d rZ.length s 0 (by omega) h).to (by omega)
end Go.AL

namespace Go.AL
open Go
variable [Dr]
end Go.AL

namespace Go.AL
open Go
variable [Dr]
def ze(K:List Kd)(C:LG->Option LG)(d:LG):Option (Option Nat × LG) :=
 (bif (aK (gi d 1).iV (gi d 4).iV) then (bif ((cA (gi d 4).iV)&&(aK (gi d 4).iV (((gi d 0).rZ.length:Nat):Int))) then (bif (decide ((0+((gi d 4).iV).toNat)<(gi d 0).rZ.length)) then (bif (aF ((gi d 4).iV-1)) then (bif ((cA ((gi d 4).iV-1))&&(aK ((gi d 4).iV-1) (((gi d 0).rZ.length:Nat):Int))) then (bif (decide ((0+((gi d 4).iV-1).toNat)<(gi d 0).rZ.length)) then (aj (C [.l [(bF K ((gi d 0).rZ.getD (0+((gi d 4).iV).toNat) []))],.l [(bF K ((gi d 0).rZ.getD (0+((gi d 4).iV-1).toNat) []))]]) fun a=>(bif (aK (gi a 0).iV 0) then (bif (aF ((gi d 4).iV-1)) then (bif (aF ((gi d 4).iV-1)) then (bif ((cA ((gi d 4).iV-1))&&(aK ((gi d 4).iV-1) (((gi d 0).rZ.length:Nat):Int))) then (bif (decide ((0+((gi d 4).iV-1).toNat)<(gi d 0).rZ.length)) then (bif ((cA (gi d 4).iV)&&(aK (gi d 4).iV (((gi d 0).rZ.length:Nat):Int))) then (bif (decide ((0+((gi d 4).iV).toNat)<(gi d 0).rZ.length)) then (bif ((cA (gi d 4).iV)&&(aK (gi d 4).iV (((gi d 0).rZ.length:Nat):Int))) then (bif (decide ((0+((gi d 4).iV).toNat)<(gi d 0).rZ.length)) then (bif ((cA ((gi d 4).iV-1))&&(aK ((gi d 4).iV-1) (((gi d 0).rZ.length:Nat):Int))) then (bif (decide ((0+((gi d 4).iV-1).toNat)<((gi d 0).rZ.set (0+((gi d 4).iV).toNat) (fN K ((gi d 0).rZ.getD (0+((gi d 4).iV).toNat) []) 0 (bF K ((gi d 0).rZ.getD (0+((gi d 4).iV-1).toNat) [])))).length)) then (bif (aF ((gi d 4).iV-1)) then (bif ((aH (gi d 0).rZ.length (((gi d 0).rZ.set (0+((gi d 4).iV).toNat) (fN K ((gi d 0).rZ.getD (0+((gi d 4).iV).toNat) []) 0 (bF K ((gi d 0).rZ.getD (0+((gi d 4).iV-1).toNat) [])))).set (0+((gi d 4).iV-1).toNat) (fN K (((gi d 0).rZ.set (0+((gi d 4).iV).toNat) (fN K ((gi d 0).rZ.getD (0+((gi d 4).iV).toNat) []) 0 (bF K ((gi d 0).rZ.getD (0+((gi d 4).iV-1).toNat) [])))).getD (0+((gi d 4).iV-1).toNat) []) 0 (bF K ((gi d 0).rZ.getD (0+((gi d 4).iV).toNat) [])))).length)&&true) then some (none,[.l (((gi d 0).rZ.set (0+((gi d 4).iV).toNat) (fN K ((gi d 0).rZ.getD (0+((gi d 4).iV).toNat) []) 0 (bF K ((gi d 0).rZ.getD (0+((gi d 4).iV-1).toNat) [])))).set (0+((gi d 4).iV-1).toNat) (fN K (((gi d 0).rZ.set (0+((gi d 4).iV).toNat) (fN K ((gi d 0).rZ.getD (0+((gi d 4).iV).toNat) []) 0 (bF K ((gi d 0).rZ.getD (0+((gi d 4).iV-1).toNat) [])))).getD (0+((gi d 4).iV-1).toNat) []) 0 (bF K ((gi d 0).rZ.getD (0+((gi d 4).iV).toNat) [])))),.i (gi d 1).iV,.i (gi d 2).iV,.i (gi d 3).iV,.i ((gi d 4).iV-1)]) else none) else none) else none) else none) else none) else none) else none) else none) else none) else none) else none) else none) else (bif ((aH (gi d 0).rZ.length (gi d 0).rZ.length)&&true) then some (some 0,[.l (gi d 0).rZ,.i (gi d 1).iV,.i (gi d 2).iV,.i (gi d 3).iV]) else none))) else none) else none) else none) else none) else none) else (bif ((aH (gi d 0).rZ.length (gi d 0).rZ.length)&&true) then some (some 0,[.l (gi d 0).rZ,.i (gi d 1).iV,.i (gi d 2).iV,.i (gi d 3).iV]) else none))
def wg(K:List Kd)(C:LG->Option LG)(d:LG):Option (Option Nat × LG) :=
 (bif (aK (gi d 3).iV (gi d 2).iV) then (bT ((aH (gi d 0).rZ.length (gi d 0).rZ.length)&&true) (cd (ze K C) [.l (gi d 0).rZ,.i (gi d 1).iV,.i (gi d 2).iV,.i (gi d 3).iV,.i (gi d 3).iV]) fun b a=>(bif (aF ((gi a 3).iV+1)) then (bif ((aH (gi a 0).rZ.length (gi a 0).rZ.length)&&true) then some (none,[.l (gi a 0).rZ,.i (gi a 1).iV,.i (gi a 2).iV,.i ((gi a 3).iV+1)]) else none) else none)) else some (some 0,[.l (gi d 0).rZ]))
def oP(K:List Kd)(C:LG->Option LG)(d:LG):Option LG :=
 (bif (aF ((gi d 1).iV+1)) then (bT ((aH (gi d 0).rZ.length (gi d 0).rZ.length)&&true) (cd (wg K C) [.l (gi d 0).rZ,.i (gi d 1).iV,.i (gi d 2).iV,.i ((gi d 1).iV+1)]) fun b a=>some [.l (gi a 0).rZ]) else none)
def tO(K:List Kd)(C:LG->Option LG)(d:LG):Option (Option Nat × LG) :=
 (bif (aR (gi d 4).iV (gi d 1).iV) then (iY (((aH (gi d 0).rZ.length (gi d 0).rZ.length)&&true)&&((oP K C) [.l (gi d 0).rZ,.i (gi d 3).iV,.i (gi d 4).iV]).isSome) ((oP K C) [.l (gi d 0).rZ,.i (gi d 3).iV,.i (gi d 4).iV]) fun a=>(bif (aF ((gi d 4).iV+(gi d 2).iV)) then (bif ((aH (gi d 0).rZ.length (gi a 0).rZ.length)&&true) then some (none,[.l (gi a 0).rZ,.i (gi d 1).iV,.i (gi d 2).iV,.i (gi d 4).iV,.i ((gi d 4).iV+(gi d 2).iV)]) else none) else none)) else (bif ((aH (gi d 0).rZ.length (gi d 0).rZ.length)&&true) then some (some 0,[.l (gi d 0).rZ,.i (gi d 1).iV,.i (gi d 2).iV,.i (gi d 3).iV]) else none))
def YL(K:List Kd)(C:LG->Option LG)(d:LG):Option (Option Nat × LG) :=
 (bif (aR (gi d 4).iV (gi d 1).iV) then (bif (aF ((gi d 3).iV+(gi d 2).iV)) then none else none) else (bif ((aH (gi d 0).rZ.length (gi d 0).rZ.length)&&true) then some (some 0,[.l (gi d 0).rZ,.i (gi d 1).iV,.i (gi d 2).iV,.i (gi d 3).iV]) else none))
def H8(K:List Kd)(C:LG->Option LG)(d:LG):Option (Option Nat × LG) :=
 (bif (aK (gi d 2).iV (gi d 1).iV) then (bif (aF (2*(gi d 2).iV)) then (bT ((aH (gi d 0).rZ.length (gi d 0).rZ.length)&&true) (cd (YL K C) [.l (gi d 0).rZ,.i (gi d 1).iV,.i (gi d 2).iV,.i 0,.i (2*(gi d 2).iV)]) fun b a=>(bif (aF ((gi a 3).iV+(gi a 2).iV)) then (bif (aK ((gi a 3).iV+(gi a 2).iV) (gi a 1).iV) then none else (bif (aF ((gi a 2).iV*2)) then (bif ((aH (gi a 0).rZ.length (gi a 0).rZ.length)&&true) then some (none,[.l (gi a 0).rZ,.i (gi a 1).iV,.i ((gi a 2).iV*2)]) else none) else none)) else none)) else none) else some (some 0,[.l (gi d 0).rZ]))
def C9(K:List Kd)(C:LG->Option LG)(d:LG):Option LG :=
 (bT ((aH (gi d 0).rZ.length (gi d 0).rZ.length)&&true) (cd (tO K C) [.l (gi d 0).rZ,.i (gi d 1).iV,.i 20,.i 0,.i 20]) fun h a=>(iY (((aH (gi a 0).rZ.length (gi a 0).rZ.length)&&true)&&((oP K C) [.l (gi a 0).rZ,.i (gi a 3).iV,.i (gi a 1).iV]).isSome) ((oP K C) [.l (gi a 0).rZ,.i (gi a 3).iV,.i (gi a 1).iV]) fun b=>(bT ((aH (gi a 0).rZ.length (gi b 0).rZ.length)&&true) (cd (H8 K C) [.l (gi b 0).rZ,.i (gi a 1).iV,.i (gi a 2).iV]) fun k g=>some [.l (gi g 0).rZ])))
def OE(K:List Kd)(C:LG->Option LG)(d:LG):Option LG :=
 (iY (((aH (gi d 0).rZ.length (gi d 0).rZ.length)&&true)&&((C9 K C) [.l (gi d 0).rZ,.i (((gi d 0).rZ.length:Nat):Int)]).isSome) ((C9 K C) [.l (gi d 0).rZ,.i (((gi d 0).rZ.length:Nat):Int)]) fun a=>some [.l (gi a 0).rZ])
def lg{α:Type}(l:List α)(x:α)(q:List α)(z:α)(n:Nat)(h:n=l.length):(l++x::q).getD n z=x:=by subst h; simp
def OF{α:Type}(l:List α)(x y:α)(q:List α)(n:Nat)(h:n=l.length):(l++x::q).set n y=l++y::q:=by subst h; simp
def lU{α:Type}(lt:α->α->Bool)(x:α):List α->List α
 | []=>[x]
 |y::p=>bif lt x y then y::lU lt x p else x::y::p
def rN{α:Type}(lt:α->α->Bool):List α->List α->List α
 |p,[]=>p
 |p,x::r=>rN lt (lU lt x p) r
def eS{α:Type}(lt:α->α->Bool)(l:List α):List α:=(rN lt [] l).reverse
def C_{α:Type}(lt:α->α->Bool)(x:α):∀ p,(lU lt x p).length=p.length+1
 | []=>rfl
 | y::p=>by
  simp only[lU];cases lt x y with
  |true=>simp[C_ lt x p]
  |false=>simp
def H9{α:Type}{Q:α->Prop}{lt:α->α->Bool}{x:α}(b:Q x):∀{p:List α},(∀ y∈p,Q y)->∀ y∈lU lt x p,Q y
 | [],_,y,a=>by simp[lU]at a; exact a▸b
 | z::p,d,y,a=>by
  simp only[lU]at a;cases g:lt x z with
  | true =>
   rw[g]at a;rcases cf.1 a with rfl|a
   ·exact d _ cZ
   ·exact H9 b (fun y a=>d y (c8 _ a)) y a
  | false =>
   rw[g]at a;rcases cf.1 a with rfl|a
   ·exact b
   ·exact d y a
def OG{α:Type}(lt:α->α->Bool):∀(p r:List α),(rN lt p r).length=p.length+r.length
 |p,[]=>rfl
 |p,x::r=>by simp only[rN,OG lt,C_,bW]; omega
def OH{α:Type}{Q:α->Prop}{lt:α->α->Bool}:∀{r p:List α},(∀ y∈p,Q y)->(∀ y∈r,Q y)->∀ y∈rN lt p r,Q y
 | [],_,a,_=>a
 | x::r,p,a,b=>by
  simp only[rN];exact OH (H9 (b x cZ) a) fun y d=>b y (c8 _ d)
def zf{α:Type}(lt:α->α->Bool)(l:List α):(eS lt l).length=l.length:=by simp[eS,OG]
def C'{α:Type}{Q:α->Prop}{lt:α->α->Bool}{l:List α}(h:∀ y∈l,Q y):∀ y∈eS lt l,Q y:=by
 intro y a;exact OH (p:=[]) (by simp) h y (by simpa[eS]using a)
def Da:∀(K:List Kd) (r:LG),(bF K r).length=K.length
 | [],_=>rfl
 |k::K,r=>by simp[bF,Da K]
def H_{K:List Kd}{r a:LG}(h:a.length=K.length):fN K r 0 a=a:=by
 simp[fN,h,GF,EZ]
section
variable {K:List Kd} {C:LG->Option LG} {Q:LG->Prop} {c:LG->LG->Int}
structure rO (K:List Kd) (C:LG->Option LG) (Q:LG->Prop) (c:LG->LG->Int):Prop where
 cmp:∀ r s,Q r->Q s->C [.l [r],.l [s]]=some [.i (c r s)]
 eta:∀ r,Q r->bF K r=r
def dQ(c:LG->LG->Int)(r s:LG):Bool:=aK (c r s) 0
theorem OI(hC:rO K C Q c):∀(p q:LL) (x:LG) (b i:Int) (j:Nat),(∀ y∈p,Q y)->Q x->p.length<1000000->j=p.length ->
  ∃ m,m<=p.length+1/\j9 (ze K C) m [.l (p.reverse++x::q),.i 0,.i b,.i i,.i (j:Int)] 0 [.l ((lU (dQ c) x p).reverse++q),.i 0,.i b,.i i]
 | [],q,x,b,i,j,_,_,_,a=>by
  simp only[kf]at a;subst a;refine⟨1,by simp,.stop (aa.toEq ?_)⟩;unfold ze;dsimp +instances only[go_sem];refine aa.n (aa.p (aa.some ?_));rfl
 | y::p,q,x,b,i,j,v,d,J,a=>by
  have h:=v y cZ;have w:(y::p).reverse++x::q=(p.reverse++[y])++x::q:=by simp
  have M:(y::p).reverse++x::q=p.reverse++y::x::q:=by simp
  simp only[bW]at J a;have A:((y::p).reverse++x::q).getD (0+(j:Int).toNat) []=x:=by rw[w]; exact lg _ _ _ _ _ (by simp[a])
  have B:((y::p).reverse++x::q).getD (0+((j:Int)-1).toNat) []=y:=by rw[M]; exact lg _ _ _ _ _ (by simp[a])
  have k:((y::p).reverse++x::q).length=p.length+q.length+2:=by simp; omega
  have t:=hC.cmp x y d h;cases g:dQ c x y with
  | false =>
   refine⟨1,by simp,.stop (aa.toEq ?_)⟩;unfold ze;dsimp +instances only[go_sem];simp only[k,A,B,hC.eta x d,hC.eta y h];refine aa.p (aa.p (aa.p (aa.p (aa.p (aa.p (aa.call (aa.eq t) ?_))))));rintro _ rfl;dsimp +instances only[go_sem];refine aa.neg g (aa.p (aa.some ?_));simp[lU,g]
  | true =>
   obtain⟨m,hm,N⟩:=OI hC p (y::q) x b i (j-1) (fun z O=>v z (c8 _ O)) d (by omega) (by omega);refine⟨m+1,by simp; omega,.next (aa.toEq ?_) (by
    have e:(lU (dQ c) x (y::p)).reverse++q=(lU (dQ c) x p).reverse++y::q:=by simp[lU,g]
    rw[e]; exact N)⟩
   have s1:((y::p).reverse++x::q).set (0+(j:Int).toNat) y=p.reverse++y::y::q:=by
    rw[w,OF _ _ _ _ _ (by simp[a])]; simp
   have s2:(p.reverse++y::y::q).set (0+((j:Int)-1).toNat) x=p.reverse++x::y::q:=OF _ _ _ _ _ (by simp[a]);have F:(p.reverse++y::y::q).length=p.length+q.length+2:=by simp; omega
   have I:(p.reverse++x::y::q).length=p.length+q.length+2:=by simp; omega
   have U:y.length=K.length:=by rw[<-hC.eta y h,Da]
   have V:x.length=K.length:=by rw[<-hC.eta x d,Da]
   unfold ze;dsimp +instances only[go_sem];simp only[k,A,B,hC.eta x d,hC.eta y h,H_ U,H_ V,s1,s2,F,I];refine aa.p (aa.p (aa.p (aa.p (aa.p (aa.p (aa.call (aa.eq t) ?_))))));rintro _ rfl;dsimp +instances only[go_sem];refine aa.pos g ?_;refine aa.p (aa.p (aa.p (aa.p (aa.p (aa.p (aa.p (aa.p (aa.p (aa.p (aa.p (aa.p (aa.some ?_))))))))))));congr;omega
theorem OJ(hC:rO K C Q c):∀(r p:LL) (i n:Nat),(∀ y∈p,Q y)->(∀ y∈r,Q y)->i=p.length->n=p.length+r.length->n<100000 ->
  ∃ m,m<=r.length+1/\j9 (wg K C) m [.l (p.reverse++r),.i 0,.i (n:Int),.i (i:Int)] 0 [.l (rN (dQ c) p r).reverse]
 | [],p,i,n,_,_,hi,a,d=>by
  refine⟨1,by simp,.stop (aa.toEq ?_)⟩;simp only[kf]at a;unfold wg;dsimp +instances only[go_sem];refine aa.n (aa.some ?_);simp[rN]
 | x::r,p,i,n,h,b,hi,a,d=>by
  simp only[bW]at a;obtain⟨k,w,q⟩:=OI hC p r x (n:Int) (i:Int) i h (b x cZ) (by omega) hi;obtain⟨m,hm,t⟩:=OJ hC r (lU (dQ c) x p) (i+1) n (H9 (b x cZ) h) (fun y v=>b y (c8 _ v)) (by rw[C_,hi]) (by rw[C_]; omega) d;refine⟨m+1,by simp; omega,.next (aa.toEq ?_) t⟩;unfold wg;dsimp +instances only[go_sem];refine aa.p (aa.loop (P:=fun x g=>g=_) ⟨k,0,_,q,by omega,rfl⟩ (by(first|rfl|assumption|(simp only[aF,sl]<;>omega))) ?_);rintro _ _ rfl;dsimp +instances only[go_sem];refine aa.p (aa.p (aa.some ?_));rfl
theorem YM(hC:rO K C Q c)(rZ:LL)(a:∀ y∈rZ,Q y)(b:rZ.length<100000):oP K C [.l rZ,.i 0,.i (rZ.length:Int)]=some [.l (eS (dQ c) rZ)]:=by
 refine aa.toEq ?_;unfold oP;dsimp +instances only[go_sem];refine aa.p ?_;cases rZ with
 | nil =>
  refine aa.loop (P:=fun x g=>g=[.l []]) ⟨1,0,_,.stop (aa.toEq (?_:aa _ (fun g=>g=(some 0,[G.l []])))),by omega,rfl⟩ (by(first|rfl|assumption|(simp only[aF,sl]<;>omega))) ?_
  ·unfold wg
   dsimp +instances only[go_sem];exact aa.n (aa.some rfl)
  ·rintro _ _ rfl
   exact aa.some rfl
 | cons x r =>
  simp only[bW]at b;obtain⟨m,hm,h⟩:=OJ hC r [x] 1 (r.length+1) (by simpa using a x cZ) (fun y d=>a y (c8 _ d)) rfl (by simp; omega) (by omega);refine aa.loop (P:=fun y g=>g=_) ⟨m,0,_,h,by omega,rfl⟩ (by(first|rfl|assumption|(simp only[aF,sl]<;>omega))) ?_;rintro _ _ rfl;exact aa.some rfl
theorem YN(rZ:LL)(a b:Nat)(h:b<=a)(d:a<100000):oP K C [.l rZ,.i (a:Int),.i (b:Int)]=some [.l rZ]:=by
 refine aa.toEq ?_;unfold oP;dsimp +instances only[go_sem];refine aa.p ?_;refine aa.loop (P:=fun x g=>g=[.l rZ]) ⟨1,0,_,.stop (aa.toEq (?_:aa _ (fun g=>g=(some 0,[G.l rZ])))),by omega,rfl⟩ (by(first|rfl|assumption|(simp only[aF,sl]<;>omega))) ?_
 ·unfold wg
  dsimp +instances only[go_sem];exact aa.n (aa.some rfl)
 ·rintro _ _ rfl
  exact aa.some rfl
theorem YO(hC:rO K C Q c)(rZ:LL)(t:∀ y∈rZ,Q y)(z:rZ.length<=20):C9 K C [.l rZ,.i (rZ.length:Int)]=some [.l (eS (dQ c) rZ)]:=by
 refine aa.toEq ?_;unfold C9;dsimp +instances only[go_sem];have a:=YM hC rZ t (by omega);have h:=zf (dQ c) rZ;have q:∀ b:LL,b.length=rZ.length->iZ (H8 K C) [.l b,.i (rZ.length:Int),.i 20] fun _ g=>g=[.l b]:=by
  intro b A;refine iZ.stop (x:=0) (aa.toEq ?_) rfl;unfold H8;dsimp +instances only[go_sem];exact aa.n (aa.some rfl)
 by_cases k:rZ.length=20
 ·have d:tO K C [.l rZ,.i (rZ.length:Int),.i 20,.i 0,.i 20]=some (none,[.l (eS (dQ c) rZ),.i (rZ.length:Int),.i 20,.i 20,.i 40]):=by
   refine aa.toEq ?_;unfold tO;dsimp +instances only[go_sem];have a:oP K C [.l rZ,.i 0,.i 20]=some [.l (eS (dQ c) rZ)]:=by rw[k]at a; exact a
   refine aa.p (aa.lT (aa.eq a) (by(first|rfl|assumption|(simp only[aF,sl]<;>omega))) ?_);rintro _ rfl;dsimp +instances only[go_sem];exact aa.p (aa.p (aa.some rfl))
  have v:tO K C [.l (eS (dQ c) rZ),.i (rZ.length:Int),.i 20,.i 20,.i 40]=some (some 0,[.l (eS (dQ c) rZ),.i (rZ.length:Int),.i 20,.i 20]):=by
   refine aa.toEq ?_;unfold tO;dsimp +instances only[go_sem];exact aa.n (aa.p (aa.some rfl))
  refine aa.loop (P:=fun x g=>g=_) ⟨2,0,_,.next d (.stop v),by omega,rfl⟩ (by(first|rfl|assumption|(simp only[aF,sl]<;>omega))) ?_;rintro _ _ rfl;dsimp +instances only[go_sem];have w:oP K C [.l (eS (dQ c) rZ),.i 20,.i (rZ.length:Int)]=some [.l (eS (dQ c) rZ)]:=by
   rw[k]; exact YN _ 20 20 (by omega) (by omega)
  refine aa.lT (aa.eq w) (by(first|rfl|assumption|(simp only[aF,sl]<;>omega))) ?_;rintro _ rfl;dsimp +instances only[go_sem];refine aa.loop (q _ h) (by(first|rfl|assumption|(simp only[aF,sl]<;>omega))) ?_;rintro _ _ rfl;exact aa.some rfl
 ·have d:tO K C [.l rZ,.i (rZ.length:Int),.i 20,.i 0,.i 20]=some (some 0,[.l rZ,.i (rZ.length:Int),.i 20,.i 0]):=by
   refine aa.toEq ?_;unfold tO;dsimp +instances only[go_sem];exact aa.n (aa.p (aa.some rfl))
  refine aa.loop (P:=fun x g=>g=_) ⟨1,0,_,.stop d,by omega,rfl⟩ (by(first|rfl|assumption|(simp only[aF,sl]<;>omega))) ?_;rintro _ _ rfl;dsimp +instances only[go_sem];refine aa.lT (aa.eq a) (by(first|rfl|assumption|(simp only[aF,sl]<;>omega))) ?_;rintro _ rfl;dsimp +instances only[go_sem];refine aa.loop (q _ h) (by(first|rfl|assumption|(simp only[aF,sl]<;>omega))) ?_;rintro _ _ rfl;exact aa.some rfl
theorem Ia(hC:rO K C Q c)(rZ:LL)(a:∀ y∈rZ,Q y)(b:rZ.length<=20):OE K C [.l rZ]=some [.l (eS (dQ c) rZ)]:=by
 refine aa.toEq ?_;unfold OE;dsimp +instances only[go_sem];refine aa.lT (aa.eq (YO hC rZ a b)) (by(first|rfl|assumption|(simp only[aF,sl]<;>omega))) ?_;rintro _ rfl;exact aa.some rfl
end
end Go.AL

namespace Go.AL
open Go
variable [Dr]
def wh(K:List Kd)(C:LG->Option LG)(Z:LG)(d:LG):Option (Option Nat × LG) :=
 (bif (aK (gi d 4).iV (((gi d 3).iV.toNat:Nat):Int)) then (bif ((cA (gi d 4).iV)&&(aK (gi d 4).iV (((gi d 3).iV.toNat:Nat):Int))) then (bif (decide (((gi d 2).iV.toNat+((gi d 4).iV).toNat)<(gi d 0).rZ.length)) then (bif (aF ((gi d 4).iV-1)) then (bif ((cA ((gi d 4).iV-1))&&(aK ((gi d 4).iV-1) (((gi d 3).iV.toNat:Nat):Int))) then (bif (decide (((gi d 2).iV.toNat+((gi d 4).iV-1).toNat)<(gi d 0).rZ.length)) then (aj (C [.l [(bF K ((gi d 0).rZ.getD ((gi d 2).iV.toNat+((gi d 4).iV).toNat) []))],.l [(bF K ((gi d 0).rZ.getD ((gi d 2).iV.toNat+((gi d 4).iV-1).toNat) []))]]) fun a=>(bif (!(gi a 0).bV) then (bif ((cA (gi d 4).iV)&&(aK (gi d 4).iV (((gi d 3).iV.toNat:Nat):Int))) then (bif (decide (((gi d 2).iV.toNat+((gi d 4).iV).toNat)<(gi d 0).rZ.length)) then (bif ((cA (gi d 1).iV)&&(aK (gi d 1).iV (((gi d 0).rZ.length:Nat):Int))) then (bif (decide ((0+((gi d 1).iV).toNat)<(gi d 0).rZ.length)) then (bif (aF ((gi d 1).iV+1)) then (bif (aF ((gi d 4).iV+1)) then (bif ((aH (gi d 0).rZ.length ((gi d 0).rZ.set (0+((gi d 1).iV).toNat) (fN K ((gi d 0).rZ.getD (0+((gi d 1).iV).toNat) []) 0 (bF K ((gi d 0).rZ.getD ((gi d 2).iV.toNat+((gi d 4).iV).toNat) [])))).length)&&true) then some (none,[.l ((gi d 0).rZ.set (0+((gi d 1).iV).toNat) (fN K ((gi d 0).rZ.getD (0+((gi d 1).iV).toNat) []) 0 (bF K ((gi d 0).rZ.getD ((gi d 2).iV.toNat+((gi d 4).iV).toNat) [])))),.i ((gi d 1).iV+1),.i (((gi d 2).iV.toNat:Nat):Int),.i (((gi d 3).iV.toNat:Nat):Int),.i ((gi d 4).iV+1)]) else none) else none) else none) else none) else none) else none) else none) else (bif (aF ((gi d 4).iV+1)) then (bif ((aH (gi d 0).rZ.length (gi d 0).rZ.length)&&true) then some (none,[.l (gi d 0).rZ,.i (gi d 1).iV,.i (((gi d 2).iV.toNat:Nat):Int),.i (((gi d 3).iV.toNat:Nat):Int),.i ((gi d 4).iV+1)]) else none) else none))) else none) else none) else none) else none) else none) else (bif ((aH (gi d 0).rZ.length (gi d 0).rZ.length)&&true) then some (some 0,[.l (gi d 0).rZ,.i (gi d 1).iV]) else none))
def tQ(K:List Kd)(C:LG->Option LG)(Z:LG)(d:LG):Option (Option Nat × LG) :=
 (bif (aK (gi d 1).iV (((gi d 0).rZ.length:Nat):Int)) then (bif ((cA (gi d 1).iV)&&(aK (gi d 1).iV (((gi d 0).rZ.length:Nat):Int))) then (bif (decide ((0+((gi d 1).iV).toNat)<(gi d 0).rZ.length)) then (bif (aF ((gi d 1).iV-1)) then (bif ((cA ((gi d 1).iV-1))&&(aK ((gi d 1).iV-1) (((gi d 0).rZ.length:Nat):Int))) then (bif (decide ((0+((gi d 1).iV-1).toNat)<(gi d 0).rZ.length)) then (aj (C [.l [(bF K ((gi d 0).rZ.getD (0+((gi d 1).iV).toNat) []))],.l [(bF K ((gi d 0).rZ.getD (0+((gi d 1).iV-1).toNat) []))]]) fun b=>(bif (gi b 0).bV then (bif ((cA (gi d 1).iV)&&(aR (gi d 1).iV (((gi d 0).rZ.length:Nat):Int))) then (bT ((aH (gi d 0).rZ.length (gi d 0).rZ.length)&&true) (cd (wh K C Z) [.l (gi d 0).rZ,.i (gi d 1).iV,.i (((0+((gi d 1).iV).toNat):Nat):Int),.i ((((gi d 0).rZ.length-((gi d 1).iV).toNat):Nat):Int),.i 1]) fun g a=>(bif ((cA (gi a 1).iV)&&(aR (gi a 1).iV (((gi a 0).rZ.length:Nat):Int))) then (bif (bf ((0+((gi a 1).iV).toNat)+((gi a 0).rZ.length-((gi a 1).iV).toNat)) (gi a 0).rZ.length) then (bif ((cA (gi a 1).iV)&&(aR (gi a 1).iV (((gi a 0).rZ.length:Nat):Int))) then some (some 0,[.l ((gi a 0).rZ.take (0+((gi a 1).iV).toNat)++dz ((gi a 0).rZ.length-((gi a 1).iV).toNat) Z++(gi a 0).rZ.drop ((0+((gi a 1).iV).toNat)+((gi a 0).rZ.length-((gi a 1).iV).toNat))),.i (((((gi a 1).iV).toNat-0):Nat):Int)]) else none) else none) else none)) else none) else (bif (aF ((gi d 1).iV+1)) then (bif ((aH (gi d 0).rZ.length (gi d 0).rZ.length)&&true) then some (none,[.l (gi d 0).rZ,.i ((gi d 1).iV+1)]) else none) else none))) else none) else none) else none) else none) else none) else (bif ((aH (gi d 0).rZ.length (gi d 0).rZ.length)&&true) then some (some 1,[.l (gi d 0).rZ]) else none))
def OK(K:List Kd)(C:LG->Option LG)(Z:LG)(d:LG):Option LG :=
 (bif (aK (((gi d 0).rZ.length:Nat):Int) 2) then some [.l (gi d 0).rZ,.i (((gi d 0).rZ.length:Nat):Int)] else (bT ((aH (gi d 0).rZ.length (gi d 0).rZ.length)&&true) (cd (tQ K C Z) [.l (gi d 0).rZ,.i 1]) fun b a=>(bif aH b 0 then some [.l (gi a 0).rZ,.i (((gi a 1).iV.toNat:Nat):Int)] else some [.l (gi a 0).rZ,.i (((gi a 0).rZ.length:Nat):Int)])))
def ew{α:Type}(e:α->α->Bool):α->List α->List α
 |_,[]=>[]
 |y,x::q=>bif e x y then ew e x q else x::ew e x q
def kD{α:Type}(e:α->α->Bool):List α->List α
 | []=>[]
 |x::q=>x::ew e x q
def OL{α:Type}(e:α->α->Bool):∀(q:List α) (y:α),(ew e y q).length<=q.length
 | [],_=>aY _
 | x::q,y=>by
  have:=OL e q x;simp only[ew];cases e x y with
  |true=>simp; omega
  |false=>simp; omega
def Ib{α:Type}{e:α->α->Bool}:∀{q:List α} {y z:α},z∈ew e y q->z∈q
 | x::q,y,z,h=>by
  simp only[ew]at h;cases he:e x y with
  |true=>rw[he]at h; exact c8 _ (Ib h)
  | false =>
   rw[he]at h;rcases cf.1 h with rfl|h
   ·exact cZ
   ·exact c8 _ (Ib h)
def YP{α:Type}{e:α->α->Bool}:∀{l:List α} {z:α},z∈kD e l->z∈l
 | x::q,z,h=>by
  rcases cf.1 h with rfl|h
  ·exact cZ
  ·exact c8 _ (Ib h)
def YQ{α:Type}(e:α->α->Bool):∀ l:List α,(kD e l).length<=l.length
 | []=>aY _
 |x::q=>by have:=OL e q x; simp[kD]; omega
section
variable {K:List Kd} {Z:LG} {Q:LG->Prop}
structure Ic (K:List Kd) (Q:LG->Prop):Prop where
 eta:∀ r,Q r->bF K r=r
structure Db (K:List Kd) (C:LG->Option LG) (Q:LG->Prop) (e:LG->LG->Bool):Prop where
 cmp:∀ r s,Q r->Q s->C [.l [r],.l [s]]=some [.t (e r s)]
 eta:∀ r,Q r->bF K r=r
variable {C:LG->Option LG} {ee:LG->LG->Bool}
theorem Ie(hC:Db K C Q ee):∀(q kept M:LL) (y:LG) (lo len b:Nat),(∀ z∈kept++M++y::q,Q z)->lo+b=kept.length+M.length+1->b+q.length=len->kept.length+M.length+q.length<100000->1<=b ->
  ∃ m J,m<=q.length+1/\(kept++ew ee y q++J).length=kept.length+M.length+1+q.length/\j9 (wh K C Z) m [.l (kept++M++y::q),.i (kept.length:Int),.i (lo:Int),.i (len:Int),.i (b:Int)] 0 [.l (kept++ew ee y q++J),.i ((kept++ew ee y q).length:Int)]
 | [],kept,M,y,lo,len,b,d,Y,A,B,h4=>by
  refine⟨1,M++[y],by simp,by simp[ew]; omega,.stop (aa.toEq ?_)⟩;simp only[kf]at A B;unfold wh;dsimp +instances only[go_sem];(repeat first|refine aa.p ?_|refine aa.n ?_);refine aa.some ?_;simp[ew]
 | x::q,kept,M,y,lo,len,b,d,Y,A,B,h4=>by
  simp only[bW]at A B;have g:Q x:=d x (by simp);have t:Q y:=d y (by simp);have V:(kept++M++y::x::q).getD ((lo:Int).toNat+(b:Int).toNat) []=x:=by
   have e:kept++M++y::x::q=(kept++M++[y])++x::q:=by simp
   rw[e]; exact lg _ _ _ _ _ (by simp<;>omega)
  have W:(kept++M++y::x::q).getD ((lo:Int).toNat+((b:Int)-1).toNat) []=y:=lg _ _ _ _ _ (by simp; omega);have U:(kept++M++y::x::q).length=kept.length+M.length+q.length+2:=by simp; omega
  cases he:ee x y with
  | true =>
   obtain⟨m,J,hm,F,I⟩:=Ie hC q kept (M++[y]) x lo len (b+1) (by simpa using d) (by simp; omega) (by omega) (by simp; omega) (by omega);have e:ew ee y (x::q)=ew ee x q:=by simp[ew,he]
   refine⟨m+1,J,by simp; omega,by rw[e,F]; simp; omega,.next (aa.toEq ?_) (by rw[e]; exact I)⟩;unfold wh;dsimp +instances only[go_sem];simp only[U,V,W,hC.eta x g,hC.eta y t];(repeat first|refine aa.p ?_|refine aa.n ?_);refine aa.cE (hC.cmp x y g t) ?_;dsimp +instances only[go_sem]
   try simp only[he]
   (repeat first|refine aa.p ?_|refine aa.n ?_);refine aa.some ?_;simp
  | false =>
   obtain⟨w,k,N,O⟩:∃ w k,(kept++M++y::x::q).set kept.length x=w++k++x::q/\(w=kept++[x]/\k.length=M.length/\∀ z∈k,z∈M++[y]):=by
    cases M with
    |nil=>exact⟨kept++[x],[],by simp,rfl,rfl,by simp⟩
    |cons z M=>exact⟨kept++[x],M++[y],by simp,rfl,by simp,by simp; intro z a; rcases a with a|a<;>simp[a]⟩
   obtain⟨O,v,e4⟩:=O;subst O;obtain⟨m,J,hm,F,I⟩:=Ie hC q (kept++[x]) k x lo len (b+1) (by
    intro z a;simp only[cN,cf]at a;rcases a with((a|a)|a)|a|a
    ·exact d z (by simp[a])
    ·simp at a; exact a▸g
    ·have := e4 z a
     simp only[cN,cf]at this;rcases this with h|h|h
     ·exact d z (by simp[h])
     ·exact h▸t
     ·simp at h
    ·exact a▸g
    ·exact d z (by simp[a])) (by simp[v]; omega) (by omega) (by simp[v]; omega) (by omega)
   have e:kept++ew ee y (x::q)=(kept++[x])++ew ee x q:=by simp[ew,he]
   refine⟨m+1,J,by simp; omega,by rw[e,F]; simp[v]; omega,.next (aa.toEq ?_) (by rw[e]; exact I)⟩;have kx:x.length=K.length:=by rw[<-hC.eta x g,Da]
   have X:((kept++[x])++k++x::q).length=kept.length+M.length+q.length+2:=by simp[v]; omega
   have N:(kept++M++y::x::q).set (0+(kept.length:Int).toNat) x=(kept++[x])++k++x::q:=by simpa using N
   unfold wh;dsimp +instances only[go_sem];simp only[U,V,W,hC.eta x g,hC.eta y t,H_ kx,N,X];(repeat first|refine aa.p ?_|refine aa.n ?_);refine aa.cE (hC.cmp x y g t) ?_;dsimp +instances only[go_sem]
   try simp only[he]
   (repeat first|refine aa.p ?_|refine aa.n ?_);refine aa.some ?_;simp
theorem OM(hC:Db K C Q ee):∀(q p:LL) (y:LG),(∀ z∈p++y::q,Q z)->p.length+q.length<99999 ->
  (∃ m,m<=q.length+1/\ew ee y q=q/\j9 (tQ K C Z) m [.l (p++y::q),.i ((p.length:Int)+1)] 1 [.l (p++y::q)]) \/
  ∃ m J,m<=q.length+1/\(p++y::ew ee y q++J).length=p.length+1+q.length/\j9 (tQ K C Z) m [.l (p++y::q),.i ((p.length:Int)+1)] 0 [.l (p++y::ew ee y q++J),.i ((p++y::ew ee y q).length:Int)]
 | [],p,y,b,t=>by
  refine .inl ⟨1,by simp,rfl,.stop (aa.toEq ?_)⟩;simp only[kf]at t;unfold tQ;dsimp +instances only[go_sem];(repeat first|refine aa.p ?_|refine aa.n ?_);exact aa.some rfl
 | x::q,p,y,b,t=>by
  simp only[bW]at t;have d:Q x:=b x (by simp);have h:Q y:=b y (by simp);have B:(p++y::x::q).getD (0+((p.length:Int)+1).toNat) []=x:=by
   have e:p++y::x::q=(p++[y])++x::q:=by simp
   rw[e]; exact lg _ _ _ _ _ (by simp<;>omega)
  have F:(p++y::x::q).getD (0+((p.length:Int)+1-1).toNat) []=y:=lg _ _ _ _ _ (by simp<;>omega);have A:(p++y::x::q).length=p.length+q.length+2:=by simp; omega
  cases he:ee x y with
  | true =>
   obtain⟨m,J,hm,v,a⟩:=Ie hC q (p++[y]) [] x (p.length+1) (q.length+1) 1 (by simpa using b) (by simp) (by omega) (by simp; omega) (by omega);have e:p++y::ew ee y (x::q)=(p++[y])++ew ee x q:=by simp[ew,he]
   have k:(((p++[y])++ew ee x q)++J).length=p.length+q.length+2:=by rw[v]; simp; omega
   have M:((p++[y])++ew ee x q).length<=p.length+q.length+2:=by rw[<-k]; simp
   have N:j9 (wh K C Z) m [.l (p++y::x::q),.i ((p.length:Int)+1),.i ((0+((p.length:Int)+1).toNat:Nat):Int),.i ((p.length+q.length+2-((p.length:Int)+1).toNat:Nat):Int),.i 1] 0 [.l ((p++[y])++ew ee x q++J),.i (((p++[y])++ew ee x q).length:Int)]:=by
    have O:(((p++[y]).length:Nat):Int)=(p.length:Int)+1:=by simp
    have U:((p.length+1:Nat):Int)=((0+((p.length:Int)+1).toNat:Nat):Int):=by omega
    have V:((q.length+1:Nat):Int)=((p.length+q.length+2-((p.length:Int)+1).toNat:Nat):Int):=by omega
    rw[O,U,V]at a;simpa using a
   refine .inr ⟨1,dz (p.length+q.length+2-((p++[y])++ew ee x q).length) Z,by simp,by rw[e,dG,S']; simp at M|-; omega,.stop (aa.toEq ?_)⟩;rw[e];generalize X:(p++[y])++ew ee x q=w at *;unfold tQ;dsimp +instances only[go_sem];simp only[A,B,F,hC.eta x d,hC.eta y h];(repeat first|refine aa.p ?_|refine aa.n ?_);refine aa.cE (hC.cmp x y d h) ?_;dsimp +instances only[go_sem]
   try simp only[he]
   (repeat first|refine aa.p ?_|refine aa.n ?_);refine aa.loop (P:=fun x g=>g=_) ⟨m,0,_,N,by omega,rfl⟩ (by(first|rfl|assumption|(simp only[aF,sl]<;>omega))) ?_;rintro _ _ rfl;dsimp +instances only[go_sem];simp only[k];(repeat first|refine aa.p ?_|refine aa.n ?_);refine aa.some ?_;have t1:List.take (0+(w.length:Int).toNat) (w++J)=w:=by simp
   have t2:List.drop (0+(w.length:Int).toNat+(p.length+q.length+2-(w.length:Int).toNat)) (w++J)=[]:=by
    apply EZ; rw[k]; omega
   rw[t1,t2];simp
  | false =>
   have e:ew ee y (x::q)=x::ew ee x q:=by simp[ew,he]
   have key:tQ K C Z [.l (p++y::x::q),.i ((p.length:Int)+1)]=some (none,[.l ((p++[y])++x::q),.i ((((p++[y]).length:Nat):Int)+1)]):=by
    refine aa.toEq ?_;unfold tQ;dsimp +instances only[go_sem];simp only[A,B,F,hC.eta x d,hC.eta y h];(repeat first|refine aa.p ?_|refine aa.n ?_);refine aa.cE (hC.cmp x y d h) ?_;dsimp +instances only[go_sem]
    try simp only[he]
    (repeat first|refine aa.p ?_|refine aa.n ?_);refine aa.some ?_;simp
   rcases OM hC q (p++[y]) x (by simpa using b) (by simp; omega)with⟨m,hm,W,a⟩|⟨m,J,hm,v,a⟩
   ·refine .inl ⟨m + 1, by simp; omega, by rw [e, W], .next key ?_⟩
    have:p++y::x::q=(p++[y])++x::q:=by simp
    rw[this]; exact a
   ·have I : p ++ y :: ew ee y (x :: q) = (p ++ [y]) ++ x :: ew ee x q := by rw [e]; simp
    refine .inr ⟨m+1,J,by simp; omega,by rw[I,v]; simp; omega,.next key ?_⟩;rw[I]; exact a
theorem YR(hC:Db K C Q ee)(rZ:LL)(a:∀ y∈rZ,Q y)(b:rZ.length<99999):aa (OK K C Z [.l rZ]) fun g=>∃ J,g=[.l (kD ee rZ++J),.i ((kD ee rZ).length:Int)]/\(kD ee rZ++J).length=rZ.length:=by
 unfold OK;dsimp +instances only[go_sem]
 match rZ,a,b with
 | [],_,_=>exact aa.p (aa.some ⟨[],rfl,rfl⟩)
 | [x],_,_=>exact aa.p (aa.some ⟨[],rfl,rfl⟩)
 | y::x::q,a,b =>
  simp only[bW]at b;refine aa.n ?_;rcases OM hC (x::q) [] y (by simpa using a) (by simp; omega)with⟨m,hm,d,a⟩|⟨m,J,hm,h,a⟩
  ·refine aa.loop (P := fun x g => x = 1 /\ g = _) ⟨m, 1, _, a, by simp at hm; omega, rfl, rfl⟩ (by (first|rfl|assumption|(simp only [aF,sl]<;>omega))) ?_
   rintro _ _ ⟨rfl,rfl⟩;refine aa.n (aa.some ⟨[],?_,?_⟩)
   ·(dsimp +instances only [go_sem])
    simp[kD,d]
   ·simp[kD,d]
  ·refine aa.loop (P := fun x g => x = 0 /\ g = _) ⟨m, 0, _, a, by simp at hm; omega, rfl, rfl⟩ (by (first|rfl|assumption|(simp only [aF,sl]<;>omega))) ?_
   rintro _ _ ⟨rfl,rfl⟩;refine aa.p (aa.some ⟨J,?_,?_⟩)
   ·(dsimp +instances only [go_sem])
    simp[kD]
   ·simpa[kD,Nat.add_comm]using h
end
end Go.AL

namespace Go.AL
open Go
variable [Dr]
def zg(K:List Kd)(d:LG):Option (Option Nat × LG) :=
 (bif (aK (gi d 3).iV (gi d 2).iV) then (bif ((cA (gi d 3).iV)&&(aK (gi d 3).iV (((gi d 0).rZ.length:Nat):Int))) then (bif ((cA (gi d 3).iV)&&(aK (gi d 3).iV (((gi d 1).rZ.length:Nat):Int))) then (bif (!(kz K (bF K ((gi d 0).rZ.getD (((gi d 3).iV).toNat) [])) (bF K ((gi d 1).rZ.getD (((gi d 3).iV).toNat) [])))) then some (some 0,[.t false]) else (bif (aF ((gi d 3).iV+1)) then some (none,[.l (gi d 0).rZ,.l (gi d 1).rZ,.i (gi d 2).iV,.i ((gi d 3).iV+1)]) else none)) else none) else none) else some (some 1,[]))
def ON(K:List Kd)(d:LG):Option LG :=
 (bif ((((gi d 0).rZ.length:Nat):Int) != (((gi d 1).rZ.length:Nat):Int)) then some [.t false] else (bT true (cd (zg K) [.l (gi d 0).rZ,.l (gi d 1).rZ,.i (((gi d 0).rZ.length:Nat):Int),.i 0]) fun a b=>(bif aH a 0 then some [.t (gi b 0).bV] else some [.t true])))
def zh(K:List Kd)(C:LG->Option LG)(Z:LG)(cp:G->G)(d:LG):Option (Option Nat × LG) :=
 (bif (aK (gi d 3).iV (gi d 2).iV) then (bif ((cA (gi d 3).iV)&&(aK (gi d 3).iV (((gi d 0).rZ.length:Nat):Int))) then (aj (C [.l [(bF K ((gi d 0).rZ.getD (((gi d 3).iV).toNat) []))],cp (gi d 1)]) fun a=>(bif (gi a 0).bV then some (some 0,[.i (gi d 3).iV]) else (bif (aF ((gi d 3).iV+1)) then some (none,[.l (gi d 0).rZ,cp (gi d 1),.i (gi d 2).iV,.i ((gi d 3).iV+1)]) else none))) else none) else some (some 1,[]))
def OO(K:List Kd)(C:LG->Option LG)(Z:LG)(cp:G->G)(d:LG):Option LG :=
 (bT true (cd (zh K C Z cp) [.l (gi d 0).rZ,cp (gi d 1),.i (((gi d 0).rZ.length:Nat):Int),.i 0]) fun a b=>(bif aH a 0 then some [.i (gi b 0).iV] else some [.i (-1)]))
section
variable {K:List Kd} {Q:LG->Prop}
def mN(K:List Kd):LL->LL->Bool
 | [],[]=>true
 |x::a,y::b=>kz K x y&&mN K a b
 |_,_=>false
theorem OP:∀(K:List Kd) (x:LG),(K.all fun k=>match k with | .list _=>false|_=>true)=true->kz K x x=true
 | [],_,_=>rfl
 | k::K,x,h=>by
  simp only[jA,aE]at h;simp only[kz,OP K _ h.2,gu];cases k<;>simp only[L5,beq_self_eq_true]
  simp at h
theorem OQ{K:List Kd}(h:(K.all fun k=>match k with | .list _=>false|_=>true)=true):∀ a,mN K a a=true
 | []=>rfl
 |x::a=>by simp[mN,OP K x h,OQ h a]
theorem OR{K:List Kd}:∀{a b:LL},a.length≠b.length->mN K a b=false
 | [],[],h=>(h rfl).elim
 | [],_::_,_=>rfl
 |_::_,[],_=>rfl
 |x::a,y::b,h=>by simp only[mN,OR (a:=a) (b:=b) (by simpa using h),Bool.and_false]
theorem OS(hC:Ic K Q):∀(q r p s:LL),(∀ z∈q,Q z)->(∀ z∈r,Q z)->p.length=s.length->q.length=r.length->p.length+q.length<100000 ->
  bl (zg K) [.l (p++q),.l (s++r),.i ((p.length+q.length:Nat):Int),.i (p.length:Int)] (q.length+1) fun c g=>(c=0/\g=[.t false]/\mN K q r=false)\/c=1/\mN K q r=true
 | [],[],p,s,a,b,d,A,B=>by
  refine bl.stop (x:=1) (d':=[]) (aa.toEq ?_) (.inr ⟨rfl,rfl⟩);unfold zg;dsimp +instances only[go_sem];(repeat first|refine aa.p ?_|refine aa.n ?_);exact aa.some rfl
 | [],_::_,_,_,_,_,_,h,_=>by simp at h
 |_::_,[],_,_,_,_,_,h,_=>by simp at h
 | x::q,y::r,p,s,a,b,d,A,B=>by
  simp only[bW]at B A;have F:=a x (by simp);have I:=b y (by simp);have J:(p++x::q).getD (p.length:Int).toNat []=x:=lg _ _ _ _ _ (by simp);have M:(s++y::r).getD (p.length:Int).toNat []=y:=lg _ _ _ _ _ (by simp[d]);have w:(p++x::q).length=p.length+q.length+1:=by simp; omega
  have v:(s++y::r).length=p.length+q.length+1:=by simp; omega
  cases he:kz K x y with
  | false =>
   refine bl.stop (x:=0) (d':=[.t false]) (aa.toEq ?_) (.inl ⟨rfl,rfl,by simp[mN,he]⟩);unfold zg;dsimp +instances only[go_sem];simp only[J,M,w,v,bW,hC.eta y I,hC.eta x F];(repeat first|refine aa.p ?_|refine aa.n ?_)
   try simp only[he]
   (repeat first|refine aa.p ?_|refine aa.n ?_);exact aa.some rfl
  | true =>
   have N:=OS hC q r (p++[x]) (s++[y]) (fun z k=>a z (c8 _ k)) (fun z k=>b z (c8 _ k)) (by simp[d]) (by omega) (by simp; omega);have O:mN K (x::q) (y::r)=mN K q r:=by simp[mN,he]
   rw[O];refine bl.next (aa.toEq ?_) N
   unfold zg;dsimp +instances only[go_sem];simp only[J,M,w,v,bW,hC.eta y I,hC.eta x F];(repeat first|refine aa.p ?_|refine aa.n ?_)
   try simp only[he]
   (repeat first|refine aa.p ?_|refine aa.n ?_);refine aa.some ?_;simp;omega
theorem YS(hC:Ic K Q)(a b:LL)(k:∀ y∈a,Q y)(q:∀ y∈b,Q y)(v:a.length<100000):ON K [.l a,.l b]=some [.t (mN K a b)]:=by
 refine aa.toEq ?_;unfold ON;dsimp +instances only[go_sem];by_cases d:a.length=b.length
 ·(repeat first|refine aa.p ?_|refine aa.n ?_)
  have h:=OS hC a b [] [] k q rfl d (by simpa using v);have w:((0:Nat):Int)=0:=rfl;simp only[nm,kf,eo,w]at h;refine aa.loop (h.to (by omega)) (by(first|rfl|assumption|(simp only[aF,sl]<;>omega))) ?_;rintro c g (⟨rfl,rfl,h⟩|⟨rfl,h⟩)
  ·(dsimp +instances only [go_sem])
   (repeat first|refine aa.p ?_|refine aa.n ?_);exact aa.some (by rw[h])
  ·(repeat first|refine aa.p ?_|refine aa.n ?_)
   exact aa.some (by rw[h])
 ·(repeat first|refine aa.p ?_|refine aa.n ?_)
  exact aa.some (by rw[OR d])
end
end Go.AL

namespace Go.AL
open Go
variable [Dr]
section
variable {K:List Kd} {Z:LG} {Q:LG->Prop} {C:LG->Option LG} {cp:G->G} {cap:G} {p:LG->Bool}
structure wk (K:List Kd) (C:LG->Option LG) (cp:G->G) (cap:G) (Q:LG->Prop) (p:LG->Bool):Prop where
 cmp:∀ r,Q r->C [.l [r],cap]=some [.t (p r)]
 eta:∀ r,Q r->bF K r=r
 fix:cp cap=cap
theorem OT(hC:wk K C cp cap Q p):∀(q w:LL),(∀ z∈q,Q z)->w.length+q.length<100000 ->
  bl (zh K C Z cp) [.l (w++q),cap,.i ((w.length+q.length:Nat):Int),.i (w.length:Int)] (q.length+1) fun c g=>(c=0/\∃ b x k,q=b++x::k/\(∀ y∈b,p y=false)/\p x=true/\g=[.i ((w.length+b.length:Nat):Int)])\/c=1/\∀ y∈q,p y=false
 | [],w,t,A=>by
  refine bl.stop (x:=1) (d':=[]) (aa.toEq ?_) (.inr ⟨rfl,by simp⟩);unfold zh;dsimp +instances only[go_sem];(repeat first|refine aa.p ?_|refine aa.n ?_);exact aa.some rfl
 | y::q,w,t,A=>by
  simp only[bW]at A;have d:Q y:=t y (by simp);have B:(w++y::q).getD (w.length:Int).toNat []=y:=lg _ _ _ _ _ (by simp);have v:(w++y::q).length=w.length+q.length+1:=by simp; omega
  cases he:p y with
  | true =>
   refine bl.stop (x:=0) (d':=[.i (w.length:Int)]) (aa.toEq ?_) (.inl ⟨rfl,[],y,q,rfl,by simp,he,by simp⟩);unfold zh;dsimp +instances only[go_sem];simp only[B,v,bW,hC.eta y d,hC.fix];(repeat first|refine aa.p ?_|refine aa.n ?_);refine aa.cE (hC.cmp y d) ?_;dsimp +instances only[go_sem];simp only[he];(repeat first|refine aa.p ?_|refine aa.n ?_);exact aa.some rfl
  | false =>
   have F:=OT hC q (w++[y]) (fun z a=>t z (c8 _ a)) (by simp; omega);refine bl.next (aa.toEq ?_) (F.mono ?_)
   ·unfold zh
    dsimp +instances only[go_sem];simp only[B,v,bW,hC.eta y d,hC.fix];(repeat first|refine aa.p ?_|refine aa.n ?_);refine aa.cE (hC.cmp y d) ?_;dsimp +instances only[go_sem];simp only[he];(repeat first|refine aa.p ?_|refine aa.n ?_);refine aa.some ?_;simp;omega
   ·rintro c g (⟨rfl, b, x, k, I, J, M, N⟩ | ⟨rfl, h⟩)
    ·refine .inl ⟨rfl, y :: b, x, k, by simp [I], ?_, M, ?_⟩
     ·intro z a
      rcases cf.1 a with rfl|a
      ·exact he
      ·exact J z a
     ·rw[N]; simp; omega
    ·refine .inr ⟨rfl, ?_⟩
     intro z a;rcases cf.1 a with rfl|a
     ·exact he
     ·exact h z a
theorem zi(hC:wk K C cp cap Q p)(rZ:LL)(d:∀ y∈rZ,Q y)(k:rZ.length<100000) :
  aa (OO K C Z cp [.l rZ,cap]) fun g=>(∃ a x b,rZ=a++x::b/\(∀ y∈a,p y=false)/\p x=true/\g=[.i (a.length:Int)])\/(∀ y∈rZ,p y=false)/\g=[.i (-1)]:=by
 unfold OO;dsimp +instances only[go_sem];simp only[hC.fix];have h:=OT (Z:=Z) hC rZ [] d (by simpa using k);have q:((0:Nat):Int)=0:=rfl;simp only[nm,kf,eo,q]at h;refine aa.loop (h.to (by omega)) (by(first|rfl|assumption|(simp only[aF,sl]<;>omega))) ?_;rintro c g (⟨rfl,a,x,b,t,v,w,rfl⟩|⟨rfl,h⟩)
 ·(dsimp +instances only [go_sem])
  (repeat first|refine aa.p ?_|refine aa.n ?_);exact aa.some (.inl ⟨a,x,b,t,v,w,rfl⟩)
 ·(repeat first|refine aa.p ?_|refine aa.n ?_)
  exact aa.some (.inr ⟨h,rfl⟩)
end
section
variable {K:List Kd} {Z:LG}
def parts(ps:List LL):LL:=ps.map fun p=>[.l p]
end
end Go.AL

namespace Go.AL
open Go
variable [Dr]
section sort
variable {α:Type} {lt:α->α->Bool}
structure la (lt:α->α->Bool) (Q:α->Prop):Prop where
 tr:∀ a b c,Q a->Q b->Q c->lt a b=false->lt b c=false->lt a c=false
 YT:∀ a b,Q a->Q b->lt a b=true->lt b a=false
variable {Q:α->Prop}
end sort
end Go.AL

namespace Go.AL
open Go
variable [Dr]
section
variable {α:Type} (f:α->Int)
end
section
variable {α:Type} {e:α->α->Bool}
end
end Go.AL

namespace Go.AL
open Go
variable [Dr]
section
variable {K:List Kd} {C:LG->Option LG} {Q:LG->Prop} {c:LG->LG->Int}
end
end Go.AL

namespace Go.AL
open Go
variable [Dr]
section
variable {C:LG->Option LG} {Q:LG->Prop} {c:LG->LG->Int}
theorem la.mono{α:Type}{lt:α->α->Bool}{Q t:α->Prop}(h:la lt Q)(g:∀ a,t a->Q a):la lt t :=
 ⟨fun a b d k q v=>h.tr a b d (g a k) (g b q) (g d v),fun a b k q=>h.YT a b (g a k) (g b q)⟩
end
end Go.AL

namespace Go.AL
open Go
variable [Dr]
noncomputable abbrev zk(r:LG):Int:=(gi r 0).iV
noncomputable abbrev tR(r:LG):Int:=(gi r 1).iV
def YU(r:LG):Prop:=r=[.i (zk r),.i (tR r)]/\zk r<tR r
def OU(l:LL)(n:Int):Prop:=∃ r∈l,zk r<=n/\n<tR r
def YV(l:LL):Prop:=(∀ r∈l,YU r)/\l.Pairwise fun r s=>tR r<zk s
structure akN (out:LL) (a b:Int) (os:LL) (ps:LL) (f:Int):Prop where
 low:a<=f
 at_:f=a\/∃ o∈os,f=tR o
 bu:∀ o∈os,tR o<=f\/b<=zk o
 mem:∀ n,OU ps n↔a<=n/\n<f/\n<b/\¬ OU os n
 can:YV (out++ps)
 gap:∀ s∈out++ps,tR s<f
 many:ps.length<=os.length
end Go.AL

namespace Go.AL
open Go
variable [Dr]
def jK(x y:List UInt8)(r:List (List UInt8))(a:List UInt8):eD (x::y::r) a=x++(a++eD (y::r) a):=by
 rw[akh,akh];simp[Lib.joinTail]
def zl{c:UInt8}:∀{l:List UInt8},c∉l->eN l c = -1
 | [],_=>rfl
 | b::l,h=>by
  have a:¬ b=c:=fun e=>h (e▸cZ);have d:=zl fun g=>h (c8 b g);unfold eN;rw[iN (by simpa using a),iP (by rw[d]; rfl)]
def zm{c:UInt8}(r:List UInt8):∀{p:List UInt8},c∉p->eN (p++c::r) c=p.length
 | [],_=>by
  show eN (c::r) c=_
  unfold eN;rw[iP (by simp)];rfl
 | b::p,h=>by
  have a:¬ b=c:=fun e=>h (e▸cZ);have d:=zm r (p:=p) fun g=>h (c8 b g);show eN (b::(p++c::r)) c=_
  unfold eN;rw[iN (by simpa using a),d,iN (by simp)];simp
def OV(c:UInt8):∀(b:List (List UInt8)) (x:List UInt8),(∀ y∈x::b,c∉y)->Lib.splitK [c] 0 b.length (eD (x::b) [c])=x::b
 | [],x,_=>by
  rw[kN];rfl
 | y::a,x,h=>by
  have d:=h x cZ;have g:=OV c a y fun z k=>h z (c8 x k);rw[jK,bW];have hi:Lib.index (x++([c]++eD (y::a) [c])) [c]=x.length:=by rw[Lib.index_one]; exact zm _ d
  unfold Lib.splitK;rw[hi,iN (by simp)];have q:(x++([c]++eD (y::a) [c])).take ((x.length:Int).toNat+0)=x:=by simp
  have t:(x++([c]++eD (y::a) [c])).drop ((x.length:Int).toNat+[c].length)=eD (y::a) [c]:=by
   rw[<-List.append_assoc];simp
  rw[q,t,g]
def OW(c:UInt8):∀(a:List (List UInt8)) (x:List UInt8),(∀ y∈x::a,c∉y)->(eD (x::a) [c]).count c=a.length
 | [],x,h=>by
  rw[kN];exact A9.2 (h x cZ)
 | y::b,x,h=>by
  have d:=h x cZ;have g:=OW c b y fun z k=>h z (c8 x k);rw[jK,A_,A_,g,A9.2 d];simp;omega
def OX(b:BY):(⟨b.data.toList.toArray⟩:BY)=b:=by cases b; simp
def YW{s:BY}{c:UInt8}{x:List UInt8}{a:List (List UInt8)}(d:s.data.toList=eD (x::a) [c])(h:∀ y∈x::a,c∉y) :
  H6 s ⟨#[c]⟩=(x::a).map fun y=>[G.s ⟨y.toArray⟩]:=by
 have g:Lib.countB s ⟨#[c]⟩=a.length:=by
  show Lib.count s.data.toList [c]=_
  rw[Lib.count_one,d,OW c a x h]
 have k:(Lib.splitB ⟨#[c]⟩ 0 a.length s).map (·.data.toList)=x::a:=by
  rw[Lib.splitB_data,d];exact OV c a x h
 unfold H6;rw[g,<-k,List.map_map];refine List.map_congr_left fun b _=>?_;simp[OX]
def If{p:Nat->Prop}(dI0:∀ u,u<10->p u)(dI1:∀ u,10<=u->p (u / 10)->p u)(u:Nat):p u:=by
 induction u using Nat.strongRecOn with
 | _ u a =>
  by_cases h:u<10
  ·exact dI0 u h
  ·exact dI1 u (by omega) (a (u / 10) (by omega))
def lh{u:Nat}(h:u<10):jg u=[jB (48+u)]:=by rw[jg,dif_pos h]
def nW{u:Nat}(h:10<=u):jg u=jg (u / 10)++[jB (48+u%10)]:=by rw[jg,dif_neg (by omega)]
def nX{k:Nat}(h:k<10):(jB (48+k)).toNat=48+k:=by
 rw[UInt8.toNat_ofNat'];omega
def OY(u:Nat):∀ b∈jg u,48<=b.toNat/\b.toNat<=57:=by
 induction u using If with
 | dI0 u h =>
  intro b a;rw[lh h,gH]at a;rw[a,nX h];omega
 | dI1 u h d =>
  intro b a;rw[nW h,cN,gH]at a;rcases a with a|a
  ·exact d b a
  ·rw [a, nX (Nat.mod_lt u (by omega))]
   omega
def OZ(u:Nat):jg u≠[]:=by
 induction u using If with
 |dI0 u h=>rw[lh h]; simp
 |dI1 u h a=>rw[nW h]; simp
def O0(u:Nat):(jg u).head? = some 48->u=0:=by
 induction u using If with
 | dI0 u h =>
  intro e;rw[lh h]at e;simp only[List.head?_cons,a_]at e;have:=congrArg UInt8.toNat e;rw[nX h]at this;simp at this;exact this
 | dI1 u h a =>
  intro e;rw[nW h,List.head?_append]at e;cases d:jg (u / 10)with
  |nil=>exact(OZ _ d).elim
  | cons b r =>
   rw[d]at e a;have:=a (by simpa using e);omega
def O1:∀(k u:Nat),u<10 ^ (k+1)->(jg u).length<=k+1
 |0,u,h=>by rw[lh (by simpa using h)]; simp
 | k+1,u,h=>by
  by_cases a:u<10
  ·rw[lh a]; simp
  ·have := O1 k (u / 10) (by rw [Nat.div_lt_iff_lt_mul (by omega)]; rw [akj] at h; exact h)
   rw[nW (by omega)];simp;omega
def O2{α:Type}{p:α->Bool}:∀{l:List α},(∀ b∈l,p b=true)->l.dropWhile p=[]
 | [],_=>rfl
 | b::l,h=>by
  rw[List.dropWhile_cons,iP (h b cZ)];exact O2 fun x a=>h x (c8 b a)
def YX{l a:List UInt8}(h:∀ b∈l,a.contains b=true):pE l a=[]:=by
 unfold pE Lib.trimRightS;rw[O2 fun b d=>h b (List.mem_reverse.1 d)];rfl
def iq(l:List UInt8):Prop:=l≠[]/\∀ b∈l,b≠32/\b≠10
def iq.nb{l:List UInt8}(h:iq l):(32:UInt8)∉l:=fun hm=>(h.2 _ hm).1 rfl
def iq.nl{l:List UInt8}(h:iq l):(10:UInt8)∉l:=fun hm=>(h.2 _ hm).2 rfl
def O3{b:UInt8}{d:List UInt8}:∀{g:List (List UInt8)},b∈eD g d->(∃ x∈g,b∈x)\/b∈d
 | [],h=>by simp[eD]at h
 | [x],h=>by
  rw[kN]at h;exact .inl ⟨x,cZ,h⟩
 | x::y::r,h=>by
  rw[jK,cN,cN]at h;rcases h with h|h|h
  ·exact .inl ⟨x,cZ,h⟩
  ·exact .inr h
  ·rcases O3 h with ⟨z, k, a⟩ | a
   ·exact .inl ⟨z,c8 x k,a⟩
   ·exact .inr a
def Ig(n:Int):iq (f_ n):=by
 unfold f_;have key:∀ u:Nat,∀ b∈jg u,b≠32/\b≠10:=fun u b a=>by
  have:=OY u b a;constructor<;>(intro e; rw[e]at this; simp at this)
 split
 ·refine ⟨by simp, fun b a => ?_⟩
  rcases cf.1 a with rfl|a
  ·decide
  ·exact key _ b a
 ·exact⟨OZ _,key _⟩
def bQ(a:List (List UInt8)):List UInt8:=eD a [32]++[10]
def dy (a:List (List (List UInt8))):List UInt8:=(a.map bQ).flatten
def O4{b:List (List UInt8)}(h:∀ w∈b,iq w):(10:UInt8)∉eD b [32]:=fun hm=>by
 rcases O3 hm with⟨w,d,a⟩|a
 ·exact(h w d).nl a
 ·simp at a
def O5 (a:List (List (List UInt8))) (b:List (List UInt8)):dy (a++[b])=dy a++bQ b:=by
 simp[dy]
end Go.AL

namespace Go.AL
open Go
variable [Dr]
def bB(c:UInt8):List UInt8->List (List UInt8)
 | []=>[[]]
 | b::l=>if b=c then []::bB c l else match bB c l with
  |p::ps=>(b::p)::ps
  | []=>[[b]]
def wm(c:UInt8)(l:List UInt8):bB c l≠[]:=by
 cases l with
 |nil=>simp[bB]
 | cons b l =>
  unfold bB;split
  ·simp
  ·split<;>simp
def wo(c:UInt8):∀ l:List UInt8,eD (bB c l) [c]=l
 | []=>by simp[bB,kN]
 | b::l=>by
  have a:=wo c l;unfold bB;split
  ·rename_i g
   cases d:bB c l with
   |nil=>exact(wm c l d).elim
   | cons p ps =>
    rw[jK,<-d,a,g];simp
  ·cases d : bB c l with
   |nil=>exact(wm c l d).elim
   | cons p ps =>
    rw[d]at a;simp only;cases ps with
    | nil =>
     rw[kN]at a|-;rw[a]
    | cons q h =>
     rw[jK]at a|-;rw[List.cons_append,a]
def Dc(c:UInt8):∀(l:List UInt8),∀ p∈bB c l,c∉p
 | [],p,a=>by
  simp only[bB,gH]at a;rw[a];simp
 | b::l,p,a=>by
  have d:=Dc c l;unfold bB at a;split at a
  ·rcases cf.1 a with rfl | a
   ·simp
   ·exact d p a
  ·rename_i h
   cases g:bB c l with
   |nil=>exact(wm c l g).elim
   | cons q k =>
    rw[g]at a d;simp only at a;rcases cf.1 a with rfl|a
    ·intro hm
     rcases cf.1 hm with e|hm
     ·exact h e.symm
     ·exact d q cZ hm
    ·exact d p (c8 q a)
def YY{c:UInt8}{l p:List UInt8}(d:p∈bB c l):∀ b∈p,b∈l:=by
 induction l generalizing p with
 | nil =>
  simp only[bB,gH]at d;rw[d];simp
 | cons a l h =>
  unfold bB at d;split at d
  ·rcases cf.1 d with rfl | d
   ·simp
   ·exact fun b g=>c8 a (h d b g)
  ·cases k : bB c l with
   |nil=>exact(wm c l k).elim
   | cons q t =>
    rw[k]at d h;simp only at d;rcases cf.1 d with rfl|d
    ·intro b g
     rcases cf.1 g with rfl|g
     ·exact cZ
     ·exact c8 a (h cZ b g)
    ·exact fun b g=>c8 a (h (c8 q d) b g)
def Ih(c:UInt8):∀ l:List UInt8,(bB c l).length<=l.length+1
 | []=>by simp[bB]
 | b::l=>by
  have a:=Ih c l;unfold bB;split
  ·simp only [bW]
   omega
  ·cases d : bB c l with
   |nil=>simp
   | cons q g =>
    rw[d]at a;simp only[bW]at a|-;omega
def ch(b:UInt8):Bool:=bf 48 b.toNat&&bf b.toNat 57
def dj(b:UInt8):Nat:=b.toNat-48
def aT(t:List UInt8):Nat:=t.foldl (fun a b=>a*10+dj b) 0
def digitVal_eq{b:UInt8}(h:ch b=true):akk b=some (dj b):=by
 unfold ch at h;simp only[aE,cu]at h;unfold akk;rw[iP h];rfl
def Ii:∀(t:List UInt8) (a:Nat),t.all ch=true->akl a t=some (t.foldl (fun a b=>a*10+dj b) a)
 | [],_,_=>rfl
 | b::t,a,h=>by
  rw[jA,aE]at h;unfold akl;rw[digitVal_eq h.1];exact Ii t _ h.2
def Ij{b:UInt8}(h:ch b=true):b≠45/\b≠43:=by
 unfold ch at h;simp only[aE,cu]at h;constructor<;>(intro e; rw[e]at h; simp at h)
def Dd{t:List UInt8}(d:t≠[])(h:t.all ch=true):Lib.atoi t=some (aT t:Int):=by
 cases t with
 |nil=>exact(d rfl).elim
 | cons b r =>
  have a:ch b=true:=by rw[jA,aE]at h; exact h.1
  show (if b==45 then (uK r).map fun(m:Nat) => -(m:Int) else if b==43 then (uK r).map fun(m:Nat)=>(m:Int) else (uK (b::r)).map fun(m:Nat)=>(m:Int))=_
  rw[iN (by simpa using(Ij a).1),iN (by simpa using(Ij a).2)];unfold uK;rw[iN (by simp),Ii _ _ h];rfl
def YZ{t:List UInt8}(a:t≠[])(h:t.all ch=true):Lib.atoi (45::t)=some (-(aT t:Int)):=by
 show (if (45:UInt8)==45 then (uK t).map fun(m:Nat) => -(m:Int) else if (45:UInt8)==43 then (uK t).map fun(m:Nat)=>(m:Int) else (uK (45::t)).map fun(m:Nat)=>(m:Int))=_
 rw[iP (by rfl)];unfold uK;rw[iN (by simpa using a),Ii _ _ h];rfl
def O6(t:List UInt8)(b:UInt8):aT (t++[b])=aT t*10+dj b:=by simp[aT]
def Ik:∀(k:Nat) (t:List UInt8),t.all ch=true->t.length<=k->aT t<10 ^ k:=by
 intro k
 induction k with
 | zero =>
  intro t _ a;have:t=[]:=ot (by omega);subst this;simp[aT]
 | succ k g =>
  intro t h a;rcases xp t with rfl|⟨t',b,e⟩
  ·simp only [aT, List.foldl_nil]
   exact Nat.pow_pos (by omega)
  ·rw [xq] at e
   subst e;rw[sF,aE]at h;have d:ch b=true:=by simpa using h.2
   unfold ch at d;simp only[aE,cu]at d;have:=g t' h.1 (by simp at a; omega);rw[O6,akj];unfold dj;omega
def canon:∀(k:Nat) (t:List UInt8),t.length=k->t≠[]->t.all ch=true->(t.head? ≠ some 48\/t=[48])->jg (aT t)=t:=by
 intro k
 induction k with
 |zero=>exact fun t d g=>(g (ot d)).elim
 | succ k A =>
  intro t d g h a;rcases xp t with rfl|⟨t',b,e⟩
  ·exact(g rfl).elim
  ·rw [xq] at e
   subst e;rw[sF,aE]at h;have B:ch b=true:=by simpa using h.2
   have q:=B;unfold ch at q;simp only[aE,cu]at q;have v:jB (48+dj b)=b:=by
    unfold dj;rw[show 48+(b.toNat-48)=b.toNat by omega,UInt8.ofNat_toNat]
   have z:dj b<10:=by unfold dj; omega
   rw[O6];cases t' with
   | nil =>
    have:aT []=0:=rfl;rw[this,Nat.zero_mul,eo,lh z,v];rfl
   | cons x r =>
    have w:x≠48:=by
     rcases a with a|a
     ·simpa using a
     ·simp at a
    have e:=A (x::r) (by simpa using d) (by simp) h.1 (.inl (by simpa using w));have y:aT (x::r)≠0:=fun y=>by
     rw[y,lh (by omega)]at e;simp at e;exact w e.1.symm
    rw[nW (by omega),show (aT (x::r)*10+dj b) / 10=aT (x::r) by omega,show (aT (x::r)*10+dj b)%10=dj b by omega,e,v]
def ja(a:Nat)(w:List UInt8):Option Int :=
 match w with
 |45::t=>if t≠[]/\t.length<=a/\t.all ch=true/\t.head? ≠ some 48 then some (-(aT t:Int)) else none
 |t=>if t≠[]/\t.length<=a/\t.all ch=true/\(t.head? ≠ some 48\/t=[48]) then some (aT t:Int) else none
end Go.AL
