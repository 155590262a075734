/-
 What is proved here: rules by which lifted functions are shown to give what they should. No program in sight; no condition.
-/
import Derived.Test.YtkkkhbhbjlikhaaGreatDoorMD
import Derived.Test.YtkkkhbhbjlikhaaGreatDoorMH
import Derived.Test.YtkkkhbhbjlikhaaGreatDoorMU
import Derived.Lib.ItoaNum
import Derived.Lib.SlTrimSet
set_option linter.all false
set_option backward.dsimp.instances true
open Bool renaming and_true->fJ,and_eq_true->aR,eq_iff_iff->jB
open Go.Lib renaming join->dZ,join_cons->atT,indexByte->mW,join_one->Pv,decDigits->lT,trimS->AY,digitVal->atW,decFrom->atX,decNat->xU
open List renaming length_cons->cJ,getElem?_eq_getElem->bT,getD_eq_getElem?_getD->dj,eq_nil_of_length_eq_zero->rE,length_append->eL,mem_cons->cy,mem_append->cY,replicate->dz,all_cons->oZ,mem_cons_self->dG,mem_cons_of_mem->cO,length_nil->fU,length_replicate->atS,pairwise_cons->mV,count_eq_zero->vw,count_append->Pw,eq_nil_or_concat->AZ,concat_eq_append->A0,all_append->Px
open List.Pairwise renaming sublist->auV,imp_of_mem->auW
open List.Perm renaming refl->xT
open List.cons renaming injEq->Jk
open Nat renaming zero_add->fC,beq->aA,ble->bW,ble_eq->fh,pow_succ->atV
open Option.some renaming injEq->bQ
open UInt8 renaming ofNat->Js
namespace Go.AL
open Go
variable [Dr]
variable {β:Type} {P Q:Nat->LG->Prop} {b c:Bool} {d:LG} {st:LG->bk} {t:Option LG}
def aa(x:Option β)(Q:β->Prop):Prop:=∃r,x=some r/\Q r
def eZ(st:LG->bk)(d:LG)(Q:Nat->LG->Prop):Prop:=∃n x g,lZ st n d x g/\n<=1000000/\Q x g
namespace aa
variable {β:Type} {Q:β->Prop}
theorem some{r:β}(h:Q r):aa (some r) Q:=⟨r,rfl,h⟩
theorem pos{x y:Option β}(h:b=true)(d:aa x Q):aa (bif b then x else y) Q:=by subst h; exact d
theorem neg{x y:Option β}(h:b=false)(d:aa y Q):aa (bif b then x else y) Q:=by subst h; exact d
theorem test{x y:Option β}(d:b=true->aa x Q)(g:b=false->aa y Q):aa (bif b then x else y) Q:=by
 cases b with
 |true=>exact d rfl
 |false=>exact g rfl
theorem call{k:LG->Option β}{P:LG->Prop}(h:aa t P)(d:∀g,P g->aa (k g) Q):aa (az t k) Q:=by
 obtain⟨r,h,q⟩:=h;subst h;exact d r q
theorem iy{k:LG->Option β}{P:LG->Prop}(h:aa t P)(hc:c=true)(d:∀g,P g->aa (k g) Q):aa (gx (c&&t.isSome) t k) Q:=by
 obtain⟨r,h,q⟩:=h;subst h hc;exact d r q
theorem loop{k:Nat->LG->Option β}(h:eZ st d P)(hc:c=true)(q:∀x g,P x g->aa (k x g) Q):aa (bp c (bR st d) k) Q:=by
 obtain⟨n,x,A,h,hn,B⟩:=h;rw[h.adz hn];subst hc;exact q x A B
theorem tail{t:bk}{k:Nat->LG->Option β}(h:aa t fun o=>∃ x,o.1=Option.some x/\P x o.2)(hc:c=true)(A:∀ x g,P x g->aa (k x g) Q):
  aa (bp c (fa t) k) Q:=by
 obtain⟨⟨o,d⟩,rfl,x,q,B⟩:=h;simp only at q;subst q hc;exact A x d B
theorem mono{x:Option β}{P:β->Prop}(h:aa x P)(d:∀r,P r->Q r):aa x Q:=by
 obtain⟨r,h,g⟩:=h;exact⟨r,h,d r g⟩
theorem eq{x:Option β}{r:β}(h:x=Option.some r):aa x (fun g=>g=r):=⟨r,h,rfl⟩
theorem toEq{x:Option β}{r:β}(h:aa x (fun g=>g=r)):x=Option.some r:=by
 obtain⟨d,h,rfl⟩:=h;exact h
end aa
theorem eZ.stop{st:LG->bk}{d d':LG}{x:Nat}{Q:Nat->LG->Prop}(h:st d=some (some x,d'))(g:Q x d'):eZ st d Q:=⟨1,x,d',.stop h,ab,g⟩
def dU(st:LG->bk)(d:LG)(m:Nat)(Q:Nat->LG->Prop):Prop:=∃n x g,lZ st n d x g/\n<=m/\Q x g
theorem dU.stop{st:LG->bk}{d d':LG}{x m:Nat}{Q:Nat->LG->Prop}(h:st d=some (some x,d'))(g:Q x d'):dU st d (m+1) Q:=⟨1,x,d',.stop h,ab,g⟩
theorem dU.next{st:LG->bk}{d d1:LG}{m:Nat}{Q:Nat->LG->Prop}(h:st d=some (none,d1))(hr:dU st d1 m Q):dU st d (m+1) Q:=by
 obtain⟨n,x,g,q,B,A⟩:=hr;exact⟨n+1,x,g,.next h q,ab,A⟩
theorem dU.to{m:Nat}(h:dU st d m Q)(hm:m<=1000000):eZ st d Q:=by
 obtain⟨n,x,g,q,B,A⟩:=h;exact⟨n,x,g,q,ab,A⟩
theorem eZ.mono(h:eZ st d P)(q:∀x g,P x g->Q x g):eZ st d Q:=by
 obtain⟨n,x,A,B,F,I⟩:=h;exact⟨n,x,A,B,F,q _ _ I⟩
theorem dU.mono{m:Nat}(h:dU st d m P)(q:∀x g,P x g->Q x g):dU st d m Q:=by
 obtain⟨n,x,A,B,F,I⟩:=h;exact⟨n,x,A,B,F,q _ _ I⟩
theorem ae4{p:Prop}{i:Decidable p}:(@decide p i=true)↔p:=ai
theorem ae5{p:Prop}{i:Decidable p}:(@decide p i=false)↔¬ p:=ai
theorem ae6{a b:Nat}:aA a b=true↔a=b:=ai
theorem Aa(a:G)(l:LG):gi (a::l) 0=a:=rfl
theorem Ab(a:G)(l:LG)(i:Nat):gi (a::l) (i+1)=gi l i:=rfl
theorem Ac(r:LG)(l:LL):(G.l (r::l)).rV=r:=rfl
theorem Ad(l:LL):(G.l l).rZ=l:=rfl
theorem Ae(n:Int):(G.i n).iV=n:=rfl
theorem Af(s:BY):(G.s s).sV=s:=rfl
theorem Ag(b:Bool):(G.t b).bV=b:=rfl
attribute [go_sem] Aa Ab Ac Ad Ae Af Ag
theorem sl:(∀a b:Int,ba a b=decide (a<b))/\(∀a b:Int,cw a b=decide (a<=b))/\(∀n:Int,eg n=decide (0<=n))/\(∀b:Bool,(b&&true)=b)/\(∀b:Bool,(true&&b)=b) /\
  (∀a b:Bool,((a&&b)=true)=(a=true/\b=true))/\(∀a b:Bool,((a&&b)=false)=(a=false\/b=false))/\(∀(p:Prop) (i:Decidable p),(@decide p i=true)=p)/\(∀(p:Prop) (i:Decidable p),(@decide p i=false)=¬ p) /\
  (∀b:Bool,((!b)=true)=(b=false))/\(∀b:Bool,((!b)=false)=(b=true))/\(∀a b:Int,((a==b)=true)=(a=b))/\(∀a b:Int,((a==b)=false)=¬ (a=b))/\(∀a b:Int,((a != b)=true)=¬ (a=b))/\(∀a b:Int,((a != b)=false)=(a=b)) /\
  (∀(α:Type) (a b:α),(a≠b)=¬ (a=b))/\(∀a b:Nat,(aA a b=true)=(a=b))/\(∀a b:Nat,(bW a b=true)=(a<=b))/\(∀a b:Nat,(Nat.blt a b=true)=(a<b)) /\
  (∀(l:LL) (i:Nat) (x:LG),(l.set i x).length=l.length)/\(∀(α:Type) (l r:List α),(l++r).length=l.length+r.length)/\(∀(n:Nat) (x:LG),(dz n x).length=n) /\
  (∀(α:Type) (x:α) (l:List α),(x::l).length=l.length+1)/\(∀α:Type,([]:List α).length=0)/\(∀(l:LL) (n:Nat),(l.take n).length=min n l.length)/\(∀(l:LL) (n:Nat),(l.drop n).length=l.length-n) /\
  (∀n:Nat,((n:Int)).toNat=n)/\(∀p:Prop,(True/\p)=p)/\(∀p:Prop,(p/\True)=p)/\(∀a b:Bool,((a==b)=true)=(a=b)):=
 ⟨dX,eh,jT,fJ,Bool.true_and,aR,fun a b=>by cases a<;>cases b<;>simp,fun _ _=>propext ae4,fun _ _=>propext ae5,fun b=>by cases b<;>simp,fun b=>by cases b<;>simp,
  fun a b=>by simp,fun a b=>by simp,fun a b=>by simp,fun a b=>by simp,fun _ a b=>rfl,fun a b=>propext ae6,fun a b=>by simp,fun a b=>by simp,fun l i x=>List.length_set,fun _ l r=>eL,fun n x=>atS,
  fun _ x l=>rfl,fun _=>rfl,fun l n=>List.length_take,fun l n=>List.length_drop,fun n=>Int.toNat_natCast n,fun p=>true_and p,fun p=>and_true p,fun a b=>by cases a<;>cases b<;>simp⟩
theorem i_{p:Prop}(h:p:=by first|rfl|assumption|(simp only[aM,sl]<;>omega)):p:=h
theorem aa.p{Q:β->Prop}{x y:Option β}(d:aa x Q)(h:b=true:=by first|rfl|assumption|(simp only[aM,sl]<;>omega)):aa (bif b then x else y) Q:=aa.pos h d
theorem aa.n{Q:β->Prop}{x y:Option β}(d:aa y Q)(h:b=false:=by first|rfl|assumption|(simp only[aM,sl]<;>omega)):aa (bif b then x else y) Q:=aa.neg h d
theorem aa.cE{Q:β->Prop}{r:LG}{k:LG->Option β}(h:t=Option.some r)(d:aa (k r) Q):aa (az t k) Q:=aa.call (aa.eq h) fun _ e=>by subst e; exact d

end Go.AL

namespace Go.AL
open Go
variable [Dr]
def uD{σ:Type}{st:LG->bk}(mk:σ->Nat->LG)(n:Nat)(d:σ->Nat × LG)(I:σ->Nat->Prop)(E:Nat->LG->Prop)
  (A:∀s i,I s i->i<n->aa (st (mk s i)) fun o=>(∃s',o=(none,mk s' (i+1))/\I s' (i+1))\/∃c g,o=(some c,g)/\E c g)
  (B:∀s,I s n->aa (st (mk s n)) fun o=>o=(some (d s).1,(d s).2)) :
  ∀(k:Nat) (s:σ) (i:Nat),i+k=n->I s i->dU st (mk s i) (k+1) fun c g=>(∃s',I s' n/\c=(d s').1/\g=(d s').2)\/E c g
 |0,s,i,hi,q=>by
  have e:i=n:=hi;subst e;obtain⟨o,h,rfl⟩:=B s q
  grind[dU.stop]
 |k+1,s,i,hi,q=>by
  obtain⟨o,h,⟨s',rfl,F⟩|⟨c,g,rfl,J⟩⟩:=A s i q ab
  ·exact dU.next h (uD mk n d I E A B k s' (i+1) ab F)
  grind[dU.stop]
variable {rZ:LL} {α:Type} {K:List Kd}
theorem ow{i:Nat}(h:i<rZ.length):rZ.getD i []∈rZ:=by
 rw[dj,bT h];exact List.getElem_mem h
theorem Tk{i:Nat}(h:i<rZ.length):rZ.take (i+1)=rZ.take i++[rZ.getD i []]:=by
 rw[List.take_add_one,dj,bT h];rfl
theorem y7{σ:Type}{st:LG->bk}(mk:σ->Nat->LG)(rZ:LL)(d:σ->Nat × LG)(I:σ->Nat->Prop)(E:Nat->LG->Prop)(s:σ)
  (J:rZ.length<999999) (B:I s 0)
  (q:∀s i x,I s i->i<rZ.length->rZ.getD i []=x->x∈rZ->rZ.take (i+1)=rZ.take i++[x]->aa (st (mk s i)) fun o=>(∃s',o=(none,mk s' (i+1))/\I s' (i+1))\/∃c g,o=(some c,g)/\E c g)
  (A:∀s,I s rZ.length->aa (st (mk s rZ.length)) fun o=>o=(some (d s).1,(d s).2)) :
  eZ st (mk s 0) fun c g=>(∃s',I s' rZ.length/\c=(d s').1/\g=(d s').2)\/E c g:=
 (uD mk rZ.length d I E (fun s i F hi=>q s i _ F hi rfl (ow hi) (Tk hi)) A rZ.length s 0 ab B).to ab
theorem ga{σ:Type}{st:LG->bk}(mk:σ->Nat->LG)(rZ:LL)(q:σ->Nat × LG)(I:σ->Nat->Prop)(s:σ)
  (B:rZ.length<999999) (J:I s 0)
  (A:∀s i x,I s i->i<rZ.length->rZ.getD i []=x->x∈rZ->rZ.take (i+1)=rZ.take i++[x]->aa (st (mk s i)) fun o=>∃s',o=(none,mk s' (i+1))/\I s' (i+1))
  (F:∀s,I s rZ.length->aa (st (mk s rZ.length)) fun o=>o=(some (q s).1,(q s).2)) :
  eZ st (mk s 0) fun c g=>∃s',I s' rZ.length/\c=(q s').1/\g=(q s').2:=
 (y7 mk rZ q I (fun _ _=>False) s B J (fun s i x a b c d e=>(A s i x a b c d e).mono fun _ h=>.inl h) F).mono fun _ _ h=>h.elim id False.elim
theorem sv[BEq α][LawfulBEq α](a b:α):(a==b)=(b==a):=by
 rw[jB];simp only[beq_iff_eq];exact eq_comm
theorem ae7{k:Kd}{a b:G}:nV k a b=nV k b a:=by
 cases k
 ·exact sv _ _
 ·exact sv _ _
 ·exact sv _ _
 ·rfl
theorem ae8{k:Kd}{a b c:G}(d:nV k a b=true)(g:nV k b c=true):nV k a c=true:=by
 cases k<;>simp only[nV,beq_iff_eq]at *<;>grind
theorem l7:∀{K:List Kd} {a b:LG},aK K a b=aK K b a
 |[],_,_=>rfl
 |k::K,a,b=>by simp only[aK,ae7 (a:=a.headD default),l7 (K:=K) (a:=a.tail)]
theorem pO:∀{K:List Kd} {a b c:LG},aK K a b=true->aK K b c=true->aK K a c=true
 |[],_,_,_,_,_=>rfl
 |k::K,a,b,c,d,g=>by
  simp only[aK,aR]at *;exact⟨ae8 d.1 g.1,pO d.2 g.2⟩
theorem ae9{a b c:LG}(h:aK K a b=true):aK K a c=aK K b c:=by
 rw[jB]
 grind[pO,l7]
theorem Cy{a b c:LG}(h:aK K a b=true):aK K c a=aK K c b:=by
 rw[l7,ae9 h,l7]
theorem qT(ks:List Kd)(key:LG):∀(rZ:LL) (i:Nat),fl ks key rZ i=(fl ks key rZ 0).map fun p=>(p.1+i,p.2)
 |[],i=>rfl
 |r::rs,i=>by
  simp only[fl];cases aK ks key (gi r 0).rV with
  |true=>simp
  |false=>
   simp only[cF];rw[qT ks key rs (i+1),qT ks key rs (0+1),Option.map_map];congr 1
   grind
theorem y8(ks:List Kd)(key z:LG):da ks [] key z=z:=rfl
theorem y9(ks:List Kd)(r:LG)(rs:LL)(key z:LG):da ks (r::rs) key z=bif aK ks key (gi r 0).rV then (gi r 1).rV else da ks rs key z:=by
 unfold da;simp only[fl];cases aK ks key (gi r 0).rV with
 |true=>rfl
 |false=>
  grind[qT]
theorem pP(ks:List Kd)(key:LG):b_ ks [] key=false:=rfl
theorem pQ(ks:List Kd)(r:LG)(rs:LL)(key:LG):b_ ks (r::rs) key=(aK ks key (gi r 0).rV||b_ ks rs key):=by
 unfold b_;simp only[fl];cases aK ks key (gi r 0).rV with
 |true=>rfl
 |false=>
  grind[qT]
theorem y_(ks:List Kd)(key val:LG)(c:Nat):cH ks [] key val c=[[.l [key],.l [val],.i c]]:=rfl
theorem za(ks:List Kd)(r:LG)(rs:LL)(key val:LG)(c:Nat) :
  cH ks (r::rs) key val c=bif aK ks key (gi r 0).rV then [.l [key],.l [val],.i (gi r 2).iV]::rs else r::cH ks rs key val c:=by
 unfold cH;simp only[fl];cases aK ks key (gi r 0).rV with
 |true=>rfl
 |false=>
  grind[qT]
theorem pR(ks:List Kd)(k v key z:LG)(c:Nat):∀ rZ:LL,da ks (cH ks rZ k v c) key z=bif aK ks key k then v else da ks rZ key z
 |[]=>by simp only[y_,y9,y8]; rfl
 |r::rs=>by
  rw[za,y9];cases h:aK ks k (gi r 0).rV with
  |true=>
   simp only[cT,y9];have e:aK ks key (gi r 0).rV=aK ks key k:=(Cy h).symm;rw[e];cases d:aK ks key k with
   |true=>simp only[Aa,Ac,d,cT]; rfl
   |false=>simp only[Aa,Ac,d,cF]
  |false=>
   simp only[cF,y9,pR ks k v key z c rs];cases d:aK ks key (gi r 0).rV with
   |false=>rfl
   |true=>
    cases g:aK ks key k with
    |false=>rfl
    |true=>
     grind[pO,l7]
theorem uE(ks:List Kd)(k v key:LG)(c:Nat):∀ rZ:LL,b_ ks (cH ks rZ k v c) key=(aK ks key k||b_ ks rZ key)
 |[]=>by simp only[y_,pQ,pP]; rfl
 |r::rs=>by
  rw[za,pQ];cases h:aK ks k (gi r 0).rV with
  |true=>
   simp only[cT,pQ];have e:aK ks key (gi r 0).rV=aK ks key k:=(Cy h).symm;rw[e];simp only[Aa,Ac]
   grind
  |false=>
   simp only[cF,pQ,uE ks k v key c rs]
   grind
def Cz(K:List Kd)(C:LG->Option LG)(d:LG):bk:=
 (bif (ba (gi d 1).iV (gi d 4).iV) then (bif ((eg (gi d 4).iV)&&(ba (gi d 4).iV (((gi d 0).rZ.length:Nat):Int))) then (bif (decide ((0+((gi d 4).iV).toNat)<(gi d 0).rZ.length)) then (bif (aM ((gi d 4).iV-1)) then (bif ((eg ((gi d 4).iV-1))&&(ba ((gi d 4).iV-1) (((gi d 0).rZ.length:Nat):Int))) then (bif (decide ((0+((gi d 4).iV-1).toNat)<(gi d 0).rZ.length)) then (az (C [.l [(bu K ((gi d 0).rZ.getD (0+((gi d 4).iV).toNat) []))],.l [(bu K ((gi d 0).rZ.getD (0+((gi d 4).iV-1).toNat) []))]]) fun g=>(bif (ba (gi g 0).iV 0) then (bif (aM ((gi d 4).iV-1)) then (bif (aM ((gi d 4).iV-1)) then (bif ((eg ((gi d 4).iV-1))&&(ba ((gi d 4).iV-1) (((gi d 0).rZ.length:Nat):Int))) then (bif (decide ((0+((gi d 4).iV-1).toNat)<(gi d 0).rZ.length)) then (bif ((eg (gi d 4).iV)&&(ba (gi d 4).iV (((gi d 0).rZ.length:Nat):Int))) then (bif (decide ((0+((gi d 4).iV).toNat)<(gi d 0).rZ.length)) then (bif ((eg (gi d 4).iV)&&(ba (gi d 4).iV (((gi d 0).rZ.length:Nat):Int))) then (bif (decide ((0+((gi d 4).iV).toNat)<(gi d 0).rZ.length)) then (bif ((eg ((gi d 4).iV-1))&&(ba ((gi d 4).iV-1) (((gi d 0).rZ.length:Nat):Int))) then (bif (decide ((0+((gi d 4).iV-1).toNat)<((gi d 0).rZ.set (0+((gi d 4).iV).toNat) (iW K ((gi d 0).rZ.getD (0+((gi d 4).iV).toNat) []) 0 (bu K ((gi d 0).rZ.getD (0+((gi d 4).iV-1).toNat) [])))).length)) then (bif (aM ((gi d 4).iV-1)) then (bif ((aA (gi d 0).rZ.length (((gi d 0).rZ.set (0+((gi d 4).iV).toNat) (iW K ((gi d 0).rZ.getD (0+((gi d 4).iV).toNat) []) 0 (bu K ((gi d 0).rZ.getD (0+((gi d 4).iV-1).toNat) [])))).set (0+((gi d 4).iV-1).toNat) (iW K (((gi d 0).rZ.set (0+((gi d 4).iV).toNat) (iW K ((gi d 0).rZ.getD (0+((gi d 4).iV).toNat) []) 0 (bu K ((gi d 0).rZ.getD (0+((gi d 4).iV-1).toNat) [])))).getD (0+((gi d 4).iV-1).toNat) []) 0 (bu K ((gi d 0).rZ.getD (0+((gi d 4).iV).toNat) [])))).length)&&true) then some (none,[.l (((gi d 0).rZ.set (0+((gi d 4).iV).toNat) (iW K ((gi d 0).rZ.getD (0+((gi d 4).iV).toNat) []) 0 (bu K ((gi d 0).rZ.getD (0+((gi d 4).iV-1).toNat) [])))).set (0+((gi d 4).iV-1).toNat) (iW K (((gi d 0).rZ.set (0+((gi d 4).iV).toNat) (iW K ((gi d 0).rZ.getD (0+((gi d 4).iV).toNat) []) 0 (bu K ((gi d 0).rZ.getD (0+((gi d 4).iV-1).toNat) [])))).getD (0+((gi d 4).iV-1).toNat) []) 0 (bu K ((gi d 0).rZ.getD (0+((gi d 4).iV).toNat) [])))),.i (gi d 1).iV,.i (gi d 2).iV,.i (gi d 3).iV,.i ((gi d 4).iV-1)]) else none) else none) else none) else none) else none) else none) else none) else none) else none) else none) else none) else none) else (bif ((aA (gi d 0).rZ.length (gi d 0).rZ.length)&&true) then some (some 0,[.l (gi d 0).rZ,.i (gi d 1).iV,.i (gi d 2).iV,.i (gi d 3).iV]) else none))) else none) else none) else none) else none) else none) else (bif ((aA (gi d 0).rZ.length (gi d 0).rZ.length)&&true) then some (some 0,[.l (gi d 0).rZ,.i (gi d 1).iV,.i (gi d 2).iV,.i (gi d 3).iV]) else none))
def zb(K:List Kd)(C:LG->Option LG)(d:LG):bk:=
 (bif (ba (gi d 3).iV (gi d 2).iV) then (bp ((aA (gi d 0).rZ.length (gi d 0).rZ.length)&&true) (bR (Cz K C) [.l (gi d 0).rZ,.i (gi d 1).iV,.i (gi d 2).iV,.i (gi d 3).iV,.i (gi d 3).iV]) fun q g=>(bif (aM ((gi g 3).iV+1)) then (bif ((aA (gi g 0).rZ.length (gi g 0).rZ.length)&&true) then some (none,[.l (gi g 0).rZ,.i (gi g 1).iV,.i (gi g 2).iV,.i ((gi g 3).iV+1)]) else none) else none)) else some (some 0,[.l (gi d 0).rZ]))
def qU(K:List Kd)(C:LG->Option LG)(d:LG):Option LG:=
 (bif (aM ((gi d 1).iV+1)) then (bp ((aA (gi d 0).rZ.length (gi d 0).rZ.length)&&true) (bR (zb K C) [.l (gi d 0).rZ,.i (gi d 1).iV,.i (gi d 2).iV,.i ((gi d 1).iV+1)]) fun q g=>some [.l (gi g 0).rZ]) else none)
def wI(K:List Kd)(C:LG->Option LG)(d:LG):bk:=
 (bif (cw (gi d 4).iV (gi d 1).iV) then (gx (((aA (gi d 0).rZ.length (gi d 0).rZ.length)&&true)&&((qU K C) [.l (gi d 0).rZ,.i (gi d 3).iV,.i (gi d 4).iV]).isSome) ((qU K C) [.l (gi d 0).rZ,.i (gi d 3).iV,.i (gi d 4).iV]) fun g=>(bif (aM ((gi d 4).iV+(gi d 2).iV)) then (bif ((aA (gi d 0).rZ.length (gi g 0).rZ.length)&&true) then some (none,[.l (gi g 0).rZ,.i (gi d 1).iV,.i (gi d 2).iV,.i (gi d 4).iV,.i ((gi d 4).iV+(gi d 2).iV)]) else none) else none)) else (bif ((aA (gi d 0).rZ.length (gi d 0).rZ.length)&&true) then some (some 0,[.l (gi d 0).rZ,.i (gi d 1).iV,.i (gi d 2).iV,.i (gi d 3).iV]) else none))
def ae_(K:List Kd)(C:LG->Option LG)(d:LG):bk:=
 (bif (cw (gi d 4).iV (gi d 1).iV) then (bif (aM ((gi d 3).iV+(gi d 2).iV)) then none else none) else (bif ((aA (gi d 0).rZ.length (gi d 0).rZ.length)&&true) then some (some 0,[.l (gi d 0).rZ,.i (gi d 1).iV,.i (gi d 2).iV,.i (gi d 3).iV]) else none))
def Mf(K:List Kd)(C:LG->Option LG)(d:LG):bk:=
 (bif (ba (gi d 2).iV (gi d 1).iV) then (bif (aM (2*(gi d 2).iV)) then (bp ((aA (gi d 0).rZ.length (gi d 0).rZ.length)&&true) (bR (ae_ K C) [.l (gi d 0).rZ,.i (gi d 1).iV,.i (gi d 2).iV,.i 0,.i (2*(gi d 2).iV)]) fun q g=>(bif (aM ((gi g 3).iV+(gi g 2).iV)) then (bif (ba ((gi g 3).iV+(gi g 2).iV) (gi g 1).iV) then none else (bif (aM ((gi g 2).iV*2)) then (bif ((aA (gi g 0).rZ.length (gi g 0).rZ.length)&&true) then some (none,[.l (gi g 0).rZ,.i (gi g 1).iV,.i ((gi g 2).iV*2)]) else none) else none)) else none)) else none) else some (some 0,[.l (gi d 0).rZ]))
def Gw(K:List Kd)(C:LG->Option LG)(d:LG):Option LG:=
 (bp ((aA (gi d 0).rZ.length (gi d 0).rZ.length)&&true) (bR (wI K C) [.l (gi d 0).rZ,.i (gi d 1).iV,.i 20,.i 0,.i 20]) fun B g=>(gx (((aA (gi g 0).rZ.length (gi g 0).rZ.length)&&true)&&((qU K C) [.l (gi g 0).rZ,.i (gi g 3).iV,.i (gi g 1).iV]).isSome) ((qU K C) [.l (gi g 0).rZ,.i (gi g 3).iV,.i (gi g 1).iV]) fun q=>(bp ((aA (gi g 0).rZ.length (gi q 0).rZ.length)&&true) (bR (Mf K C) [.l (gi q 0).rZ,.i (gi g 1).iV,.i (gi g 2).iV]) fun F A=>some [.l (gi A 0).rZ])))
def Tl(K:List Kd)(C:LG->Option LG)(d:LG):Option LG:=
 (gx (((aA (gi d 0).rZ.length (gi d 0).rZ.length)&&true)&&((Gw K C) [.l (gi d 0).rZ,.i (((gi d 0).rZ.length:Nat):Int)]).isSome) ((Gw K C) [.l (gi d 0).rZ,.i (((gi d 0).rZ.length:Nat):Int)]) fun g=>some [.l (gi g 0).rZ])
theorem sw(l:List α)(x:α)(q:List α)(z:α)(n:Nat)(h:n=l.length):(l++x::q).getD n z=x:=by subst h; simp
theorem Gx(l:List α)(x y:α)(q:List α)(n:Nat)(h:n=l.length):(l++x::q).set n y=l++y::q:=by subst h; simp
def iK{α:Type}(lt:α->α->Bool)(x:α):List α->List α
 |[]=>[x]
 |y::p=>bif lt x y then y::iK lt x p else x::y::p
def k_{α:Type}(lt:α->α->Bool):List α->List α->List α
 |p,[]=>p
 |p,x::r=>k_ lt (iK lt x p) r
def gO(lt:α->α->Bool)(l:List α):List α:=(k_ lt [] l).reverse
theorem Gy{α:Type}(lt:α->α->Bool)(x:α):∀ p,(iK lt x p).length=p.length+1
 |[]=>rfl
 |y::p=>by
  simp only[iK];cases lt x y with
  |true=>simp[Gy lt x p]
  |false=>simp
theorem Mg{α:Type}{Q:α->Prop}{lt:α->α->Bool}{x:α}(g:Q x):∀{p:List α},(∀ y∈p,Q y)->∀ y∈iK lt x p,Q y
 |[],_,y,d=>by simp[iK]at d; exact d▸g
 |z::p,q,y,d=>by
  simp only[iK]at d;cases A:lt x z with
  |true=>
   rw[A]at d;rcases cy.1 d with rfl|d
   grind
   ·exact Mg g (fun y d=>q y (cO _ d)) y d
  |false=>
   grind
theorem Tm{α:Type}(lt:α->α->Bool):∀(p r:List α),(k_ lt p r).length=p.length+r.length
 |p,[]=>rfl
 |p,x::r=>by simp only[k_,Tm lt,Gy,cJ]; omega
theorem Tn{α:Type}{Q:α->Prop}{lt:α->α->Bool}:∀{r p:List α},(∀ y∈p,Q y)->(∀ y∈r,Q y)->∀ y∈k_ lt p r,Q y
 |[],_,d,_=>d
 |x::r,p,d,hr=>by
  simp only[k_];exact Tn (Mg (hr x dG) d) fun y g=>hr y (cO _ g)
theorem uF(lt:α->α->Bool)(l:List α):(gO lt l).length=l.length:=by simp[gO,Tm]
theorem Mh{Q:α->Prop}{lt:α->α->Bool}{l:List α}(h:∀y∈l,Q y):∀y∈gO lt l,Q y:=by
 intro y d;exact Tn (p:=[]) ai h y (by simpa[gO]using d)
theorem Gz:∀(K:List Kd) (r:LG),(bu K r).length=K.length
 |[],_=>rfl
 |k::K,r=>by simp[bu,Gz K]
theorem Mi{r d:LG}(h:d.length=K.length):iW K r 0 d=d:=by
 simp[iW,h,KC,List.drop_eq_nil_of_le]
section
variable {K:List Kd} {C:LG->Option LG} {Q:LG->Prop} {c:LG->LG->Int}
structure ox (K:List Kd) (C:LG->Option LG) (Q:LG->Prop) (c:LG->LG->Int):Prop where
 cmp:∀r s,Q r->Q s->C [.l [r],.l [s]]=some [.i (c r s)]
 eta:∀r,Q r->bu K r=r
def cR(c:LG->LG->Int)(r s:LG):Bool:=ba (c r s) 0
theorem To(hC:ox K C Q c):∀(p q:LL) (x:LG) (b i:Int) (j:Nat),(∀y∈p,Q y)->Q x->p.length<1000000->j=p.length ->
  ∃m,m<=p.length+1/\lZ (Cz K C) m [.l (p.reverse++x::q),.i 0,.i b,.i i,.i (j:Int)] 0 [.l ((iK (cR c) x p).reverse++q),.i 0,.i b,.i i]
 |[],q,x,b,i,j,_,_,_,d=>by
  simp only[fU]at d;subst d;refine⟨1,ai,.stop (aa.toEq ?_)⟩;unfold Cz
  (dsimp only[go_sem])
  refine aa.n (aa.p (aa.some ?_));rfl
 |y::p,q,x,b,i,j,J,g,Y,d=>by
  have B:=J y dG;have M:(y::p).reverse++x::q=(p.reverse++[y])++x::q:=ai;have e2:(y::p).reverse++x::q=p.reverse++y::x::q:=ai;simp only[cJ]at Y d;have N:((y::p).reverse++x::q).getD (0+(j:Int).toNat) []=x:=by rw[M]; grind
  have O:((y::p).reverse++x::q).getD (0+((j:Int)-1).toNat) []=y:=by rw[e2]; simp_all
  have F:((y::p).reverse++x::q).length=p.length+q.length+2:=du;have I:=hC.cmp x y g B;cases A:cR c x y with
  |false=>
   refine⟨1,ai,.stop (aa.toEq ?_)⟩;unfold Cz
   (dsimp only[go_sem])
   simp only[F,N,O,hC.eta x g,hC.eta y B];refine aa.p (aa.p (aa.p (aa.p (aa.p (aa.p (aa.call (aa.eq I) ?_))))));rintro _ rfl
   (dsimp only[go_sem])
   refine aa.neg A (aa.p (aa.some ?_));simp[iK,A]
  |true=>
   obtain⟨m,hm,hr⟩:=To hC p (y::q) x b i (j-1) (fun z hz=>J z (cO _ hz)) g ab ab;refine⟨m+1,du,.next (aa.toEq ?_) (by
    have e:(iK (cR c) x (y::p)).reverse++q=(iK (cR c) x p).reverse++y::q:=by simp[iK,A]
    rw[e]; exact hr)⟩
   have s1:((y::p).reverse++x::q).set (0+(j:Int).toNat) y=p.reverse++y::y::q:=by
    rw[M,Gx _ _ _ _ _ (by simp[d])]; simp
   have s2:(p.reverse++y::y::q).set (0+((j:Int)-1).toNat) x=p.reverse++x::y::q:=Gx _ _ _ _ _ (by simp[d]);have U:(p.reverse++y::y::q).length=p.length+q.length+2:=du;have W:(p.reverse++x::y::q).length=p.length+q.length+2:=du;have ky:y.length=K.length:=by rw[<-hC.eta y B,Gz]
   have kx:x.length=K.length:=by rw[<-hC.eta x g,Gz]
   unfold Cz
   (dsimp only[go_sem])
   simp only[F,N,O,hC.eta x g,hC.eta y B,Mi ky,Mi kx,s1,s2,U,W];refine aa.p (aa.p (aa.p (aa.p (aa.p (aa.p (aa.call (aa.eq I) ?_))))));rintro _ rfl
   (dsimp only[go_sem])
   refine aa.pos A ?_;refine aa.p (aa.p (aa.p (aa.p (aa.p (aa.p (aa.p (aa.p (aa.p (aa.p (aa.p (aa.p (aa.some ?_))))))))))))
   simp_all
theorem Tp(hC:ox K C Q c):∀(r p:LL) (i n:Nat),(∀y∈p,Q y)->(∀y∈r,Q y)->i=p.length->n=p.length+r.length->n<100000 ->
  ∃m,m<=r.length+1/\lZ (zb K C) m [.l (p.reverse++r),.i 0,.i (n:Int),.i (i:Int)] 0 [.l (k_ (cR c) p r).reverse]
 |[],p,i,n,_,_,hi,hn,hs=>by
  refine⟨1,ai,.stop (aa.toEq ?_)⟩;simp only[fU]at hn;unfold zb
  (dsimp only[go_sem])
  refine aa.n (aa.some ?_);simp[k_]
 |x::r,p,i,n,d,hr,hi,hn,hs=>by
  simp only[cJ]at hn;obtain⟨q,I,A⟩:=To hC p r x (n:Int) (i:Int) i d (hr x dG) ab hi;obtain⟨m,hm,B⟩:=Tp hC r (iK (cR c) x p) (i+1) n (Mg (hr x dG) d) (fun y F=>hr y (cO _ F)) (by rw[Gy,hi]) (by rw[Gy]; omega) hs;refine⟨m+1,du,.next (aa.toEq ?_) B⟩;unfold zb
  (dsimp only[go_sem])
  refine aa.p (aa.loop (P:=fun x g=>g=_) ⟨q,0,_,A,ab,rfl⟩ i_ ?_);rintro _ _ rfl
  (dsimp only[go_sem])
  refine aa.p (aa.p (aa.some ?_));rfl
theorem ae'(hC:ox K C Q c)(rZ:LL)(hr:∀y∈rZ,Q y)(hn:rZ.length<100000):qU K C [.l rZ,.i 0,.i (rZ.length:Int)]=some [.l (gO (cR c) rZ)]:=by
 refine aa.toEq ?_;unfold qU
 (dsimp only[go_sem])
 refine aa.p ?_;cases rZ with
 |nil=>
  refine aa.loop (P:=fun x g=>g=[.l []]) ⟨1,0,_,.stop (aa.toEq (?_:aa _ (fun g=>g=(some 0,[G.l []])))),ab,rfl⟩ i_ ?_
  ·unfold zb
   (dsimp only[go_sem])
   exact aa.n (aa.some rfl)
  ·rintro _ _ rfl
   exact aa.some rfl
 |cons x r=>
  simp only[cJ]at hn;obtain⟨m,hm,h⟩:=Tp hC r [x] 1 (r.length+1) (by simpa using hr x dG) (fun y d=>hr y (cO _ d)) rfl du ab;refine aa.loop (P:=fun y g=>g=_) ⟨m,0,_,h,ab,rfl⟩ i_ ?_;rintro _ _ rfl;exact aa.some rfl
theorem afa(rZ:LL)(a b:Nat)(h:b<=a)(hn:a<100000):qU K C [.l rZ,.i (a:Int),.i (b:Int)]=some [.l rZ]:=by
 refine aa.toEq ?_;unfold qU
 (dsimp only[go_sem])
 refine aa.p ?_;refine aa.loop (P:=fun x g=>g=[.l rZ]) ⟨1,0,_,.stop (aa.toEq (?_:aa _ (fun g=>g=(some 0,[G.l rZ])))),ab,rfl⟩ i_ ?_
 ·unfold zb
  (dsimp only[go_sem])
  exact aa.n (aa.some rfl)
 ·rintro _ _ rfl
  exact aa.some rfl
theorem afb(hC:ox K C Q c)(rZ:LL)(hr:∀y∈rZ,Q y)(hn:rZ.length<=20):Gw K C [.l rZ,.i (rZ.length:Int)]=some [.l (gO (cR c) rZ)]:=by
 refine aa.toEq ?_;unfold Gw
 (dsimp only[go_sem])
 have d:=ae' hC rZ hr ab;have B:=uF (cR c) rZ;have I:∀q:LL,q.length=rZ.length->eZ (Mf K C) [.l q,.i (rZ.length:Int),.i 20] fun _ g=>g=[.l q]:=by
  intro q N;refine eZ.stop (x:=0) (aa.toEq ?_) rfl;unfold Mf
  (dsimp only[go_sem])
  exact aa.n (aa.some rfl)
 by_cases F:rZ.length=20
 ·have A:wI K C [.l rZ,.i (rZ.length:Int),.i 20,.i 0,.i 20]=some (none,[.l (gO (cR c) rZ),.i (rZ.length:Int),.i 20,.i 20,.i 40]):=by
   refine aa.toEq ?_;unfold wI
   (dsimp only[go_sem])
   have d:qU K C [.l rZ,.i 0,.i 20]=some [.l (gO (cR c) rZ)]:=by rw[F]at d; exact d
   refine aa.p (aa.iy (aa.eq d) i_ ?_);rintro _ rfl
   (dsimp only[go_sem])
   exact aa.p (aa.p (aa.some rfl))
  have J:wI K C [.l (gO (cR c) rZ),.i (rZ.length:Int),.i 20,.i 20,.i 40]=some (some 0,[.l (gO (cR c) rZ),.i (rZ.length:Int),.i 20,.i 20]):=by
   refine aa.toEq ?_;unfold wI
   (dsimp only[go_sem])
   exact aa.n (aa.p (aa.some rfl))
  refine aa.loop (P:=fun x g=>g=_) ⟨2,0,_,.next A (.stop J),ab,rfl⟩ i_ ?_;rintro _ _ rfl
  (dsimp only[go_sem])
  have M:qU K C [.l (gO (cR c) rZ),.i 20,.i (rZ.length:Int)]=some [.l (gO (cR c) rZ)]:=by
   rw[F]; exact afa _ 20 20 ab ab
  refine aa.iy (aa.eq M) i_ ?_;rintro _ rfl
  (dsimp only[go_sem])
  refine aa.loop (I _ B) i_ ?_;rintro _ _ rfl;exact aa.some rfl
 ·have A:wI K C [.l rZ,.i (rZ.length:Int),.i 20,.i 0,.i 20]=some (some 0,[.l rZ,.i (rZ.length:Int),.i 20,.i 0]):=by
   refine aa.toEq ?_;unfold wI
   (dsimp only[go_sem])
   exact aa.n (aa.p (aa.some rfl))
  refine aa.loop (P:=fun x g=>g=_) ⟨1,0,_,.stop A,ab,rfl⟩ i_ ?_;rintro _ _ rfl
  (dsimp only[go_sem])
  refine aa.iy (aa.eq d) i_ ?_;rintro _ rfl
  (dsimp only[go_sem])
  refine aa.loop (I _ B) i_ ?_;rintro _ _ rfl;exact aa.some rfl
theorem afc(hC:ox K C Q c)(rZ:LL)(hr:∀y∈rZ,Q y)(hn:rZ.length<=20):Tl K C [.l rZ]=some [.l (gO (cR c) rZ)]:=by
 refine aa.toEq ?_;unfold Tl
 (dsimp only[go_sem])
 refine aa.iy (aa.eq (afb hC rZ hr hn)) i_ ?_;rintro _ rfl;exact aa.some rfl
end
def uG(K:List Kd)(Z:LG)(d:LG):bk:=
 (bif (ba (gi d 4).iV (((gi d 3).iV.toNat:Nat):Int)) then (bif ((eg (gi d 4).iV)&&(ba (gi d 4).iV (((gi d 3).iV.toNat:Nat):Int))) then (bif (decide (((gi d 2).iV.toNat+((gi d 4).iV).toNat)<(gi d 0).rZ.length)) then (bif (aM ((gi d 4).iV-1)) then (bif ((eg ((gi d 4).iV-1))&&(ba ((gi d 4).iV-1) (((gi d 3).iV.toNat:Nat):Int))) then (bif (decide (((gi d 2).iV.toNat+((gi d 4).iV-1).toNat)<(gi d 0).rZ.length)) then (bif (!(aK K (bu K ((gi d 0).rZ.getD ((gi d 2).iV.toNat+((gi d 4).iV).toNat) [])) (bu K ((gi d 0).rZ.getD ((gi d 2).iV.toNat+((gi d 4).iV-1).toNat) [])))) then (bif ((eg (gi d 4).iV)&&(ba (gi d 4).iV (((gi d 3).iV.toNat:Nat):Int))) then (bif (decide (((gi d 2).iV.toNat+((gi d 4).iV).toNat)<(gi d 0).rZ.length)) then (bif ((eg (gi d 1).iV)&&(ba (gi d 1).iV (((gi d 0).rZ.length:Nat):Int))) then (bif (decide ((0+((gi d 1).iV).toNat)<(gi d 0).rZ.length)) then (bif (aM ((gi d 1).iV+1)) then (bif (aM ((gi d 4).iV+1)) then (bif ((aA (gi d 0).rZ.length ((gi d 0).rZ.set (0+((gi d 1).iV).toNat) (iW K ((gi d 0).rZ.getD (0+((gi d 1).iV).toNat) []) 0 (bu K ((gi d 0).rZ.getD ((gi d 2).iV.toNat+((gi d 4).iV).toNat) [])))).length)&&true) then some (none,[.l ((gi d 0).rZ.set (0+((gi d 1).iV).toNat) (iW K ((gi d 0).rZ.getD (0+((gi d 1).iV).toNat) []) 0 (bu K ((gi d 0).rZ.getD ((gi d 2).iV.toNat+((gi d 4).iV).toNat) [])))),.i ((gi d 1).iV+1),.i (((gi d 2).iV.toNat:Nat):Int),.i (((gi d 3).iV.toNat:Nat):Int),.i ((gi d 4).iV+1)]) else none) else none) else none) else none) else none) else none) else none) else (bif (aM ((gi d 4).iV+1)) then (bif ((aA (gi d 0).rZ.length (gi d 0).rZ.length)&&true) then some (none,[.l (gi d 0).rZ,.i (gi d 1).iV,.i (((gi d 2).iV.toNat:Nat):Int),.i (((gi d 3).iV.toNat:Nat):Int),.i ((gi d 4).iV+1)]) else none) else none)) else none) else none) else none) else none) else none) else (bif ((aA (gi d 0).rZ.length (gi d 0).rZ.length)&&true) then some (some 0,[.l (gi d 0).rZ,.i (gi d 1).iV]) else none))
def sx(K:List Kd)(Z:LG)(d:LG):bk:=
 (bif (ba (gi d 1).iV (((gi d 0).rZ.length:Nat):Int)) then (bif ((eg (gi d 1).iV)&&(ba (gi d 1).iV (((gi d 0).rZ.length:Nat):Int))) then (bif (decide ((0+((gi d 1).iV).toNat)<(gi d 0).rZ.length)) then (bif (aM ((gi d 1).iV-1)) then (bif ((eg ((gi d 1).iV-1))&&(ba ((gi d 1).iV-1) (((gi d 0).rZ.length:Nat):Int))) then (bif (decide ((0+((gi d 1).iV-1).toNat)<(gi d 0).rZ.length)) then (bif (aK K (bu K ((gi d 0).rZ.getD (0+((gi d 1).iV).toNat) [])) (bu K ((gi d 0).rZ.getD (0+((gi d 1).iV-1).toNat) []))) then (bif ((eg (gi d 1).iV)&&(cw (gi d 1).iV (((gi d 0).rZ.length:Nat):Int))) then (bp ((aA (gi d 0).rZ.length (gi d 0).rZ.length)&&true) (bR (uG K Z) [.l (gi d 0).rZ,.i (gi d 1).iV,.i (((0+((gi d 1).iV).toNat):Nat):Int),.i ((((gi d 0).rZ.length-((gi d 1).iV).toNat):Nat):Int),.i 1]) fun q g=>(bif ((eg (gi g 1).iV)&&(cw (gi g 1).iV (((gi g 0).rZ.length:Nat):Int))) then (bif (bW ((0+((gi g 1).iV).toNat)+((gi g 0).rZ.length-((gi g 1).iV).toNat)) (gi g 0).rZ.length) then (bif ((eg (gi g 1).iV)&&(cw (gi g 1).iV (((gi g 0).rZ.length:Nat):Int))) then some (some 0,[.l ((gi g 0).rZ.take (0+((gi g 1).iV).toNat)++dz ((gi g 0).rZ.length-((gi g 1).iV).toNat) Z++(gi g 0).rZ.drop ((0+((gi g 1).iV).toNat)+((gi g 0).rZ.length-((gi g 1).iV).toNat))),.i (((((gi g 1).iV).toNat-0):Nat):Int)]) else none) else none) else none)) else none) else (bif (aM ((gi d 1).iV+1)) then (bif ((aA (gi d 0).rZ.length (gi d 0).rZ.length)&&true) then some (none,[.l (gi d 0).rZ,.i ((gi d 1).iV+1)]) else none) else none)) else none) else none) else none) else none) else none) else (bif ((aA (gi d 0).rZ.length (gi d 0).rZ.length)&&true) then some (some 1,[.l (gi d 0).rZ]) else none))
def zd(K:List Kd)(Z:LG)(d:LG):Option LG:=
 (bif (ba (((gi d 0).rZ.length:Nat):Int) 2) then some [.l (gi d 0).rZ,.i (((gi d 0).rZ.length:Nat):Int)] else (bp ((aA (gi d 0).rZ.length (gi d 0).rZ.length)&&true) (bR (sx K Z) [.l (gi d 0).rZ,.i 1]) fun q g=>(bif aA q 0 then some [.l (gi g 0).rZ,.i (((gi g 1).iV.toNat:Nat):Int)] else some [.l (gi g 0).rZ,.i (((gi g 0).rZ.length:Nat):Int)])))
def eI{α:Type}(e:α->α->Bool):α->List α->List α
 |_,[]=>[]
 |y,x::q=>bif e x y then eI e x q else x::eI e x q
def gG(e:α->α->Bool):List α->List α
 |[]=>[]
 |x::q=>x::eI e x q
theorem Mj{α:Type}{e:α->α->Bool}:∀{q:List α} {y z:α},z∈eI e y q->z∈q
 |x::q,y,z,h=>by
  simp only[eI]at h;cases he:e x y with
  |true=>rw[he]at h; exact cO _ (Mj h)
  |false=>
   rw[he]at h;rcases cy.1 h with rfl|h
   grind
   ·exact cO _ (Mj h)
theorem Tq{e:α->α->Bool}:∀{l:List α} {z:α},z∈gG e l->z∈l
 |x::q,z,h=>by
  rcases cy.1 h with rfl|h<;>grind[Mj]
section
variable {K:List Kd} {Z:LG} {Q:LG->Prop}
structure GA (K:List Kd) (Q:LG->Prop):Prop where
 eta:∀r,Q r->bu K r=r
theorem Mk(hC:GA K Q):∀(q kept M:LL) (y:LG) (lo len g:Nat),(∀z∈kept++M++y::q,Q z)->lo+g=kept.length+M.length+1->g+q.length=len->kept.length+M.length+q.length<100000->1<=g ->
  ∃m J,m<=q.length+1/\(kept++eI (aK K) y q++J).length=kept.length+M.length+1+q.length/\lZ (uG K Z) m [.l (kept++M++y::q),.i (kept.length:Int),.i (lo:Int),.i (len:Int),.i (g:Int)] 0 [.l (kept++eI (aK K) y q++J),.i ((kept++eI (aK K) y q).length:Int)]
 |[],kept,M,y,lo,len,g,B,h1,N,O,h4=>by
  refine⟨1,M++[y],ai,by simp[eI]; omega,.stop (aa.toEq ?_)⟩;simp only[fU]at N O;unfold uG
  (dsimp only[go_sem])
  (repeat first|refine aa.p ?_|refine aa.n ?_)
  grind[aa.some,eI]
 |x::q,kept,M,y,lo,len,g,B,h1,N,O,h4=>by
  simp only[cJ]at N O;have U:Q x:=B x ai;have hy:Q y:=B y ai;have g1:(kept++M++y::x::q).getD ((lo:Int).toNat+(g:Int).toNat) []=x:=by
   have e:kept++M++y::x::q=(kept++M++[y])++x::q:=ai;rw[e]; grind[sw]
  have g2:(kept++M++y::x::q).getD ((lo:Int).toNat+((g:Int)-1).toNat) []=y:=sw _ _ _ _ _ du;have hlen:(kept++M++y::x::q).length=kept.length+M.length+q.length+2:=du;cases he:(aK K) x y with
  |true=>
   obtain⟨m,J,hm,W,hr⟩:=Mk hC q kept (M++[y]) x lo len (g+1) (by simpa using B) du ab du ab;have e:eI (aK K) y (x::q)=eI (aK K) x q:=by simp[eI,he]
   refine⟨m+1,J,du,by rw[e,W]; simp; omega,.next (aa.toEq ?_) (by rw[e]; exact hr)⟩;unfold uG
   (dsimp only[go_sem])
   simp only[hlen,g1,g2,hC.eta x U,hC.eta y hy];(repeat first|refine aa.p ?_|refine aa.n ?_)
   simp_all[aa.some]
  |false=>
   obtain⟨I,A,e1,Y⟩:∃I A,(kept++M++y::x::q).set kept.length x=I++A++x::q/\(I=kept++[x]/\A.length=M.length/\∀z∈A,z∈M++[y]):=by
    cases M with
    |nil=>exact⟨kept++[x],[],ai,rfl,rfl,ai⟩
    |cons z M=>exact⟨kept++[x],M++[y],ai,rfl,ai,by simp; intro z d; rcases d with d|d<;>simp[d]⟩
   obtain⟨Y,F,e4⟩:=Y;subst Y;obtain⟨m,J,hm,W,hr⟩:=Mk hC q (kept++[x]) A x lo len (g+1) (by
    intro z d;simp only[cY,cy]at d;rcases d with((d|d)|d)|d|d
    grind
    grind
    ·have:=e4 z d
     simp only[cY,cy]at this;rcases this with h|h|h<;>simp_all
    grind
    simp_all) (by simp[F]; omega) ab (by simp[F]; omega) ab
   have e:kept++eI (aK K) y (x::q)=(kept++[x])++eI (aK K) x q:=by simp[eI,he]
   refine⟨m+1,J,du,by rw[e,W]; simp[F]; omega,.next (aa.toEq ?_) (by rw[e]; exact hr)⟩;have kx:x.length=K.length:=by rw[<-hC.eta x U,Gz]
   have hl2:((kept++[x])++A++x::q).length=kept.length+M.length+q.length+2:=by simp[F]; omega
   have e1:(kept++M++y::x::q).set (0+(kept.length:Int).toNat) x=(kept++[x])++A++x::q:=Er;unfold uG
   (dsimp only[go_sem])
   simp only[hlen,g1,g2,hC.eta x U,hC.eta y hy,Mi kx,e1,hl2];(repeat first|refine aa.p ?_|refine aa.n ?_)
   simp_all[aa.some]
theorem Tr(hC:GA K Q):∀(q p:LL) (y:LG),(∀z∈p++y::q,Q z)->p.length+q.length<99999 ->
  (∃m,m<=q.length+1/\eI (aK K) y q=q/\lZ (sx K Z) m [.l (p++y::q),.i ((p.length:Int)+1)] 1 [.l (p++y::q)]) \/
  ∃m J,m<=q.length+1/\(p++y::eI (aK K) y q++J).length=p.length+1+q.length/\lZ (sx K Z) m [.l (p++y::q),.i ((p.length:Int)+1)] 0 [.l (p++y::eI (aK K) y q++J),.i ((p++y::eI (aK K) y q).length:Int)]
 |[],p,y,d,A=>by
  refine .inl ⟨1,ai,rfl,.stop (aa.toEq ?_)⟩;simp only[fU]at A;unfold sx
  (dsimp only[go_sem])
  (repeat first|refine aa.p ?_|refine aa.n ?_)
  grind[aa.some]
 |x::q,p,y,d,A=>by
  simp only[cJ]at A;have M:Q x:=d x ai;have N:Q y:=d y ai;have O:(p++y::x::q).getD (0+((p.length:Int)+1).toNat) []=x:=by
   have e:p++y::x::q=(p++[y])++x::q:=ai;rw[e]; grind
  have U:(p++y::x::q).getD (0+((p.length:Int)+1-1).toNat) []=y:=sw _ _ _ _ _ (by simp<;>omega);have F:(p++y::x::q).length=p.length+q.length+2:=du;cases he:(aK K) x y with
  |true=>
   obtain⟨m,J,hm,B,hr⟩:=Mk hC q (p++[y]) [] x (p.length+1) (q.length+1) 1 (by simpa using d) ai ab du ab;have e:p++y::eI (aK K) y (x::q)=(p++[y])++eI (aK K) x q:=by simp[eI,he]
   have I:(((p++[y])++eI (aK K) x q)++J).length=p.length+q.length+2:=by rw[B]; simp; omega
   have W:((p++[y])++eI (aK K) x q).length<=p.length+q.length+2:=by rw[<-I]; simp
   have Y:lZ (uG K Z) m [.l (p++y::x::q),.i ((p.length:Int)+1),.i ((0+((p.length:Int)+1).toNat:Nat):Int),.i ((p.length+q.length+2-((p.length:Int)+1).toNat:Nat):Int),.i 1] 0 [.l ((p++[y])++eI (aK K) x q++J),.i (((p++[y])++eI (aK K) x q).length:Int)]:=by
    have a1:(((p++[y]).length:Nat):Int)=(p.length:Int)+1:=ai;have a2:((p.length+1:Nat):Int)=((0+((p.length:Int)+1).toNat:Nat):Int):=ab;have a3:((q.length+1:Nat):Int)=((p.length+q.length+2-((p.length:Int)+1).toNat:Nat):Int):=ab;rw[a1,a2,a3]at hr;simpa using hr
   refine .inr ⟨1,dz (p.length+q.length+2-((p++[y])++eI (aK K) x q).length) Z,ai,by rw[e,eL,atS]; simp at W|-; omega,.stop (aa.toEq ?_)⟩;rw[e];generalize hw:(p++[y])++eI (aK K) x q=w at *;unfold sx
   (dsimp only[go_sem])
   simp only[F,O,U,hC.eta x M,hC.eta y N];(repeat first|refine aa.p ?_|refine aa.n ?_)
   try simp only[he]
   (repeat first|refine aa.p ?_|refine aa.n ?_);refine aa.loop (P:=fun x g=>g=_) ⟨m,0,_,Y,ab,rfl⟩ i_ ?_;rintro _ _ rfl
   (dsimp only[go_sem])
   simp only[I];(repeat first|refine aa.p ?_|refine aa.n ?_)
   simp_all[aa.some]
  |false=>
   have e:eI (aK K) y (x::q)=x::eI (aK K) x q:=by simp[eI,he]
   have key:sx K Z [.l (p++y::x::q),.i ((p.length:Int)+1)]=some (none,[.l ((p++[y])++x::q),.i ((((p++[y]).length:Nat):Int)+1)]):=by
    refine aa.toEq ?_;unfold sx
    (dsimp only[go_sem])
    simp only[F,O,U,hC.eta x M,hC.eta y N];(repeat first|refine aa.p ?_|refine aa.n ?_)
    try simp only[he]
    (repeat first|refine aa.p ?_|refine aa.n ?_);refine aa.some ?_;simp
   rcases Tr hC q (p++[y]) x (by simpa using d) du with⟨m,hm,hc,hr⟩|⟨m,J,hm,B,hr⟩
   ·refine .inl ⟨m+1,du,by rw[e,hc],.next key ?_⟩
    grind
   ·have e':p++y::eI (aK K) y (x::q)=(p++[y])++x::eI (aK K) x q:=by rw[e]; simp
    refine .inr ⟨m+1,J,du,by rw[e',B]; simp; omega,.next key ?_⟩
    grind
theorem Ts(hC:GA K Q)(rZ:LL)(hr:∀y∈rZ,Q y)(hn:rZ.length<99999):aa (zd K Z [.l rZ]) fun g=>∃J,g=[.l (gG (aK K) rZ++J),.i ((gG (aK K) rZ).length:Int)]/\(gG (aK K) rZ++J).length=rZ.length:=by
 unfold zd
 (dsimp only[go_sem])
 match rZ,hr,hn with
 |[],_,_=>exact aa.p (aa.some ⟨[],rfl,rfl⟩)
 |[x],_,_=>exact aa.p (aa.some ⟨[],rfl,rfl⟩)
 |y::x::q,hr,hn=>
  simp only[cJ]at hn;refine aa.n ?_;rcases Tr hC (x::q) [] y (by simpa using hr) du with⟨m,hm,hc,hr⟩|⟨m,J,hm,d,hr⟩
  ·refine aa.loop (P:=fun x g=>x=1/\g=_) ⟨m,1,_,hr,by simp at hm; omega,rfl,rfl⟩ i_ ?_
   rintro _ _ ⟨rfl,rfl⟩;refine aa.n (aa.some ⟨[],?_,?_⟩)
   ·(dsimp only[go_sem])
    simp[gG,hc]
   ·simp[gG,hc]
  ·refine aa.loop (P:=fun x g=>x=0/\g=_) ⟨m,0,_,hr,by simp at hm; omega,rfl,rfl⟩ i_ ?_
   rintro _ _ ⟨rfl,rfl⟩;refine aa.p (aa.some ⟨J,?_,?_⟩)
   ·(dsimp only[go_sem])
    simp[gG]
   grind[gG]
structure Eqv (K:List Kd) (C:LG->Option LG) (Q:LG->Prop) (e:LG->LG->Bool):Prop where
 cmp:∀r s,Q r->Q s->C [.l [r],.l [s]]=some [.t (e r s)]
 eta:∀r,Q r->bu K r=r
variable {C:LG->Option LG} {ee:LG->LG->Bool}
end
def CA(K:List Kd)(C:LG->Option LG)(Z:LG)(cp:G->G)(d:LG):bk:=
 (bif (ba (gi d 3).iV (gi d 2).iV) then (bif ((eg (gi d 3).iV)&&(ba (gi d 3).iV (((gi d 0).rZ.length:Nat):Int))) then (az (C [.l [(bu K ((gi d 0).rZ.getD (((gi d 3).iV).toNat) []))],cp (gi d 1)]) fun g=>(bif (gi g 0).bV then some (some 0,[.i (gi d 3).iV]) else (bif (aM ((gi d 3).iV+1)) then some (none,[.l (gi d 0).rZ,cp (gi d 1),.i (gi d 2).iV,.i ((gi d 3).iV+1)]) else none))) else none) else some (some 1,[]))
def Tt(K:List Kd)(C:LG->Option LG)(Z:LG)(cp:G->G)(d:LG):Option LG:=
 (bp true (bR (CA K C Z cp) [.l (gi d 0).rZ,cp (gi d 1),.i (((gi d 0).rZ.length:Nat):Int),.i 0]) fun g q=>(bif aA g 0 then some [.i (gi q 0).iV] else some [.i (-1)]))
section
variable {K:List Kd} {Q:LG->Prop}
theorem Tu:∀(K:List Kd) (x:LG),(K.all fun k=>match k with | .list _=>false|_=>true)=true->aK K x x=true
 |[],_,_=>rfl
 |k::K,x,h=>by
  simp only[oZ,aR]at h;simp only[aK,Tu K _ h.2,fJ];cases k<;>simp only[nV,beq_self_eq_true]
  simp at h
end
section
variable {K:List Kd} {Z:LG} {Q:LG->Prop} {C:LG->Option LG} {cp:G->G} {cap:G} {p:LG->Bool}
structure GB (K:List Kd) (C:LG->Option LG) (cp:G->G) (cap:G) (Q:LG->Prop) (p:LG->Bool):Prop where
 cmp:∀r,Q r->C [.l [r],cap]=some [.t (p r)]
 eta:∀r,Q r->bu K r=r
 fix:cp cap=cap
theorem Tv(hC:GB K C cp cap Q p):∀(q w:LL),(∀z∈q,Q z)->w.length+q.length<100000 ->
  dU (CA K C Z cp) [.l (w++q),cap,.i ((w.length+q.length:Nat):Int),.i (w.length:Int)] (q.length+1) fun c g=>(c=0/\∃A x F,q=A++x::F/\(∀y∈A,p y=false)/\p x=true/\g=[.i ((w.length+A.length:Nat):Int)])\/c=1/\∀y∈q,p y=false
 |[],w,I,M=>by
  refine dU.stop (x:=1) (d':=[]) (aa.toEq ?_) (.inr ⟨rfl,ai⟩);unfold CA
  (dsimp only[go_sem])
  (repeat first|refine aa.p ?_|refine aa.n ?_);exact aa.some rfl
 |y::q,w,I,M=>by
  simp only[cJ]at M;have B:Q y:=I y ai;have N:(w++y::q).getD (w.length:Int).toNat []=y:=sw _ _ _ _ _ ai;have J:(w++y::q).length=w.length+q.length+1:=du;cases he:p y with
  |true=>
   refine dU.stop (x:=0) (d':=[.i (w.length:Int)]) (aa.toEq ?_) (.inl ⟨rfl,[],y,q,rfl,ai,he,ai⟩);unfold CA
   (dsimp only[go_sem])
   simp only[N,J,cJ,hC.eta y B,hC.fix];(repeat first|refine aa.p ?_|refine aa.n ?_);refine aa.cE (hC.cmp y B) ?_
   (dsimp only[go_sem])
   simp only[he];(repeat first|refine aa.p ?_|refine aa.n ?_);exact aa.some rfl
  |false=>
   have O:=Tv hC q (w++[y]) (fun z d=>I z (cO _ d)) du;refine dU.next (aa.toEq ?_) (O.mono ?_)
   ·unfold CA
    (dsimp only[go_sem])
    simp only[N,J,cJ,hC.eta y B,hC.fix];(repeat first|refine aa.p ?_|refine aa.n ?_);refine aa.cE (hC.cmp y B) ?_
    (dsimp only[go_sem])
    simp only[he];(repeat first|refine aa.p ?_|refine aa.n ?_);refine aa.some ?_;simp;omega
   ·rintro c g (⟨rfl,A,x,F,U,W,Y,h4⟩ | ⟨rfl,h⟩)
    ·refine .inl ⟨rfl,y::A,x,F,by simp[U],?_,Y,?_⟩
     ·intro z d
      rcases cy.1 d with rfl|d
      ·exact he
      ·exact W z d
     ·rw[h4]; simp; omega
    ·refine .inr ⟨rfl,?_⟩
     intro z d;rcases cy.1 d with rfl|d
     ·exact he
     ·exact h z d
theorem Tw(hC:GB K C cp cap Q p)(rZ:LL)(hr:∀ y∈rZ,Q y)(hn:rZ.length<100000) :
  aa (Tt K C Z cp [.l rZ,cap]) fun g=>(∃d x q,rZ=d++x::q/\(∀y∈d,p y=false)/\p x=true/\g=[.i (d.length:Int)])\/(∀y∈rZ,p y=false)/\g=[.i (-1)]:=by
 unfold Tt
 (dsimp only[go_sem])
 simp only[hC.fix];have h:=Tv (Z:=Z) hC rZ [] hr (by simpa using hn);have A:((0:Nat):Int)=0:=rfl;simp only[List.nil_append,fU,fC,A]at h;refine aa.loop (h.to ab) i_ ?_;rintro c g (⟨rfl,d,x,q,B,F,I,rfl⟩|⟨rfl,h⟩)
 ·(dsimp only[go_sem])
  (repeat first|refine aa.p ?_|refine aa.n ?_);exact aa.some (.inl ⟨d,x,q,B,F,I,rfl⟩)
 ·(repeat first|refine aa.p ?_|refine aa.n ?_)
  exact aa.some (.inr ⟨h,rfl⟩)
end
section
variable {K:List Kd} {Z:LG}
def parts(ps:List LL):LL:=ps.map fun p=>[.l p]
end
section sort
variable {α:Type} {lt:α->α->Bool}
theorem GC(x:α):∀ p:List α,(iK lt x p).Perm (x::p)
 |[]=>xT _
 |y::p=>by
  simp only[iK];cases lt x y with
  |true=>exact(List.Perm.cons y (GC x p)).trans (List.Perm.swap x y p)
  |false=>simp
theorem Tx:∀(r p:List α),(k_ lt p r).Perm (p++r)
 |[],p=>by simp[k_]
 |x::r,p=>by
  simp only[k_];refine(Tx r (iK lt x p)).trans ?_;refine(List.Perm.append_right r (GC x p)).trans ?_;simpa using(List.perm_middle (a:=x) (l₁:=p) (l₂:=r)).symm
theorem oy(l:List α):(gO lt l).Perm l:=by
 unfold gO;exact(List.reverse_perm _).trans (by simpa using Tx (lt:=lt) l [])
structure ir (lt:α->α->Bool) (Q:α->Prop):Prop where
 tr:∀a b c,Q a->Q b->Q c->lt a b=false->lt b c=false->lt a c=false
 GD:∀a b,Q a->Q b->lt a b=true->lt b a=false
variable {Q:α->Prop}
theorem Ty(q:ir lt Q){x:α}(A:Q x):∀{p:List α},(∀ y∈p,Q y)->p.Pairwise (fun a b=>lt a b=false)->(iK lt x p).Pairwise (fun a b=>lt a b=false)
 |[],_,_=>by simp[iK]
 |y::p,F,I=>by
  obtain⟨M,N⟩:=mV.1 I;have J:=F y dG;have B:∀z∈p,Q z:=fun z d=>F z (cO _ d);simp only[iK];cases g:lt x y with
  |true=>
   refine mV.2 ⟨fun z d=>?_,Ty q A B N⟩;rcases cy.1 ((GC x p).mem_iff.1 d)with rfl|d
   ·exact q.GD _ _ A J g
   grind
  |false=>
   refine mV.2 ⟨fun z d=>?_,I⟩;rcases cy.1 d with rfl|d
   ·exact g
   ·exact q.tr x y z A J (B z d) g (M z d)
theorem Tz(g:ir lt Q):∀{r p:List α},(∀ y∈p,Q y)->(∀ y∈r,Q y)->p.Pairwise (fun a b=>lt a b=false)->(k_ lt p r).Pairwise (fun a b=>lt a b=false)
 |[],_,_,_,d=>by simpa[k_]using d
 |x::r,p,A,hr,d=>by
  simp only[k_];refine Tz g (fun y q=>?_) (fun y q=>hr y (cO _ q)) (Ty g (hr x dG) A d)
  grind[GC]
theorem GF(d:ir lt Q){l:List α}(g:∀y∈l,Q y):(gO lt l).Pairwise (fun a b=>lt b a=false):=by
 unfold gO;rw[List.pairwise_reverse];exact Tz d ai g List.Pairwise.nil
theorem CB:∀{l r:List α},l.Perm r->(∀ a∈l,∀ b∈l,lt a b=false->lt b a=false->a=b)->l.Pairwise (fun a b=>lt b a=false)->r.Pairwise (fun a b=>lt b a=false)->l=r
 |[],r,d,_,_,_=>d.nil_eq
 |a::l,[],d,_,_,_=>by simpa using d.length_eq
 |a::l,b::r,d,g,q,A=>by
  obtain⟨U,B⟩:=mV.1 q;obtain⟨W,F⟩:=mV.1 A;have e:a=b:=by
   have I:b∈a::l:=d.symm.subset dG;have N:a∈b::r:=d.subset dG;rcases cy.1 I with e|O
   ·exact e.symm
   grind
  subst e;rw[CB ((List.perm_cons a).1 d) (fun x J y M=>g x (cO _ J) y (cO _ M)) B F]
end sort
theorem Ml{sp:gp}{tl:LG->bk}{aL:Nat}{d:LG}{r:Option Nat × LG}(aV:gq rZ aL=true)
  (h:∀b p,p.Perm rZ->sp.side d b=true/\∃g,dc sp.st sp.bJ p (sp.init d b)=some g/\tl g=some r):kX sp tl rZ aL d=some r:=by
 unfold kX;rw[aV];refine B5 fun b p q=>?_;obtain⟨A,g,B,F⟩:=h b p q
 grind
section
variable {α:Type} (f:α->Int)
end
section
variable {α:Type} {e:α->α->Bool}
theorem TA:∀{q:List α} {y z:α},(∀ a∈y::q,∀ b∈y::q,e a b=true->a=b)->z∈q->z=y\/z∈eI e y q
 |x::q,y,z,he,h=>by
  simp only[eI];have A:z∈q->z=x\/z∈eI e x q:=fun h=>TA (fun a d b g=>he a (cO _ d) b (cO _ g)) h
  grind
theorem afd{l:List α}(he:∀a∈l,∀b∈l,e a b=true->a=b){z:α}:z∈gG e l↔z∈l:=by
 refine⟨Tq,fun h=>?_⟩;cases l<;>grind[gG,TA]
theorem Mm:∀(q:List α) (y:α),(eI e y q).Sublist q
 |[],_=>List.Sublist.slnil
 |x::q,y=>by
  simp only[eI];cases e x y with
  |true=>exact(Mm q x).cons x
  |false=>exact(Mm q x).cons_cons x
theorem afe(l:List α):(gG e l).Sublist l:=by
 cases l with
 |nil=>exact List.Sublist.slnil
 |cons x q=>exact(Mm q x).cons_cons x
theorem Mn(hs:∀ a b c:α,e a b=true->e b c=true->e a c=true):∀{q p r:List α} {y a b:α},y::eI e y q=p++a::b::r->(∀ x∈y::q,e x x=true)->(∀ x∈y::q,∀ z∈y::q,e x z=true->x=z)->e b a=false
 |[],p,r,y,a,b,h,_,_=>by
  simp only[eI]at h;have:=congrArg List.length h
  grind
 |x::q,p,r,y,a,b,h,hr,he=>by
  simp only[eI]at h;cases g:e x y with
  |true=>
   rw[g]at h;simp only[cT]at h;have B:=he x ai y ai g;subst B;exact Mn hs h (fun z d=>hr z (cO _ d)) (fun z d w A=>he z (cO _ d) w (cO _ A))
  |false=>
   rw[g]at h;simp only[cF]at h;cases p with
   |nil=>
    grind
   |cons c p=>
    simp only[List.cons_append,Jk]at h;exact Mn hs h.2 (fun z d=>hr z (cO _ d)) (fun z d w A=>he z (cO _ d) w (cO _ A))
end
section
variable {K:List Kd} {C:LG->Option LG} {Q:LG->Prop} {c:LG->LG->Int}
end
theorem TB{R:LG->LG->Prop}(tr:∀ a b c,R a b->R b c->R a c):∀{l:LL},(∀ k,1<=k->k<l.length->R (l.getD (k-1) []) (l.getD k []))->l.Pairwise R
 |[],_=>List.Pairwise.nil
 |[x],_=>by simp
 |x::y::l,h=>by
  have g:R x y:=h 1 ab ai;have q:=TB tr (l:=y::l) (fun k B A=>by
   have:=h (k+1) ab (by simpa using A);obtain⟨k,rfl⟩:∃j,k=j+1:=⟨k-1,ab⟩
   grind)
  refine mV.2 ⟨fun z d=>?_,q⟩;rcases cy.1 d with rfl|d
  ·exact g
  ·exact tr _ _ _ g ((mV.1 q).1 z d)
theorem aff{R:LG->LG->Prop}{l:LL}(h:l.Pairwise R)(k:Nat)(g:1<=k)(d:k<l.length):R (l.getD (k-1) []) (l.getD k []):=by
 have:=List.pairwise_iff_getElem.1 h (k-1) k ab d ab
 grind
theorem afg{e:LG->LG->Bool}{R:LG->LG->Prop}(tr:∀ a b c,R a b->R b c->R a c){l:LL}(hr:∀ x∈l,e x x=true)(hs:∀ a b c:LG,e a b=true->e b c=true->e a c=true)
  (he:∀x∈l,∀y∈l,e x y=true->x=y) (A:l.Pairwise fun a b=>a=b\/R a b):(gG e l).Pairwise R:=by
 refine TB tr fun k B d=>?_;cases l with
 |nil=>simp[gG]at d
 |cons x q=>
  have I:=aff (auV (afe (e:=e) (x::q)) A) k B d;have F:k-1<(gG e (x::q)).length:=ab;have g:gG e (x::q)=(gG e (x::q)).take (k-1)++(gG e (x::q)).getD (k-1) []::(gG e (x::q)).getD k []::(gG e (x::q)).drop (k+1):=by
   obtain⟨j,rfl⟩:∃j,k=j+1:=⟨k-1,ab⟩
   simp only[Nat.add_sub_cancel,dj,bT d,bT (show j<(gG e (x::q)).length by omega),Option.getD_some];simp
  have J:=Mn (e:=e) hs (q:=q) (y:=x) (p:=(gG e (x::q)).take (k-1)) (a:=(gG e (x::q)).getD (k-1) []) (b:=(gG e (x::q)).getD k []) (r:=(gG e (x::q)).drop (k+1)) g hr he
  grind[Tq]
section
variable {C:LG->Option LG} {Q:LG->Prop} {c:LG->LG->Int}
theorem ir.mono{lt:α->α->Bool}{Q B:α->Prop}(h:ir lt Q)(g:∀a,B a->Q a):ir lt B:=
 ⟨fun a b d q A F=>h.tr a b d (g a q) (g b A) (g d F),fun a b q A=>h.GD a b (g a q) (g b A)⟩
theorem Mo{α β:Type}{f:α->β}:∀{l:List α},l.Pairwise (fun a b=>f a≠f b)->∀ a∈l,∀ b∈l,f a=f b->a=b
 |[],_,a,g,_,_,_=>by cases g
 |x::l,h,a,g,b,B,e=>by
  obtain⟨F,J⟩:=mV.1 h;rcases cy.1 g with I|A
  ·rcases cy.1 B with q | d
   ·rw[I,q]
   ·exact(F b d (I▸e)).elim
  ·rcases cy.1 B with q | d
   ·exact(F a A (q▸e.symm)).elim
   ·exact Mo J a A b d e
def ze(C:LG->Option LG)(Q:LG->Prop)(c:LG->LG->Int):Prop:=∀r s,Q r->Q s->∃v,C [.l [r],.l [s]]=some [.i v]/\(v<0↔c r s<0)
theorem ox.GG(h:ox K C Q c):ze C Q c:=fun r s hr hs=>⟨_,h.cmp r s hr hs,Iff.rfl⟩
end
end Go.AL

namespace Go.AL
open Go Go.Proofs
variable [Dr]
variable {C:LG->Option LG} {Q:LG->Prop} {c:LG->LG->Int}
theorem TC(hC:ze C Q c){r s:LG}(hr:Q r)(hs:Q s):decide (Ci C r s<0)=cR c r s:=by
 obtain⟨v,h,d⟩:=hC r s hr hs;unfold Ci cR;rw[h,dX];show decide (v<0)=_
 grind
theorem wJ(hC:ze C Q c){rZ:LL}(hr:∀y∈rZ,Q y)(d:rZ≠[])(i j:Nat):ltOf (qP C rZ) i j=cR c (iY rZ i) (iY rZ j):=
 TC hC (hr _ (Cj d i)) (hr _ (Cj d j))
theorem afh(hC:ze C Q c)(q:ir (cR c) Q){rZ:LL}(hr:∀y∈rZ,Q y)(g:rZ≠[])(hn:rZ.length<100000):wD C rZ:=by
 have d:=fun i=>hr _ (Cj g i);refine⟨fun r h s h'=>by obtain⟨v,e,_⟩:=hC r s (hr r h) (hr s h'); grind,⟨fun x=>?_,fun x y z=>?_,fun x y z=>?_⟩,ab⟩
 ·rw[wJ hC hr g]
  cases h:cR c (iY rZ x) (iY rZ x)with
  |false=>rfl
  |true=>rw[q.GD _ _ (d x) (d x) h]at h; cases h
 ·rw[wJ hC hr g,wJ hC hr g,wJ hC hr g]
  intro B A;cases h:cR c (iY rZ x) (iY rZ z)with
  |true=>rfl
  |false=>
   have:=q.tr _ _ _ (d x) (d z) (d y) h (q.GD _ _ (d y) (d z) A)
   grind
 ·rw[wJ hC hr g,wJ hC hr g,wJ hC hr g]
  exact q.tr _ _ _ (d x) (d y) (d z)
theorem afi(hC:ze C Q c)(q:ir (cR c) Q)(rZ:LL)(hr:∀ y∈rZ,Q y)(hn:rZ.length<100000) :
  ∃out,sr C [.l rZ]=some [.l out]/\out.Perm rZ/\out.Pairwise fun a b=>cR c b a=false:=by
 unfold sr;have e:(gi [G.l rZ] 0).rZ=rZ:=rfl;rw[e];by_cases g:rZ=[]
 simp_all
 ·have aV:=afh hC q hr g hn
  rw[iN g,iP aV];have d:=SJ aV;refine⟨_,rfl,d,?_⟩;refine auW ?_ (aee aV);intro a b A B h;rw[<-TC hC (hr b (d.mem_iff.1 B)) (hr a (d.mem_iff.1 A)),dF];exact h
theorem GH(hC:ze C Q c)(g:ir (cR c) Q)(rZ:LL)(hr:∀ y∈rZ,Q y)(hn:rZ.length<100000)(q:∀ a∈rZ,∀ b∈rZ,cR c a b=false->cR c b a=false->a=b) :
  sr C [.l rZ]=some [.l (gO (cR c) rZ)]:=by
 obtain⟨out,h,d,hs⟩:=afi hC g rZ hr hn;rw[h,CB (d.trans (oy (lt:=cR c) rZ).symm) (fun a A b B=>q a (d.mem_iff.1 A) b (d.mem_iff.1 B)) hs (GF g hr)]
open Go
noncomputable abbrev CC(r:LG):Int:=(gi r 0).iV
noncomputable abbrev wK(r:LG):Int:=(gi r 1).iV
def IsR(r:LG):Prop:=r=[.i (CC r),.i (wK r)]/\CC r<wK r
def TD(l:LL)(n:Int):Prop:=∃r∈l,CC r<=n/\n<wK r
def afk(l:LL):Prop:=(∀r∈l,IsR r)/\l.Pairwise fun r s=>wK r<CC s
structure auA (out:LL) (a b:Int) (os:LL) (ps:LL) (f:Int):Prop where
 low:a<=f
 at_:f=a\/∃o∈os,f=wK o
 cf:∀o∈os,wK o<=f\/b<=CC o
 mem:∀n,TD ps n↔a<=n/\n<f/\n<b/\¬ TD os n
 can:afk (out++ps)
 gap:∀s∈out++ps,wK s<f
 many:ps.length<=os.length
theorem oz(x y:List UInt8)(r:List (List UInt8))(d:List UInt8):dZ (x::y::r) d=x++(d++dZ (y::r) d):=by
 rw[atT,atT];simp[Lib.joinTail]
theorem Mp{c:UInt8}(r:List UInt8):∀{p:List UInt8},c∉p->mW (p++c::r) c=p.length
 |[],_=>by
  show mW (c::r) c=_
  unfold mW;rw[iP ai];rfl
 |b::p,h=>by
  have d:¬ b=c:=fun e=>h (e▸dG);have g:=Mp r (p:=p) fun q=>h (cO b q);show mW (b::(p++c::r)) c=_
  unfold mW;rw[iN (by simpa using d),g,iN ai];simp
theorem TE(c:UInt8):∀(g:List (List UInt8)) (x:List UInt8),(∀ y∈x::g,c∉y)->Lib.splitK [c] 0 g.length (dZ (x::g) [c])=x::g
 |[],x,_=>by
  rw[Pv];rfl
 |y::d,x,h=>by
  have q:=h x dG;have A:=TE c d y fun z B=>h z (cO x B);rw[oz,cJ];have hi:Lib.index (x++([c]++dZ (y::d) [c])) [c]=x.length:=by rw[Lib.index_one]; exact Mp _ q
  unfold Lib.splitK;rw[hi,iN ai];have F:(x++([c]++dZ (y::d) [c])).take ((x.length:Int).toNat+0)=x:=ai;have I:(x++([c]++dZ (y::d) [c])).drop ((x.length:Int).toNat+[c].length)=dZ (y::d) [c]:=by
   rw[<-List.append_assoc];simp
  rw[F,I,A]
theorem TF(c:UInt8):∀(d:List (List UInt8)) (x:List UInt8),(∀ y∈x::d,c∉y)->(dZ (x::d) [c]).count c=d.length
 |[],x,h=>by
  rw[Pv];exact vw.2 (h x dG)
 |y::g,x,h=>by
  have q:=h x dG;have A:=TF c g y fun z B=>h z (cO x B);rw[oz,Pw,Pw,A,vw.2 q];simp;omega
theorem TG(b:BY):(⟨b.data.toList.toArray⟩:BY)=b:=by cases b; simp
theorem afl{s:BY}{c:UInt8}{x:List UInt8}{d:List (List UInt8)}(hs:s.data.toList=dZ (x::d) [c])(h:∀ y∈x::d,c∉y) :
  y6 s ⟨#[c]⟩=(x::d).map fun y=>[G.s ⟨y.toArray⟩]:=by
 have hc:Lib.countB s ⟨#[c]⟩=d.length:=by
  show Lib.count s.data.toList [c]=_
  rw[Lib.count_one,hs,TF c d x h]
 have g:(Lib.splitB ⟨#[c]⟩ 0 d.length s).map (·.data.toList)=x::d:=by
  rw[Lib.splitB_data,hs];exact TE c d x h
 unfold y6;rw[hc,<-g,List.map_map];refine List.map_congr_left fun b _=>?_;simp[TG]
theorem TH{p:Nat->Prop}(dI0:∀u,u<10->p u)(dI1:∀u,10<=u->p (u / 10)->p u)(u:Nat):p u:=by
 induction u using Nat.strongRecOn with
 |_ u d=>
  by_cases h:u<10
  ·exact dI0 u h
  ·exact dI1 u ab (d (u / 10) ab)
theorem sA{u:Nat}(h:u<10):lT u=[Js (48+u)]:=by rw[lT,dif_pos h]
theorem GI{u:Nat}(h:10<=u):lT u=lT (u / 10)++[Js (48+u%10)]:=by rw[lT,dif_neg ab]
theorem afm{k:Nat}(h:k<10):(Js (48+k)).toNat=48+k:=by
 rw[UInt8.toNat_ofNat'];omega
theorem afn(u:Nat):lT u≠[]:=by
 induction u using TH with
 |dI0 u h=>rw[sA h]; simp
 |dI1 u h d=>rw[GI h]; simp
theorem TI(u:Nat):(lT u).head?=some 48->u=0:=by
 induction u using TH with
 |dI0 u h=>
  intro e;rw[sA h]at e;simp only[List.head?_cons,bQ]at e;have:=congrArg UInt8.toNat e;rw[afm h]at this;simp at this;exact this
 |dI1 u h d=>
  intro e;rw[GI h,List.head?_append]at e;cases g:lT (u / 10)with
  |nil=>exact(afn _ g).elim
  |cons b r=>
   rw[g]at e d;have:=d (by simpa using e);omega
theorem GJ:∀(k u:Nat),u<10 ^ (k+1)->(lT u).length<=k+1
 |0,u,h=>by rw[sA (by simpa using h)]; simp
 |k+1,u,h=>by
  by_cases d:u<10
  ·rw[sA d]; simp
  ·have:=GJ k (u / 10) (by rw[Nat.div_lt_iff_lt_mul ab]; rw[atV]at h; exact h)
   rw[GI ab];simp;omega
theorem TJ{α:Type}{p:α->Bool}:∀{l:List α},(∀ b∈l,p b=true)->l.dropWhile p=[]
 |[],_=>rfl
 |b::l,h=>by
  rw[List.dropWhile_cons,iP (h b dG)];exact TJ fun x d=>h x (cO b d)
theorem afo{l cs:List UInt8}(h:∀b∈l,cs.contains b=true):AY l cs=[]:=by
 unfold AY Lib.trimRightS;rw[TJ fun b d=>h b (List.mem_reverse.1 d)];rfl
def wM(l:List UInt8):Prop:=l≠[]/\∀b∈l,b≠32/\b≠10
def dC(d:List (List UInt8)):List UInt8:=dZ d [32]++[10]
def fG (d:List (List (List UInt8))):List UInt8:=(d.map dC).flatten
theorem afp (d:List (List (List UInt8))) (g:List (List UInt8)):fG (d++[g])=fG d++dC g:=by
 simp[fG]
def gU(b:UInt8):Bool:=bW 48 b.toNat&&bW b.toNat 57
def oA(b:UInt8):Nat:=b.toNat-48
def dD(t:List UInt8):Nat:=t.foldl (fun a b=>a*10+oA b) 0
theorem digitVal_eq{b:UInt8}(h:gU b=true):atW b=some (oA b):=by
 unfold gU at h;simp only[aR,fh]at h;unfold atW;rw[iP h];rfl
theorem Mq:∀(t:List UInt8) (a:Nat),t.all gU=true->atX a t=some (t.foldl (fun a b=>a*10+oA b) a)
 |[],_,_=>rfl
 |b::t,a,h=>by
  rw[oZ,aR]at h;unfold atX;rw[digitVal_eq h.1];exact Mq t _ h.2
theorem TK{b:UInt8}(h:gU b=true):b≠45/\b≠43:=by
 unfold gU at h;simp only[aR,fh]at h;constructor<;>(intro e; rw[e]at h; simp at h)
theorem TL{t:List UInt8}(g:t≠[])(h:t.all gU=true):Lib.atoi t=some (dD t:Int):=by
 cases t with
 |nil=>exact(g rfl).elim
 |cons b r=>
  have d:gU b=true:=by rw[oZ,aR]at h; exact h.1
  show (if b==45 then (xU r).map fun(m:Nat)=>-(m:Int) else if b==43 then (xU r).map fun(m:Nat)=>(m:Int) else (xU (b::r)).map fun(m:Nat)=>(m:Int))=_
  rw[iN (by simpa using(TK d).1),iN (by simpa using(TK d).2)];unfold xU;rw[iN ai,Mq _ _ h];rfl
theorem afq{t:List UInt8}(d:t≠[])(h:t.all gU=true):Lib.atoi (45::t)=some (-(dD t:Int)):=by
 show (if (45:UInt8)==45 then (xU t).map fun(m:Nat)=>-(m:Int) else if (45:UInt8)==43 then (xU t).map fun(m:Nat)=>(m:Int) else (xU (45::t)).map fun(m:Nat)=>(m:Int))=_
 rw[iP (by rfl)];unfold xU;rw[iN (by simpa using d),Mq _ _ h];rfl
theorem TM(t:List UInt8)(b:UInt8):dD (t++[b])=dD t*10+oA b:=by simp[dD]
theorem TN:∀(k:Nat) (t:List UInt8),t.all gU=true->t.length<=k->dD t<10 ^ k:=by
 intro k
 induction k with
 |zero=>
  intro t _ d;have:t=[]:=rE ab;subst this;simp[dD]
 |succ k q=>
  intro t h d;rcases AZ t with rfl|⟨t',b,e⟩
  ·simp only[dD,List.foldl_nil]
   exact Nat.pow_pos ab
  ·rw[A0]at e
   subst e;rw[Px,aR]at h;have g:gU b=true:=by simpa using h.2
   unfold gU at g;simp only[aR,fh]at g;have:=q t' h.1 (by simp at d; omega);rw[TM,atV];unfold oA;omega
theorem canon:∀(k:Nat) (t:List UInt8),t.length=k->t≠[]->t.all gU=true->(t.head?≠some 48\/t=[48])->lT (dD t)=t:=by
 intro k
 induction k with
 |zero=>exact fun t d g=>(g (rE d)).elim
 |succ k J=>
  intro t d g h hc;rcases AZ t with rfl|⟨t',b,e⟩
  ·exact(g rfl).elim
  ·rw[A0]at e
   subst e;rw[Px,aR]at h;have M:gU b=true:=by simpa using h.2
   have q:=M;unfold gU at q;simp only[aR,fh]at q;have A:Js (48+oA b)=b:=by
    unfold oA;rw[show 48+(b.toNat-48)=b.toNat by omega,UInt8.ofNat_toNat]
   have I:oA b<10:=by unfold oA; omega
   rw[TM];cases t' with
   |nil=>
    have:dD []=0:=rfl;rw[this,Nat.zero_mul,fC,sA I,A];rfl
   |cons x r=>
    have B:x≠48:=by
     rcases hc with hc|hc
     ·simpa using hc
     ·simp at hc
    have e:=J (x::r) (by simpa using d) ai h.1 (.inl (by simpa using B));have F:dD (x::r)≠0:=fun F=>by
     rw[F,sA ab]at e;simp at e;exact B e.1.symm
    rw[GI ab,show (dD (x::r)*10+oA b) / 10=dD (x::r) by omega,show (dD (x::r)*10+oA b)%10=oA b by omega,e,A]
def l8(d:Nat)(w:List UInt8):Option Int:=
 match w with
 |45::t=>if t≠[]/\t.length<=d/\t.all gU=true/\t.head?≠some 48 then some (-(dD t:Int)) else none
 |t=>if t≠[]/\t.length<=d/\t.all gU=true/\(t.head?≠some 48\/t=[48]) then some (dD t:Int) else none
end Go.AL
