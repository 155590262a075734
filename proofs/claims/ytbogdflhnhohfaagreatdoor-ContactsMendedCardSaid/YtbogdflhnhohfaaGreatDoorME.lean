/-
 What is proved here: rules by which lifted functions are shown to give what they should. No program in sight; no condition.
-/
import Derived.Test.YtbogdflhnhohfaaGreatDoorMD
import Derived.Test.YtbogdflhnhohfaaGreatDoorMH
set_option linter.all false
open Bool renaming and_true->gX,and_eq_true->aK,eq_iff_iff->nf
open List renaming length_cons->cn,getElem?_eq_getElem->bZ,getD_eq_getElem?_getD->cd,mem_cons->cq,length_append->fu,mem_append->db,replicate->cB,mem_cons_self->cX,mem_cons_of_mem->dp,drop_eq_nil_of_le->KT,length_replicate->sW,length_nil->km,pairwise_cons->s_
open List.Pairwise renaming imp_of_mem->anb
open List.Perm renaming refl->yx
open Nat renaming le_refl->aM,beq->aG
namespace Go.AL
open Go
variable [Dr]
def aa{β:Type}(x:Option β)(Q:β->Prop):Prop:=∃ r,x=some r/\Q r
def lp(st:LG->Option (Option Nat × LG))(d:LG)(Q:Nat->LG->Prop):Prop:=∃ n x g,ln st n d x g/\n<=1000000/\Q x g
namespace aa
variable {β:Type} {Q:β->Prop}
def some{r:β}(h:Q r):aa (some r) Q:=⟨r,rfl,h⟩
def pos{b:Bool}{x y:Option β}(h:b=true)(d:aa x Q):aa (bif b then x else y) Q:=by subst h; exact d
def neg{b:Bool}{x y:Option β}(h:b=false)(d:aa y Q):aa (bif b then x else y) Q:=by subst h; exact d
def test{b:Bool}{x y:Option β}(d:b=true->aa x Q)(g:b=false->aa y Q):aa (bif b then x else y) Q:=by
 cases b with
 |true=>exact d rfl
 |false=>exact g rfl
def call{t:Option LG}{k:LG->Option β}{P:LG->Prop}(h:aa t P)(d:∀ g,P g->aa (k g) Q):aa (aB t k) Q:=by
 obtain⟨r,h,q⟩:=h;subst h;exact d r q
def l4{c:Bool}{t:Option LG}{k:LG->Option β}{P:LG->Prop}(h:aa t P)(d:c=true)(q:∀ g,P g->aa (k g) Q):aa (jf (c&&t.isSome) t k) Q:=by
 obtain⟨r,h,v⟩:=h;subst h d;exact q r v
def loop{c:Bool}{st:LG->Option (Option Nat × LG)}{d:LG}{k:Nat->LG->Option β}{P:Nat->LG->Prop}(h:lp st d P)(q:c=true)(v:∀ x g,P x g->aa (k x g) Q):aa (ba c (bN st d) k) Q:=by
 obtain⟨n,x,y,h,hn,I⟩:=h;rw[h.ZL hn];subst q;exact v x y I
def tail{c:Bool}{t:Option (Option Nat × LG)}{k:Nat->LG->Option β}{P:Nat->LG->Prop}(h:aa t fun o=>∃ x,o.1=Option.some x/\P x o.2)(v:c=true)(y:∀ x g,P x g->aa (k x g) Q) :
  aa (ba c (cW t) k) Q:=by
 obtain⟨⟨o,d⟩,rfl,x,q,I⟩:=h;simp only at q;subst q v;exact y x d I
def mono{x:Option β}{P:β->Prop}(h:aa x P)(d:∀ r,P r->Q r):aa x Q:=by
 obtain⟨r,h,g⟩:=h;exact⟨r,h,d r g⟩
def eq{x:Option β}{r:β}(h:x=Option.some r):aa x (fun g=>g=r):=⟨r,h,rfl⟩
def toEq{x:Option β}{r:β}(h:aa x (fun g=>g=r)):x=Option.some r:=by
 obtain⟨d,h,rfl⟩:=h;exact h
end aa
def lp.stop{st:LG->Option (Option Nat × LG)}{d d':LG}{x:Nat}{Q:Nat->LG->Prop}(h:st d=some (some x,d'))(g:Q x d'):lp st d Q:=⟨1,x,d',.stop h,by omega,g⟩
def a6(st:LG->Option (Option Nat × LG))(d:LG)(m:Nat)(Q:Nat->LG->Prop):Prop:=∃ n x g,ln st n d x g/\n<=m/\Q x g
def a6.stop{st:LG->Option (Option Nat × LG)}{d d':LG}{x m:Nat}{Q:Nat->LG->Prop}(h:st d=some (some x,d'))(g:Q x d'):a6 st d (m+1) Q:=⟨1,x,d',.stop h,by omega,g⟩
def a6.next{st:LG->Option (Option Nat × LG)}{d d1:LG}{m:Nat}{Q:Nat->LG->Prop}(h:st d=some (none,d1))(g:a6 st d1 m Q):a6 st d (m+1) Q:=by
 obtain⟨n,x,k,h1,v,q⟩:=g;exact⟨n+1,x,k,.next h h1,by omega,q⟩
def a6.to{st:LG->Option (Option Nat × LG)}{d:LG}{m:Nat}{Q:Nat->LG->Prop}(h:a6 st d m Q)(hm:m<=1000000):lp st d Q:=by
 obtain⟨n,x,g,h1,q,k⟩:=h;exact⟨n,x,g,h1,by omega,k⟩
def lp.mono{st:LG->Option (Option Nat × LG)}{d:LG}{P Q:Nat->LG->Prop}(h:lp st d P)(k:∀ x g,P x g->Q x g):lp st d Q:=by
 obtain⟨n,x,q,h1,v,y⟩:=h;exact⟨n,x,q,h1,v,k _ _ y⟩
def a6.mono{st:LG->Option (Option Nat × LG)}{d:LG}{m:Nat}{P Q:Nat->LG->Prop}(h:a6 st d m P)(k:∀ x g,P x g->Q x g):a6 st d m Q:=by
 obtain⟨n,x,q,h1,v,y⟩:=h;exact⟨n,x,q,h1,v,k _ _ y⟩
def aay{p:Prop}{i:Decidable p}:(@decide p i=true)↔p:=by simp
def aaz{p:Prop}{i:Decidable p}:(@decide p i=false)↔¬ p:=by simp
def aaA{a b:Nat}:aG a b=true↔a=b:=⟨Nat.eq_of_beq_eq_true,fun h=>h▸Nat.beq_refl a⟩
def Aa(a:G)(l:LG):gi (a::l) 0=a:=rfl
def Ab(a:G)(l:LG)(i:Nat):gi (a::l) (i+1)=gi l i:=rfl
def Ac(r:LG)(l:LL):(G.l (r::l)).rV=r:=rfl
def Ad(l:LL):(G.l l).rZ=l:=rfl
def Ae(n:Int):(G.i n).iV=n:=rfl
def Af(s:BY):(G.s s).sV=s:=rfl
def Ag(b:Bool):(G.t b).bV=b:=rfl
attribute [go_sem] Aa Ab Ac Ad Ae Af Ag
def sl:(∀ a b:Int,aO a b=decide (a<b))/\(∀ a b:Int,bp a b=decide (a<=b))/\(∀ n:Int,cJ n=decide (0<=n))/\(∀ b:Bool,(b&&true)=b)/\(∀ b:Bool,(true&&b)=b) /\
  (∀ a b:Bool,((a&&b)=true)=(a=true/\b=true))/\(∀ a b:Bool,((a&&b)=false)=(a=false\/b=false))/\(∀(p:Prop) (i:Decidable p),(@decide p i=true)=p)/\(∀(p:Prop) (i:Decidable p),(@decide p i=false)=¬ p) /\
  (∀ b:Bool,((!b)=true)=(b=false))/\(∀ b:Bool,((!b)=false)=(b=true))/\(∀ a b:Int,((a==b)=true)=(a=b))/\(∀ a b:Int,((a==b)=false)=¬ (a=b))/\(∀ a b:Int,((a != b)=true)=¬ (a=b))/\(∀ a b:Int,((a != b)=false)=(a=b)) /\
  (∀(α:Type) (a b:α),(a≠b)=¬ (a=b))/\(∀ a b:Nat,(aG a b=true)=(a=b))/\(∀ a b:Nat,(Nat.ble a b=true)=(a<=b))/\(∀ a b:Nat,(Nat.blt a b=true)=(a<b)) /\
  (∀(l:LL) (i:Nat) (x:LG),(l.set i x).length=l.length)/\(∀(α:Type) (l r:List α),(l++r).length=l.length+r.length)/\(∀(n:Nat) (x:LG),(cB n x).length=n) /\
  (∀(α:Type) (x:α) (l:List α),(x::l).length=l.length+1)/\(∀ α:Type,([]:List α).length=0)/\(∀(l:LL) (n:Nat),(l.take n).length=min n l.length)/\(∀(l:LL) (n:Nat),(l.drop n).length=l.length-n) /\
  (∀ n:Nat,((n:Int)).toNat=n)/\(∀ p:Prop,(True/\p)=p)/\(∀ p:Prop,(p/\True)=p)/\(∀ a b:Bool,((a==b)=true)=(a=b)) :=
 ⟨cK, eX, jM, gX, Bool.true_and, aK, fun a b => by cases a <;> cases b <;> simp, fun _ _ => propext aay, fun _ _ => propext aaz, fun b => by cases b <;> simp, fun b => by cases b <;> simp,
  fun a b=>by simp,fun a b=>by simp,fun a b=>by simp,fun a b=>by simp,fun _ a b=>rfl,fun a b=>propext aaA,fun a b=>by simp,fun a b=>by simp,fun l i x=>List.length_set,fun _ l r=>fu,fun n x=>sW,
  fun _ x l=>rfl,fun _=>rfl,fun l n=>List.length_take,fun l n=>List.length_drop,fun n=>Int.toNat_natCast n,fun p=>true_and p,fun p=>and_true p,fun a b=>by cases a<;>cases b<;>simp⟩
def aa.p{β:Type}{Q:β->Prop}{b:Bool}{x y:Option β}(d:aa x Q)(h:b=true:=by first|rfl|assumption|(simp only[ay,sl]<;>omega)):aa (bif b then x else y) Q:=aa.pos h d
def aa.n{β:Type}{Q:β->Prop}{b:Bool}{x y:Option β}(d:aa y Q)(h:b=false:=by first|rfl|assumption|(simp only[ay,sl]<;>omega)):aa (bif b then x else y) Q:=aa.neg h d
def aa.cE{β:Type}{Q:β->Prop}{t:Option LG}{r:LG}{k:LG->Option β}(h:t=Option.some r)(d:aa (k r) Q):aa (aB t k) Q:=aa.call (aa.eq h) fun _ e=>by subst e; exact d

end Go.AL

namespace Go.AL
open Go
variable [Dr]
def Pc{v:Type}{st:LG->Option (Option Nat × LG)}(mk:v->Nat->LG)(n:Nat)(d:v->Nat × LG)(I:v->Nat->Prop)(E:Nat->LG->Prop)
  (y:∀ s i,I s i->i<n->aa (st (mk s i)) fun o=>(∃ s',o=(none,mk s' (i+1))/\I s' (i+1))\/∃ c g,o=(some c,g)/\E c g)
  (M:∀ s,I s n->aa (st (mk s n)) fun o=>o=(some (d s).1,(d s).2)) :
  ∀(k:Nat) (s:v) (i:Nat),i+k=n->I s i->a6 st (mk s i) (k+1) fun c g=>(∃ s',I s' n/\c=(d s').1/\g=(d s').2)\/E c g
 | 0,s,i,hi,q=>by
  have e:i=n:=hi;subst e;obtain⟨o,h,rfl⟩:=M s q;exact a6.stop h (.inl ⟨s,q,rfl,rfl⟩)
 | k+1,s,i,hi,q=>by
  obtain⟨o,h,⟨s',rfl,N⟩|⟨c,g,rfl,O⟩⟩:=y s i q (by omega)
  ·exact a6.next h (Pc mk n d I E y M k s' (i+1) (by omega) N)
  ·exact a6.stop h (.inr O)
def aaB{rZ:LL}{i:Nat}(h:i<rZ.length):rZ.getD i []∈rZ:=by
 rw[cd,bZ h];exact List.getElem_mem h
def aaC{rZ:LL}{i:Nat}(h:i<rZ.length):rZ.take (i+1)=rZ.take i++[rZ.getD i []]:=by
 rw[List.take_add_one,cd,bZ h];rfl
def aaD{h:Type}{st:LG->Option (Option Nat × LG)}(mk:h->Nat->LG)(rZ:LL)(d:h->Nat × LG)(I:h->Nat->Prop)(E:Nat->LG->Prop)(s:h)
  (y:rZ.length<999999) (h0:I s 0)
  (k:∀ s i x,I s i->i<rZ.length->rZ.getD i []=x->x∈rZ->rZ.take (i+1)=rZ.take i++[x]->aa (st (mk s i)) fun o=>(∃ s',o=(none,mk s' (i+1))/\I s' (i+1))\/∃ c g,o=(some c,g)/\E c g)
  (q:∀ s,I s rZ.length->aa (st (mk s rZ.length)) fun o=>o=(some (d s).1,(d s).2)) :
  lp st (mk s 0) fun c g=>(∃ s',I s' rZ.length/\c=(d s').1/\g=(d s').2)\/E c g :=
 (Pc mk rZ.length d I E (fun s i v hi=>k s i _ v hi rfl (aaB hi) (aaC hi)) q rZ.length s 0 (by omega) h0).to (by omega)
def wQ{σ:Type}{st:LG->Option (Option Nat × LG)}(mk:σ->Nat->LG)(rZ:LL)(k:σ->Nat × LG)(I:σ->Nat->Prop)(s:σ)
  (v:rZ.length<999999) (h0:I s 0)
  (q:∀ s i x,I s i->i<rZ.length->rZ.getD i []=x->x∈rZ->rZ.take (i+1)=rZ.take i++[x]->aa (st (mk s i)) fun o=>∃ s',o=(none,mk s' (i+1))/\I s' (i+1))
  (y:∀ s,I s rZ.length->aa (st (mk s rZ.length)) fun o=>o=(some (k s).1,(k s).2)) :
  lp st (mk s 0) fun c g=>∃ s',I s' rZ.length/\c=(k s').1/\g=(k s').2 :=
 (aaD mk rZ k I (fun _ _=>False) s v h0 (fun s i x a b c d e=>(q s i x a b c d e).mono fun _ h=>.inl h) y).mono fun _ _ h=>h.elim id False.elim
end Go.AL

namespace Go.AL
open Go
variable [Dr]
def IT{α:Type}[BEq α][LawfulBEq α](a b:α):(a==b)=(b==a):=by
 rw[nf];simp only[beq_iff_eq];exact eq_comm
def aaE{k:Kd}{a b:G}:rj k a b=rj k b a:=by
 cases k
 ·exact IT _ _
 ·exact IT _ _
 ·exact IT _ _
 ·rfl
def aaF{k:Kd}{a b c:G}(h1:rj k a b=true)(d:rj k b c=true):rj k a c=true:=by
 cases k<;>simp only[rj,beq_iff_eq]at *<;>first|exact h1.trans d|cases h1
def qB:∀{K:List Kd} {a b:LG},bq K a b=bq K b a
 | [],_,_=>rfl
 |k::K,a,b=>by simp only[bq,aaE (a:=a.headD default),qB (K:=K) (a:=a.tail)]
def wR:∀{K:List Kd} {a b c:LG},bq K a b=true->bq K b c=true->bq K a c=true
 | [],_,_,_,_,_=>rfl
 | k::K,a,b,c,h1,d=>by
  simp only[bq,aK]at *;exact⟨aaF h1.1 d.1,wR h1.2 d.2⟩
def aaG{K:List Kd}{a b c:LG}(h:bq K a b=true):bq K a c=bq K b c:=by
 rw[nf];constructor
 ·exact fun d=>wR (by rw[qB]; exact h) d
 ·exact fun d=>wR h d
def wS{K:List Kd}{a b c:LG}(h:bq K a b=true):bq K c a=bq K c b:=by
 rw[qB,aaG h,qB]
def qC(ks:List Kd)(key:LG):∀(rZ:LL) (i:Nat),bW ks key rZ i=(bW ks key rZ 0).map fun p=>(p.1+i,p.2)
 | [],i=>rfl
 | r::rs,i=>by
  simp only[bW];cases bq ks key (gi r 0).rV with
  |true=>simp
  | false =>
   simp only[cF];rw[qC ks key rs (i+1),qC ks key rs (0+1),Option.map_map];congr 1
   funext p
   simp;omega
def aaH(ks:List Kd)(key z:LG):dv ks [] key z=z:=rfl
def DM(ks:List Kd)(r:LG)(rs:LL)(key z:LG):dv ks (r::rs) key z=bif bq ks key (gi r 0).rV then (gi r 1).rV else dv ks rs key z:=by
 unfold dv;simp only[bW];cases bq ks key (gi r 0).rV with
 |true=>rfl
 | false =>
  simp only[cF];rw[qC ks key rs (0+1)];cases bW ks key rs 0<;>rfl
def Pd(ks:List Kd)(key:LG):eM ks [] key=false:=rfl
def DN(ks:List Kd)(r:LG)(rs:LL)(key:LG):eM ks (r::rs) key=(bq ks key (gi r 0).rV||eM ks rs key):=by
 unfold eM;simp only[bW];cases bq ks key (gi r 0).rV with
 |true=>rfl
 | false =>
  simp only[cF];rw[qC ks key rs (0+1)];cases bW ks key rs 0<;>rfl
def Pe(ks:List Kd)(key val:LG)(c:Nat):eG ks [] key val c=[[.l [key],.l [val],.i c]]:=rfl
def Pf(ks:List Kd)(r:LG)(rs:LL)(key val:LG)(c:Nat) :
  eG ks (r::rs) key val c=bif bq ks key (gi r 0).rV then [.l [key],.l [val],.i (gi r 2).iV]::rs else r::eG ks rs key val c:=by
 unfold eG;simp only[bW];cases bq ks key (gi r 0).rV with
 |true=>rfl
 | false =>
  simp only[cF];rw[qC ks key rs (0+1)];cases bW ks key rs 0<;>rfl
def As(ks:List Kd)(k v key z:LG)(c:Nat):∀ rZ:LL,dv ks (eG ks rZ k v c) key z=bif bq ks key k then v else dv ks rZ key z
 | []=>by simp only[Pe,DM,aaH]; rfl
 | r::rs=>by
  rw[Pf,DM];cases h:bq ks k (gi r 0).rV with
  | true =>
   simp only[cT,DM];have e:bq ks key (gi r 0).rV=bq ks key k:=(wS h).symm;rw[e];cases d:bq ks key k with
   |true=>simp only[Aa,Ac,d,cT]; rfl
   |false=>simp only[Aa,Ac,d,cF]
  | false =>
   simp only[cF,DM,As ks k v key z c rs];cases d:bq ks key (gi r 0).rV with
   |false=>rfl
   | true =>
    cases g:bq ks key k with
    |false=>rfl
    | true =>
     have:bq ks k (gi r 0).rV=true:=wR (by rw[qB]; exact g) d;rw[this]at h;cases h
def IU(ks:List Kd)(k v key:LG)(c:Nat):∀ rZ:LL,eM ks (eG ks rZ k v c) key=(bq ks key k||eM ks rZ key)
 | []=>by simp only[Pe,DN,Pd]; rfl
 | r::rs=>by
  rw[Pf,DN];cases h:bq ks k (gi r 0).rV with
  | true =>
   simp only[cT,DN];have e:bq ks key (gi r 0).rV=bq ks key k:=(wS h).symm;rw[e];simp only[Aa,Ac];cases bq ks key k<;>simp
  | false =>
   simp only[cF,DN,IU ks k v key c rs];cases bq ks key (gi r 0).rV<;>simp
end Go.AL

namespace Go.AL
open Go
variable [Dr]
def Au(K:List Kd)(C:LG->Option LG)(d:LG):Option (Option Nat × LG) :=
 (bif (aO (gi d 1).iV (gi d 4).iV) then (bif ((cJ (gi d 4).iV)&&(aO (gi d 4).iV (((gi d 0).rZ.length:Nat):Int))) then (bif (decide ((0+((gi d 4).iV).toNat)<(gi d 0).rZ.length)) then (bif (ay ((gi d 4).iV-1)) then (bif ((cJ ((gi d 4).iV-1))&&(aO ((gi d 4).iV-1) (((gi d 0).rZ.length:Nat):Int))) then (bif (decide ((0+((gi d 4).iV-1).toNat)<(gi d 0).rZ.length)) then (aB (C [.l [(aQ K ((gi d 0).rZ.getD (0+((gi d 4).iV).toNat) []))],.l [(aQ K ((gi d 0).rZ.getD (0+((gi d 4).iV-1).toNat) []))]]) fun g=>(bif (aO (gi g 0).iV 0) then (bif (ay ((gi d 4).iV-1)) then (bif (ay ((gi d 4).iV-1)) then (bif ((cJ ((gi d 4).iV-1))&&(aO ((gi d 4).iV-1) (((gi d 0).rZ.length:Nat):Int))) then (bif (decide ((0+((gi d 4).iV-1).toNat)<(gi d 0).rZ.length)) then (bif ((cJ (gi d 4).iV)&&(aO (gi d 4).iV (((gi d 0).rZ.length:Nat):Int))) then (bif (decide ((0+((gi d 4).iV).toNat)<(gi d 0).rZ.length)) then (bif ((cJ (gi d 4).iV)&&(aO (gi d 4).iV (((gi d 0).rZ.length:Nat):Int))) then (bif (decide ((0+((gi d 4).iV).toNat)<(gi d 0).rZ.length)) then (bif ((cJ ((gi d 4).iV-1))&&(aO ((gi d 4).iV-1) (((gi d 0).rZ.length:Nat):Int))) then (bif (decide ((0+((gi d 4).iV-1).toNat)<((gi d 0).rZ.set (0+((gi d 4).iV).toNat) (dV K ((gi d 0).rZ.getD (0+((gi d 4).iV).toNat) []) 0 (aQ K ((gi d 0).rZ.getD (0+((gi d 4).iV-1).toNat) [])))).length)) then (bif (ay ((gi d 4).iV-1)) then (bif ((aG (gi d 0).rZ.length (((gi d 0).rZ.set (0+((gi d 4).iV).toNat) (dV K ((gi d 0).rZ.getD (0+((gi d 4).iV).toNat) []) 0 (aQ K ((gi d 0).rZ.getD (0+((gi d 4).iV-1).toNat) [])))).set (0+((gi d 4).iV-1).toNat) (dV K (((gi d 0).rZ.set (0+((gi d 4).iV).toNat) (dV K ((gi d 0).rZ.getD (0+((gi d 4).iV).toNat) []) 0 (aQ K ((gi d 0).rZ.getD (0+((gi d 4).iV-1).toNat) [])))).getD (0+((gi d 4).iV-1).toNat) []) 0 (aQ K ((gi d 0).rZ.getD (0+((gi d 4).iV).toNat) [])))).length)&&true) then some (none,[.l (((gi d 0).rZ.set (0+((gi d 4).iV).toNat) (dV K ((gi d 0).rZ.getD (0+((gi d 4).iV).toNat) []) 0 (aQ K ((gi d 0).rZ.getD (0+((gi d 4).iV-1).toNat) [])))).set (0+((gi d 4).iV-1).toNat) (dV K (((gi d 0).rZ.set (0+((gi d 4).iV).toNat) (dV K ((gi d 0).rZ.getD (0+((gi d 4).iV).toNat) []) 0 (aQ K ((gi d 0).rZ.getD (0+((gi d 4).iV-1).toNat) [])))).getD (0+((gi d 4).iV-1).toNat) []) 0 (aQ K ((gi d 0).rZ.getD (0+((gi d 4).iV).toNat) [])))),.i (gi d 1).iV,.i (gi d 2).iV,.i (gi d 3).iV,.i ((gi d 4).iV-1)]) else none) else none) else none) else none) else none) else none) else none) else none) else none) else none) else none) else none) else (bif ((aG (gi d 0).rZ.length (gi d 0).rZ.length)&&true) then some (some 0,[.l (gi d 0).rZ,.i (gi d 1).iV,.i (gi d 2).iV,.i (gi d 3).iV]) else none))) else none) else none) else none) else none) else none) else (bif ((aG (gi d 0).rZ.length (gi d 0).rZ.length)&&true) then some (some 0,[.l (gi d 0).rZ,.i (gi d 1).iV,.i (gi d 2).iV,.i (gi d 3).iV]) else none))
def wT(K:List Kd)(C:LG->Option LG)(d:LG):Option (Option Nat × LG) :=
 (bif (aO (gi d 3).iV (gi d 2).iV) then (ba ((aG (gi d 0).rZ.length (gi d 0).rZ.length)&&true) (bN (Au K C) [.l (gi d 0).rZ,.i (gi d 1).iV,.i (gi d 2).iV,.i (gi d 3).iV,.i (gi d 3).iV]) fun h g=>(bif (ay ((gi g 3).iV+1)) then (bif ((aG (gi g 0).rZ.length (gi g 0).rZ.length)&&true) then some (none,[.l (gi g 0).rZ,.i (gi g 1).iV,.i (gi g 2).iV,.i ((gi g 3).iV+1)]) else none) else none)) else some (some 0,[.l (gi d 0).rZ]))
def pD(K:List Kd)(C:LG->Option LG)(d:LG):Option LG :=
 (bif (ay ((gi d 1).iV+1)) then (ba ((aG (gi d 0).rZ.length (gi d 0).rZ.length)&&true) (bN (wT K C) [.l (gi d 0).rZ,.i (gi d 1).iV,.i (gi d 2).iV,.i ((gi d 1).iV+1)]) fun h g=>some [.l (gi g 0).rZ]) else none)
def ui(K:List Kd)(C:LG->Option LG)(d:LG):Option (Option Nat × LG) :=
 (bif (bp (gi d 4).iV (gi d 1).iV) then (jf (((aG (gi d 0).rZ.length (gi d 0).rZ.length)&&true)&&((pD K C) [.l (gi d 0).rZ,.i (gi d 3).iV,.i (gi d 4).iV]).isSome) ((pD K C) [.l (gi d 0).rZ,.i (gi d 3).iV,.i (gi d 4).iV]) fun g=>(bif (ay ((gi d 4).iV+(gi d 2).iV)) then (bif ((aG (gi d 0).rZ.length (gi g 0).rZ.length)&&true) then some (none,[.l (gi g 0).rZ,.i (gi d 1).iV,.i (gi d 2).iV,.i (gi d 4).iV,.i ((gi d 4).iV+(gi d 2).iV)]) else none) else none)) else (bif ((aG (gi d 0).rZ.length (gi d 0).rZ.length)&&true) then some (some 0,[.l (gi d 0).rZ,.i (gi d 1).iV,.i (gi d 2).iV,.i (gi d 3).iV]) else none))
def aaI(K:List Kd)(C:LG->Option LG)(d:LG):Option (Option Nat × LG) :=
 (bif (bp (gi d 4).iV (gi d 1).iV) then (bif (ay ((gi d 3).iV+(gi d 2).iV)) then none else none) else (bif ((aG (gi d 0).rZ.length (gi d 0).rZ.length)&&true) then some (some 0,[.l (gi d 0).rZ,.i (gi d 1).iV,.i (gi d 2).iV,.i (gi d 3).iV]) else none))
def IV(K:List Kd)(C:LG->Option LG)(d:LG):Option (Option Nat × LG) :=
 (bif (aO (gi d 2).iV (gi d 1).iV) then (bif (ay (2*(gi d 2).iV)) then (ba ((aG (gi d 0).rZ.length (gi d 0).rZ.length)&&true) (bN (aaI K C) [.l (gi d 0).rZ,.i (gi d 1).iV,.i (gi d 2).iV,.i 0,.i (2*(gi d 2).iV)]) fun h g=>(bif (ay ((gi g 3).iV+(gi g 2).iV)) then (bif (aO ((gi g 3).iV+(gi g 2).iV) (gi g 1).iV) then none else (bif (ay ((gi g 2).iV*2)) then (bif ((aG (gi g 0).rZ.length (gi g 0).rZ.length)&&true) then some (none,[.l (gi g 0).rZ,.i (gi g 1).iV,.i ((gi g 2).iV*2)]) else none) else none)) else none)) else none) else some (some 0,[.l (gi d 0).rZ]))
def DO(K:List Kd)(C:LG->Option LG)(d:LG):Option LG :=
 (ba ((aG (gi d 0).rZ.length (gi d 0).rZ.length)&&true) (bN (ui K C) [.l (gi d 0).rZ,.i (gi d 1).iV,.i 20,.i 0,.i 20]) fun q g=>(jf (((aG (gi g 0).rZ.length (gi g 0).rZ.length)&&true)&&((pD K C) [.l (gi g 0).rZ,.i (gi g 3).iV,.i (gi g 1).iV]).isSome) ((pD K C) [.l (gi g 0).rZ,.i (gi g 3).iV,.i (gi g 1).iV]) fun h=>(ba ((aG (gi g 0).rZ.length (gi h 0).rZ.length)&&true) (bN (IV K C) [.l (gi h 0).rZ,.i (gi g 1).iV,.i (gi g 2).iV]) fun v k=>some [.l (gi k 0).rZ])))
def Pg(K:List Kd)(C:LG->Option LG)(d:LG):Option LG :=
 (jf (((aG (gi d 0).rZ.length (gi d 0).rZ.length)&&true)&&((DO K C) [.l (gi d 0).rZ,.i (((gi d 0).rZ.length:Nat):Int)]).isSome) ((DO K C) [.l (gi d 0).rZ,.i (((gi d 0).rZ.length:Nat):Int)]) fun g=>some [.l (gi g 0).rZ])
def nK{α:Type}(l:List α)(x:α)(q:List α)(z:α)(n:Nat)(h:n=l.length):(l++x::q).getD n z=x:=by subst h; simp
def Ph{α:Type}(l:List α)(x y:α)(q:List α)(n:Nat)(h:n=l.length):(l++x::q).set n y=l++y::q:=by subst h; simp
def jA{α:Type}(lt:α->α->Bool)(x:α):List α->List α
 | []=>[x]
 |y::p=>bif lt x y then y::jA lt x p else x::y::p
def l5{α:Type}(lt:α->α->Bool):List α->List α->List α
 |p,[]=>p
 |p,x::r=>l5 lt (jA lt x p) r
def cR{α:Type}(lt:α->α->Bool)(l:List α):List α:=(l5 lt [] l).reverse
def DP{α:Type}(lt:α->α->Bool)(x:α):∀ p,(jA lt x p).length=p.length+1
 | []=>rfl
 | y::p=>by
  simp only[jA];cases lt x y with
  |true=>simp[DP lt x p]
  |false=>simp
def IW{α:Type}{Q:α->Prop}{lt:α->α->Bool}{x:α}(g:Q x):∀{p:List α},(∀ y∈p,Q y)->∀ y∈jA lt x p,Q y
 | [],_,y,d=>by simp[jA]at d; exact d▸g
 | z::p,h,y,d=>by
  simp only[jA]at d;cases k:lt x z with
  | true =>
   rw[k]at d;rcases cq.1 d with rfl|d
   ·exact h _ cX
   ·exact IW g (fun y d=>h y (dp _ d)) y d
  | false =>
   rw[k]at d;rcases cq.1 d with rfl|d
   ·exact g
   ·exact h y d
def Pj{α:Type}(lt:α->α->Bool):∀(p r:List α),(l5 lt p r).length=p.length+r.length
 |p,[]=>rfl
 |p,x::r=>by simp only[l5,Pj lt,DP,cn]; omega
def Pk{α:Type}{Q:α->Prop}{lt:α->α->Bool}:∀{r p:List α},(∀ y∈p,Q y)->(∀ y∈r,Q y)->∀ y∈l5 lt p r,Q y
 | [],_,d,_=>d
 | x::r,p,d,g=>by
  simp only[l5];exact Pk (IW (g x cX) d) fun y h=>g y (dp _ h)
def uj{α:Type}(lt:α->α->Bool)(l:List α):(cR lt l).length=l.length:=by simp[cR,Pj]
def IX{α:Type}{Q:α->Prop}{lt:α->α->Bool}{l:List α}(h:∀ y∈l,Q y):∀ y∈cR lt l,Q y:=by
 intro y d;exact Pk (p:=[]) (by simp) h y (by simpa[cR]using d)
def DQ:∀(K:List Kd) (r:LG),(aQ K r).length=K.length
 | [],_=>rfl
 |k::K,r=>by simp[aQ,DQ K]
def DR{K:List Kd}{r d:LG}(h:d.length=K.length):dV K r 0 d=d:=by
 simp[dV,h,Hs,KT]
section
variable {K:List Kd} {C:LG->Option LG} {Q:LG->Prop} {c:LG->LG->Int}
structure uk (K:List Kd) (C:LG->Option LG) (Q:LG->Prop) (c:LG->LG->Int):Prop where
 cmp:∀ r s,Q r->Q s->C [.l [r],.l [s]]=some [.i (c r s)]
 eta:∀ r,Q r->aQ K r=r
def bK(c:LG->LG->Int)(r s:LG):Bool:=aO (c r s) 0
def Pl(hC:uk K C Q c):∀(p q:LL) (x:LG) (b i:Int) (j:Nat),(∀ y∈p,Q y)->Q x->p.length<1000000->j=p.length ->
  ∃ m,m<=p.length+1/\ln (Au K C) m [.l (p.reverse++x::q),.i 0,.i b,.i i,.i (j:Int)] 0 [.l ((jA (bK c) x p).reverse++q),.i 0,.i b,.i i]
 | [],q,x,b,i,j,_,_,_,d=>by
  simp only[km]at d;subst d;refine⟨1,by simp,.stop (aa.toEq ?_)⟩;unfold Au;dsimp +instances only[go_sem];refine aa.n (aa.p (aa.some ?_));rfl
 | y::p,q,x,b,i,j,M,g,hl,d=>by
  have k:=M y cX;have N:(y::p).reverse++x::q=(p.reverse++[y])++x::q:=by simp
  have e2:(y::p).reverse++x::q=p.reverse++y::x::q:=by simp
  simp only[cn]at hl d;have O:((y::p).reverse++x::q).getD (0+(j:Int).toNat) []=x:=by rw[N]; exact nK _ _ _ _ _ (by simp[d])
  have U:((y::p).reverse++x::q).getD (0+((j:Int)-1).toNat) []=y:=by rw[e2]; exact nK _ _ _ _ _ (by simp[d])
  have v:((y::p).reverse++x::q).length=p.length+q.length+2:=by simp; omega
  have I:=hC.cmp x y g k;cases h:bK c x y with
  | false =>
   refine⟨1,by simp,.stop (aa.toEq ?_)⟩;unfold Au;dsimp +instances only[go_sem];simp only[v,O,U,hC.eta x g,hC.eta y k];refine aa.p (aa.p (aa.p (aa.p (aa.p (aa.p (aa.call (aa.eq I) ?_))))));rintro _ rfl;dsimp +instances only[go_sem];refine aa.neg h (aa.p (aa.some ?_));simp[jA,h]
  | true =>
   obtain⟨m,hm,hr⟩:=Pl hC p (y::q) x b i (j-1) (fun z hz=>M z (dp _ hz)) g (by omega) (by omega);refine⟨m+1,by simp; omega,.next (aa.toEq ?_) (by
    have e:(jA (bK c) x (y::p)).reverse++q=(jA (bK c) x p).reverse++y::q:=by simp[jA,h]
    rw[e]; exact hr)⟩
   have s1:((y::p).reverse++x::q).set (0+(j:Int).toNat) y=p.reverse++y::y::q:=by
    rw[N,Ph _ _ _ _ _ (by simp[d])]; simp
   have s2:(p.reverse++y::y::q).set (0+((j:Int)-1).toNat) x=p.reverse++x::y::q:=Ph _ _ _ _ _ (by simp[d]);have V:(p.reverse++y::y::q).length=p.length+q.length+2:=by simp; omega
   have W:(p.reverse++x::y::q).length=p.length+q.length+2:=by simp; omega
   have ky:y.length=K.length:=by rw[<-hC.eta y k,DQ]
   have kx:x.length=K.length:=by rw[<-hC.eta x g,DQ]
   unfold Au;dsimp +instances only[go_sem];simp only[v,O,U,hC.eta x g,hC.eta y k,DR ky,DR kx,s1,s2,V,W];refine aa.p (aa.p (aa.p (aa.p (aa.p (aa.p (aa.call (aa.eq I) ?_))))));rintro _ rfl;dsimp +instances only[go_sem];refine aa.pos h ?_;refine aa.p (aa.p (aa.p (aa.p (aa.p (aa.p (aa.p (aa.p (aa.p (aa.p (aa.p (aa.p (aa.some ?_))))))))))));congr;omega
def Pm(hC:uk K C Q c):∀(r p:LL) (i n:Nat),(∀ y∈p,Q y)->(∀ y∈r,Q y)->i=p.length->n=p.length+r.length->n<100000 ->
  ∃ m,m<=r.length+1/\ln (wT K C) m [.l (p.reverse++r),.i 0,.i (n:Int),.i (i:Int)] 0 [.l (l5 (bK c) p r).reverse]
 | [],p,i,n,_,_,hi,hn,h=>by
  refine⟨1,by simp,.stop (aa.toEq ?_)⟩;simp only[km]at hn;unfold wT;dsimp +instances only[go_sem];refine aa.n (aa.some ?_);simp[l5]
 | x::r,p,i,n,k,d,hi,hn,h=>by
  simp only[cn]at hn;obtain⟨q,M,h1⟩:=Pl hC p r x (n:Int) (i:Int) i k (d x cX) (by omega) hi;obtain⟨m,hm,v⟩:=Pm hC r (jA (bK c) x p) (i+1) n (IW (d x cX) k) (fun y I=>d y (dp _ I)) (by rw[DP,hi]) (by rw[DP]; omega) h;refine⟨m+1,by simp; omega,.next (aa.toEq ?_) v⟩;unfold wT;dsimp +instances only[go_sem];refine aa.p (aa.loop (P:=fun x g=>g=_) ⟨q,0,_,h1,by omega,rfl⟩ (by(first|rfl|assumption|(simp only[ay,sl]<;>omega))) ?_);rintro _ _ rfl;dsimp +instances only[go_sem];refine aa.p (aa.p (aa.some ?_));rfl
def aaJ(hC:uk K C Q c)(rZ:LL)(d:∀ y∈rZ,Q y)(hn:rZ.length<100000):pD K C [.l rZ,.i 0,.i (rZ.length:Int)]=some [.l (cR (bK c) rZ)]:=by
 refine aa.toEq ?_;unfold pD;dsimp +instances only[go_sem];refine aa.p ?_;cases rZ with
 | nil =>
  refine aa.loop (P:=fun x g=>g=[.l []]) ⟨1,0,_,.stop (aa.toEq (?_:aa _ (fun g=>g=(some 0,[G.l []])))),by omega,rfl⟩ (by(first|rfl|assumption|(simp only[ay,sl]<;>omega))) ?_
  ·unfold wT
   dsimp +instances only[go_sem];exact aa.n (aa.some rfl)
  ·rintro _ _ rfl
   exact aa.some rfl
 | cons x r =>
  simp only[cn]at hn;obtain⟨m,hm,h⟩:=Pm hC r [x] 1 (r.length+1) (by simpa using d x cX) (fun y k=>d y (dp _ k)) rfl (by simp; omega) (by omega);refine aa.loop (P:=fun y g=>g=_) ⟨m,0,_,h,by omega,rfl⟩ (by(first|rfl|assumption|(simp only[ay,sl]<;>omega))) ?_;rintro _ _ rfl;exact aa.some rfl
def aaK(rZ:LL)(a b:Nat)(h:b<=a)(hn:a<100000):pD K C [.l rZ,.i (a:Int),.i (b:Int)]=some [.l rZ]:=by
 refine aa.toEq ?_;unfold pD;dsimp +instances only[go_sem];refine aa.p ?_;refine aa.loop (P:=fun x g=>g=[.l rZ]) ⟨1,0,_,.stop (aa.toEq (?_:aa _ (fun g=>g=(some 0,[G.l rZ])))),by omega,rfl⟩ (by(first|rfl|assumption|(simp only[ay,sl]<;>omega))) ?_
 ·unfold wT
  dsimp +instances only[go_sem];exact aa.n (aa.some rfl)
 ·rintro _ _ rfl
  exact aa.some rfl
def aaL(hC:uk K C Q c)(rZ:LL)(I:∀ y∈rZ,Q y)(hn:rZ.length<=20):DO K C [.l rZ,.i (rZ.length:Int)]=some [.l (cR (bK c) rZ)]:=by
 refine aa.toEq ?_;unfold DO;dsimp +instances only[go_sem];have d:=aaJ hC rZ I (by omega);have k:=uj (bK c) rZ;have v:∀ h:LL,h.length=rZ.length->lp (IV K C) [.l h,.i (rZ.length:Int),.i 20] fun _ g=>g=[.l h]:=by
  intro h O;refine lp.stop (x:=0) (aa.toEq ?_) rfl;unfold IV;dsimp +instances only[go_sem];exact aa.n (aa.some rfl)
 by_cases q:rZ.length=20
 ·have h1:ui K C [.l rZ,.i (rZ.length:Int),.i 20,.i 0,.i 20]=some (none,[.l (cR (bK c) rZ),.i (rZ.length:Int),.i 20,.i 20,.i 40]):=by
   refine aa.toEq ?_;unfold ui;dsimp +instances only[go_sem];have d:pD K C [.l rZ,.i 0,.i 20]=some [.l (cR (bK c) rZ)]:=by rw[q]at d; exact d
   refine aa.p (aa.l4 (aa.eq d) (by(first|rfl|assumption|(simp only[ay,sl]<;>omega))) ?_);rintro _ rfl;dsimp +instances only[go_sem];exact aa.p (aa.p (aa.some rfl))
  have M:ui K C [.l (cR (bK c) rZ),.i (rZ.length:Int),.i 20,.i 20,.i 40]=some (some 0,[.l (cR (bK c) rZ),.i (rZ.length:Int),.i 20,.i 20]):=by
   refine aa.toEq ?_;unfold ui;dsimp +instances only[go_sem];exact aa.n (aa.p (aa.some rfl))
  refine aa.loop (P:=fun x g=>g=_) ⟨2,0,_,.next h1 (.stop M),by omega,rfl⟩ (by(first|rfl|assumption|(simp only[ay,sl]<;>omega))) ?_;rintro _ _ rfl;dsimp +instances only[go_sem];have N:pD K C [.l (cR (bK c) rZ),.i 20,.i (rZ.length:Int)]=some [.l (cR (bK c) rZ)]:=by
   rw[q]; exact aaK _ 20 20 (by omega) (by omega)
  refine aa.l4 (aa.eq N) (by(first|rfl|assumption|(simp only[ay,sl]<;>omega))) ?_;rintro _ rfl;dsimp +instances only[go_sem];refine aa.loop (v _ k) (by(first|rfl|assumption|(simp only[ay,sl]<;>omega))) ?_;rintro _ _ rfl;exact aa.some rfl
 ·have h1:ui K C [.l rZ,.i (rZ.length:Int),.i 20,.i 0,.i 20]=some (some 0,[.l rZ,.i (rZ.length:Int),.i 20,.i 0]):=by
   refine aa.toEq ?_;unfold ui;dsimp +instances only[go_sem];exact aa.n (aa.p (aa.some rfl))
  refine aa.loop (P:=fun x g=>g=_) ⟨1,0,_,.stop h1,by omega,rfl⟩ (by(first|rfl|assumption|(simp only[ay,sl]<;>omega))) ?_;rintro _ _ rfl;dsimp +instances only[go_sem];refine aa.l4 (aa.eq d) (by(first|rfl|assumption|(simp only[ay,sl]<;>omega))) ?_;rintro _ rfl;dsimp +instances only[go_sem];refine aa.loop (v _ k) (by(first|rfl|assumption|(simp only[ay,sl]<;>omega))) ?_;rintro _ _ rfl;exact aa.some rfl
def IY(hC:uk K C Q c)(rZ:LL)(d:∀ y∈rZ,Q y)(hn:rZ.length<=20):Pg K C [.l rZ]=some [.l (cR (bK c) rZ)]:=by
 refine aa.toEq ?_;unfold Pg;dsimp +instances only[go_sem];refine aa.l4 (aa.eq (aaL hC rZ d hn)) (by(first|rfl|assumption|(simp only[ay,sl]<;>omega))) ?_;rintro _ rfl;exact aa.some rfl
end
end Go.AL

namespace Go.AL
open Go
variable [Dr]
def wU(K:List Kd)(C:LG->Option LG)(Z:LG)(d:LG):Option (Option Nat × LG) :=
 (bif (aO (gi d 4).iV (((gi d 3).iV.toNat:Nat):Int)) then (bif ((cJ (gi d 4).iV)&&(aO (gi d 4).iV (((gi d 3).iV.toNat:Nat):Int))) then (bif (decide (((gi d 2).iV.toNat+((gi d 4).iV).toNat)<(gi d 0).rZ.length)) then (bif (ay ((gi d 4).iV-1)) then (bif ((cJ ((gi d 4).iV-1))&&(aO ((gi d 4).iV-1) (((gi d 3).iV.toNat:Nat):Int))) then (bif (decide (((gi d 2).iV.toNat+((gi d 4).iV-1).toNat)<(gi d 0).rZ.length)) then (aB (C [.l [(aQ K ((gi d 0).rZ.getD ((gi d 2).iV.toNat+((gi d 4).iV).toNat) []))],.l [(aQ K ((gi d 0).rZ.getD ((gi d 2).iV.toNat+((gi d 4).iV-1).toNat) []))]]) fun g=>(bif (!(gi g 0).bV) then (bif ((cJ (gi d 4).iV)&&(aO (gi d 4).iV (((gi d 3).iV.toNat:Nat):Int))) then (bif (decide (((gi d 2).iV.toNat+((gi d 4).iV).toNat)<(gi d 0).rZ.length)) then (bif ((cJ (gi d 1).iV)&&(aO (gi d 1).iV (((gi d 0).rZ.length:Nat):Int))) then (bif (decide ((0+((gi d 1).iV).toNat)<(gi d 0).rZ.length)) then (bif (ay ((gi d 1).iV+1)) then (bif (ay ((gi d 4).iV+1)) then (bif ((aG (gi d 0).rZ.length ((gi d 0).rZ.set (0+((gi d 1).iV).toNat) (dV K ((gi d 0).rZ.getD (0+((gi d 1).iV).toNat) []) 0 (aQ K ((gi d 0).rZ.getD ((gi d 2).iV.toNat+((gi d 4).iV).toNat) [])))).length)&&true) then some (none,[.l ((gi d 0).rZ.set (0+((gi d 1).iV).toNat) (dV K ((gi d 0).rZ.getD (0+((gi d 1).iV).toNat) []) 0 (aQ K ((gi d 0).rZ.getD ((gi d 2).iV.toNat+((gi d 4).iV).toNat) [])))),.i ((gi d 1).iV+1),.i (((gi d 2).iV.toNat:Nat):Int),.i (((gi d 3).iV.toNat:Nat):Int),.i ((gi d 4).iV+1)]) else none) else none) else none) else none) else none) else none) else none) else (bif (ay ((gi d 4).iV+1)) then (bif ((aG (gi d 0).rZ.length (gi d 0).rZ.length)&&true) then some (none,[.l (gi d 0).rZ,.i (gi d 1).iV,.i (((gi d 2).iV.toNat:Nat):Int),.i (((gi d 3).iV.toNat:Nat):Int),.i ((gi d 4).iV+1)]) else none) else none))) else none) else none) else none) else none) else none) else (bif ((aG (gi d 0).rZ.length (gi d 0).rZ.length)&&true) then some (some 0,[.l (gi d 0).rZ,.i (gi d 1).iV]) else none))
def um(K:List Kd)(C:LG->Option LG)(Z:LG)(d:LG):Option (Option Nat × LG) :=
 (bif (aO (gi d 1).iV (((gi d 0).rZ.length:Nat):Int)) then (bif ((cJ (gi d 1).iV)&&(aO (gi d 1).iV (((gi d 0).rZ.length:Nat):Int))) then (bif (decide ((0+((gi d 1).iV).toNat)<(gi d 0).rZ.length)) then (bif (ay ((gi d 1).iV-1)) then (bif ((cJ ((gi d 1).iV-1))&&(aO ((gi d 1).iV-1) (((gi d 0).rZ.length:Nat):Int))) then (bif (decide ((0+((gi d 1).iV-1).toNat)<(gi d 0).rZ.length)) then (aB (C [.l [(aQ K ((gi d 0).rZ.getD (0+((gi d 1).iV).toNat) []))],.l [(aQ K ((gi d 0).rZ.getD (0+((gi d 1).iV-1).toNat) []))]]) fun h=>(bif (gi h 0).bV then (bif ((cJ (gi d 1).iV)&&(bp (gi d 1).iV (((gi d 0).rZ.length:Nat):Int))) then (ba ((aG (gi d 0).rZ.length (gi d 0).rZ.length)&&true) (bN (wU K C Z) [.l (gi d 0).rZ,.i (gi d 1).iV,.i (((0+((gi d 1).iV).toNat):Nat):Int),.i ((((gi d 0).rZ.length-((gi d 1).iV).toNat):Nat):Int),.i 1]) fun k g=>(bif ((cJ (gi g 1).iV)&&(bp (gi g 1).iV (((gi g 0).rZ.length:Nat):Int))) then (bif (Nat.ble ((0+((gi g 1).iV).toNat)+((gi g 0).rZ.length-((gi g 1).iV).toNat)) (gi g 0).rZ.length) then (bif ((cJ (gi g 1).iV)&&(bp (gi g 1).iV (((gi g 0).rZ.length:Nat):Int))) then some (some 0,[.l ((gi g 0).rZ.take (0+((gi g 1).iV).toNat)++cB ((gi g 0).rZ.length-((gi g 1).iV).toNat) Z++(gi g 0).rZ.drop ((0+((gi g 1).iV).toNat)+((gi g 0).rZ.length-((gi g 1).iV).toNat))),.i (((((gi g 1).iV).toNat-0):Nat):Int)]) else none) else none) else none)) else none) else (bif (ay ((gi d 1).iV+1)) then (bif ((aG (gi d 0).rZ.length (gi d 0).rZ.length)&&true) then some (none,[.l (gi d 0).rZ,.i ((gi d 1).iV+1)]) else none) else none))) else none) else none) else none) else none) else none) else (bif ((aG (gi d 0).rZ.length (gi d 0).rZ.length)&&true) then some (some 1,[.l (gi d 0).rZ]) else none))
def Pn(K:List Kd)(C:LG->Option LG)(Z:LG)(d:LG):Option LG :=
 (bif (aO (((gi d 0).rZ.length:Nat):Int) 2) then some [.l (gi d 0).rZ,.i (((gi d 0).rZ.length:Nat):Int)] else (ba ((aG (gi d 0).rZ.length (gi d 0).rZ.length)&&true) (bN (um K C Z) [.l (gi d 0).rZ,.i 1]) fun h g=>(bif aG h 0 then some [.l (gi g 0).rZ,.i (((gi g 1).iV.toNat:Nat):Int)] else some [.l (gi g 0).rZ,.i (((gi g 0).rZ.length:Nat):Int)])))
def eI{α:Type}(e:α->α->Bool):α->List α->List α
 |_,[]=>[]
 |y,x::q=>bif e x y then eI e x q else x::eI e x q
def fV{α:Type}(e:α->α->Bool):List α->List α
 | []=>[]
 |x::q=>x::eI e x q
def Po{α:Type}(e:α->α->Bool):∀(q:List α) (y:α),(eI e y q).length<=q.length
 | [],_=>aM _
 | x::q,y=>by
  have:=Po e q x;simp only[eI];cases e x y with
  |true=>simp; omega
  |false=>simp; omega
def IZ{α:Type}{e:α->α->Bool}:∀{q:List α} {y z:α},z∈eI e y q->z∈q
 | x::q,y,z,h=>by
  simp only[eI]at h;cases he:e x y with
  |true=>rw[he]at h; exact dp _ (IZ h)
  | false =>
   rw[he]at h;rcases cq.1 h with rfl|h
   ·exact cX
   ·exact dp _ (IZ h)
def aaM{α:Type}{e:α->α->Bool}:∀{l:List α} {z:α},z∈fV e l->z∈l
 | x::q,z,h=>by
  rcases cq.1 h with rfl|h
  ·exact cX
  ·exact dp _ (IZ h)
def DS{α:Type}(e:α->α->Bool):∀ l:List α,(fV e l).length<=l.length
 | []=>aM _
 |x::q=>by have:=Po e q x; simp[fV]; omega
section
variable {K:List Kd} {Z:LG} {Q:LG->Prop}
structure Kds (K:List Kd) (Q:LG->Prop):Prop where
 eta:∀ r,Q r->aQ K r=r
structure wV (K:List Kd) (C:LG->Option LG) (Q:LG->Prop) (e:LG->LG->Bool):Prop where
 cmp:∀ r s,Q r->Q s->C [.l [r],.l [s]]=some [.t (e r s)]
 eta:∀ r,Q r->aQ K r=r
variable {C:LG->Option LG} {ee:LG->LG->Bool}
def I0(hC:wV K C Q ee):∀(q kept M:LL) (y:LG) (lo len g:Nat),(∀ z∈kept++M++y::q,Q z)->lo+g=kept.length+M.length+1->g+q.length=len->kept.length+M.length+q.length<100000->1<=g ->
  ∃ m J,m<=q.length+1/\(kept++eI ee y q++J).length=kept.length+M.length+1+q.length/\ln (wU K C Z) m [.l (kept++M++y::q),.i (kept.length:Int),.i (lo:Int),.i (len:Int),.i (g:Int)] 0 [.l (kept++eI ee y q++J),.i ((kept++eI ee y q).length:Int)]
 | [],kept,M,y,lo,len,g,k,h1,V,W,h4=>by
  refine⟨1,M++[y],by simp,by simp[eI]; omega,.stop (aa.toEq ?_)⟩;simp only[km]at V W;unfold wU;dsimp +instances only[go_sem];(repeat first|refine aa.p ?_|refine aa.n ?_);refine aa.some ?_;simp[eI]
 | x::q,kept,M,y,lo,len,g,k,h1,V,W,h4=>by
  simp only[cn]at V W;have v:Q x:=k x (by simp);have N:Q y:=k y (by simp);have g1:(kept++M++y::x::q).getD ((lo:Int).toNat+(g:Int).toNat) []=x:=by
   have e:kept++M++y::x::q=(kept++M++[y])++x::q:=by simp
   rw[e]; exact nK _ _ _ _ _ (by simp<;>omega)
  have g2:(kept++M++y::x::q).getD ((lo:Int).toNat+((g:Int)-1).toNat) []=y:=nK _ _ _ _ _ (by simp; omega);have hlen:(kept++M++y::x::q).length=kept.length+M.length+q.length+2:=by simp; omega
  cases he:ee x y with
  | true =>
   obtain⟨m,J,hm,hJ,hr⟩:=I0 hC q kept (M++[y]) x lo len (g+1) (by simpa using k) (by simp; omega) (by omega) (by simp; omega) (by omega);have e:eI ee y (x::q)=eI ee x q:=by simp[eI,he]
   refine⟨m+1,J,by simp; omega,by rw[e,hJ]; simp; omega,.next (aa.toEq ?_) (by rw[e]; exact hr)⟩;unfold wU;dsimp +instances only[go_sem];simp only[hlen,g1,g2,hC.eta x v,hC.eta y N];(repeat first|refine aa.p ?_|refine aa.n ?_);refine aa.cE (hC.cmp x y v N) ?_;dsimp +instances only[go_sem]
   try simp only[he]
   (repeat first|refine aa.p ?_|refine aa.n ?_);refine aa.some ?_;simp
  | false =>
   obtain⟨U,I,e1,e2⟩:∃ U I,(kept++M++y::x::q).set kept.length x=U++I++x::q/\(U=kept++[x]/\I.length=M.length/\∀ z∈I,z∈M++[y]):=by
    cases M with
    |nil=>exact⟨kept++[x],[],by simp,rfl,rfl,by simp⟩
    |cons z M=>exact⟨kept++[x],M++[y],by simp,rfl,by simp,by simp; intro z d; rcases d with d|d<;>simp[d]⟩
   obtain⟨e2,O,e4⟩:=e2;subst e2;obtain⟨m,J,hm,hJ,hr⟩:=I0 hC q (kept++[x]) I x lo len (g+1) (by
    intro z d;simp only[db,cq]at d;rcases d with((d|d)|d)|d|d
    ·exact k z (by simp[d])
    ·simp at d; exact d▸v
    ·have := e4 z d
     simp only[db,cq]at this;rcases this with h|h|h
     ·exact k z (by simp[h])
     ·exact h▸N
     ·simp at h
    ·exact d▸v
    ·exact k z (by simp[d])) (by simp[O]; omega) (by omega) (by simp[O]; omega) (by omega)
   have e:kept++eI ee y (x::q)=(kept++[x])++eI ee x q:=by simp[eI,he]
   refine⟨m+1,J,by simp; omega,by rw[e,hJ]; simp[O]; omega,.next (aa.toEq ?_) (by rw[e]; exact hr)⟩;have kx:x.length=K.length:=by rw[<-hC.eta x v,DQ]
   have hl2:((kept++[x])++I++x::q).length=kept.length+M.length+q.length+2:=by simp[O]; omega
   have e1:(kept++M++y::x::q).set (0+(kept.length:Int).toNat) x=(kept++[x])++I++x::q:=by simpa using e1
   unfold wU;dsimp +instances only[go_sem];simp only[hlen,g1,g2,hC.eta x v,hC.eta y N,DR kx,e1,hl2];(repeat first|refine aa.p ?_|refine aa.n ?_);refine aa.cE (hC.cmp x y v N) ?_;dsimp +instances only[go_sem]
   try simp only[he]
   (repeat first|refine aa.p ?_|refine aa.n ?_);refine aa.some ?_;simp
def Pp(hC:wV K C Q ee):∀(q p:LL) (y:LG),(∀ z∈p++y::q,Q z)->p.length+q.length<99999 ->
  (∃ m,m<=q.length+1/\eI ee y q=q/\ln (um K C Z) m [.l (p++y::q),.i ((p.length:Int)+1)] 1 [.l (p++y::q)]) \/
  ∃ m J,m<=q.length+1/\(p++y::eI ee y q++J).length=p.length+1+q.length/\ln (um K C Z) m [.l (p++y::q),.i ((p.length:Int)+1)] 0 [.l (p++y::eI ee y q++J),.i ((p++y::eI ee y q).length:Int)]
 | [],p,y,h,M=>by
  refine .inl ⟨1,by simp,rfl,.stop (aa.toEq ?_)⟩;simp only[km]at M;unfold um;dsimp +instances only[go_sem];(repeat first|refine aa.p ?_|refine aa.n ?_);exact aa.some rfl
 | x::q,p,y,h,M=>by
  simp only[cn]at M;have k:Q x:=h x (by simp);have v:Q y:=h y (by simp);have U:(p++y::x::q).getD (0+((p.length:Int)+1).toNat) []=x:=by
   have e:p++y::x::q=(p++[y])++x::q:=by simp
   rw[e]; exact nK _ _ _ _ _ (by simp<;>omega)
  have V:(p++y::x::q).getD (0+((p.length:Int)+1-1).toNat) []=y:=nK _ _ _ _ _ (by simp<;>omega);have O:(p++y::x::q).length=p.length+q.length+2:=by simp; omega
  cases he:ee x y with
  | true =>
   obtain⟨m,J,hm,N,d⟩:=I0 hC q (p++[y]) [] x (p.length+1) (q.length+1) 1 (by simpa using h) (by simp) (by omega) (by simp; omega) (by omega);have e:p++y::eI ee y (x::q)=(p++[y])++eI ee x q:=by simp[eI,he]
   have I:(((p++[y])++eI ee x q)++J).length=p.length+q.length+2:=by rw[N]; simp; omega
   have hle:((p++[y])++eI ee x q).length<=p.length+q.length+2:=by rw[<-I]; simp
   have hr':ln (wU K C Z) m [.l (p++y::x::q),.i ((p.length:Int)+1),.i ((0+((p.length:Int)+1).toNat:Nat):Int),.i ((p.length+q.length+2-((p.length:Int)+1).toNat:Nat):Int),.i 1] 0 [.l ((p++[y])++eI ee x q++J),.i (((p++[y])++eI ee x q).length:Int)]:=by
    have a1:(((p++[y]).length:Nat):Int)=(p.length:Int)+1:=by simp
    have a2:((p.length+1:Nat):Int)=((0+((p.length:Int)+1).toNat:Nat):Int):=by omega
    have a3:((q.length+1:Nat):Int)=((p.length+q.length+2-((p.length:Int)+1).toNat:Nat):Int):=by omega
    rw[a1,a2,a3]at d;simpa using d
   refine .inr ⟨1,cB (p.length+q.length+2-((p++[y])++eI ee x q).length) Z,by simp,by rw[e,fu,sW]; simp at hle|-; omega,.stop (aa.toEq ?_)⟩;rw[e];generalize hw:(p++[y])++eI ee x q=w at *;unfold um;dsimp +instances only[go_sem];simp only[O,U,V,hC.eta x k,hC.eta y v];(repeat first|refine aa.p ?_|refine aa.n ?_);refine aa.cE (hC.cmp x y k v) ?_;dsimp +instances only[go_sem]
   try simp only[he]
   (repeat first|refine aa.p ?_|refine aa.n ?_);refine aa.loop (P:=fun x g=>g=_) ⟨m,0,_,hr',by omega,rfl⟩ (by(first|rfl|assumption|(simp only[ay,sl]<;>omega))) ?_;rintro _ _ rfl;dsimp +instances only[go_sem];simp only[I];(repeat first|refine aa.p ?_|refine aa.n ?_);refine aa.some ?_;have t1:List.take (0+(w.length:Int).toNat) (w++J)=w:=by simp
   have t2:List.drop (0+(w.length:Int).toNat+(p.length+q.length+2-(w.length:Int).toNat)) (w++J)=[]:=by
    apply KT; rw[I]; omega
   rw[t1,t2];simp
  | false =>
   have e:eI ee y (x::q)=x::eI ee x q:=by simp[eI,he]
   have key:um K C Z [.l (p++y::x::q),.i ((p.length:Int)+1)]=some (none,[.l ((p++[y])++x::q),.i ((((p++[y]).length:Nat):Int)+1)]):=by
    refine aa.toEq ?_;unfold um;dsimp +instances only[go_sem];simp only[O,U,V,hC.eta x k,hC.eta y v];(repeat first|refine aa.p ?_|refine aa.n ?_);refine aa.cE (hC.cmp x y k v) ?_;dsimp +instances only[go_sem]
    try simp only[he]
    (repeat first|refine aa.p ?_|refine aa.n ?_);refine aa.some ?_;simp
   rcases Pp hC q (p++[y]) x (by simpa using h) (by simp; omega)with⟨m,hm,hc,d⟩|⟨m,J,hm,N,d⟩
   ·refine .inl ⟨m + 1, by simp; omega, by rw [e, hc], .next key ?_⟩
    have:p++y::x::q=(p++[y])++x::q:=by simp
    rw[this]; exact d
   ·have W : p ++ y :: eI ee y (x :: q) = (p ++ [y]) ++ x :: eI ee x q := by rw [e]; simp
    refine .inr ⟨m+1,J,by simp; omega,by rw[W,N]; simp; omega,.next key ?_⟩;rw[W]; exact d
def I1(hC:wV K C Q ee)(rZ:LL)(d:∀ y∈rZ,Q y)(hn:rZ.length<99999):aa (Pn K C Z [.l rZ]) fun g=>∃ J,g=[.l (fV ee rZ++J),.i ((fV ee rZ).length:Int)]/\(fV ee rZ++J).length=rZ.length:=by
 unfold Pn;dsimp +instances only[go_sem]
 match rZ,d,hn with
 | [],_,_=>exact aa.p (aa.some ⟨[],rfl,rfl⟩)
 | [x],_,_=>exact aa.p (aa.some ⟨[],rfl,rfl⟩)
 | y::x::q,d,hn =>
  simp only[cn]at hn;refine aa.n ?_;rcases Pp hC (x::q) [] y (by simpa using d) (by simp; omega)with⟨m,hm,h,d⟩|⟨m,J,hm,k,d⟩
  ·refine aa.loop (P := fun x g => x = 1 /\ g = _) ⟨m, 1, _, d, by simp at hm; omega, rfl, rfl⟩ (by (first|rfl|assumption|(simp only [ay,sl]<;>omega))) ?_
   rintro _ _ ⟨rfl,rfl⟩;refine aa.n (aa.some ⟨[],?_,?_⟩)
   ·(dsimp +instances only [go_sem])
    simp[fV,h]
   ·simp[fV,h]
  ·refine aa.loop (P := fun x g => x = 0 /\ g = _) ⟨m, 0, _, d, by simp at hm; omega, rfl, rfl⟩ (by (first|rfl|assumption|(simp only [ay,sl]<;>omega))) ?_
   rintro _ _ ⟨rfl,rfl⟩;refine aa.p (aa.some ⟨J,?_,?_⟩)
   ·(dsimp +instances only [go_sem])
    simp[fV]
   ·simpa[fV,Nat.add_comm]using k
end
end Go.AL

namespace Go.AL
open Go
variable [Dr]
section
variable {K:List Kd} {Q:LG->Prop}
def I2:∀(K:List Kd) (x:LG),(K.all fun k=>match k with | .list _=>false|_=>true)=true->bq K x x=true
 | [],_,_=>rfl
 | k::K,x,h=>by
  simp only[List.all_cons,aK]at h;simp only[bq,I2 K _ h.2,gX];cases k<;>simp only[rj,beq_self_eq_true]
  simp at h
end
end Go.AL

namespace Go.AL
open Go
variable [Dr]
section
variable {K:List Kd} {Z:LG} {Q:LG->Prop} {C:LG->Option LG} {cp:G->G} {cap:G} {p:LG->Bool}
structure Prd (K:List Kd) (C:LG->Option LG) (cp:G->G) (cap:G) (Q:LG->Prop) (p:LG->Bool):Prop where
 cmp:∀ r,Q r->C [.l [r],cap]=some [.t (p r)]
 eta:∀ r,Q r->aQ K r=r
 fix:cp cap=cap
end
section
variable {K:List Kd} {Z:LG}
end
end Go.AL

namespace Go.AL
open Go
variable [Dr]
section sort
variable {α:Type} {lt:α->α->Bool}
def DT(x:α):∀ p:List α,(jA lt x p).Perm (x::p)
 | []=>yx _
 | y::p=>by
  simp only[jA];cases lt x y with
  |true=>exact(List.Perm.cons y (DT x p)).trans (List.Perm.swap x y p)
  |false=>exact yx _
def Pq:∀(r p:List α),(l5 lt p r).Perm (p++r)
 | [],p=>by simp[l5]
 | x::r,p=>by
  simp only[l5];refine(Pq r (jA lt x p)).trans ?_;refine(List.Perm.append_right r (DT x p)).trans ?_;simpa using(List.perm_middle (a:=x) (l₁:=p) (l₂:=r)).symm
def wW(l:List α):(cR lt l).Perm l:=by
 unfold cR;exact(List.reverse_perm _).trans (by simpa using Pq (lt:=lt) l [])
structure gP (lt:α->α->Bool) (Q:α->Prop):Prop where
 tr:∀ a b c,Q a->Q b->Q c->lt a b=false->lt b c=false->lt a c=false
 DU:∀ a b,Q a->Q b->lt a b=true->lt b a=false
variable {Q:α->Prop}
def Pr(h:gP lt Q){x:α}(k:Q x):∀{p:List α},(∀ y∈p,Q y)->p.Pairwise (fun a b=>lt a b=false)->(jA lt x p).Pairwise (fun a b=>lt a b=false)
 | [],_,_=>by simp[jA]
 | y::p,v,I=>by
  obtain⟨h1,N⟩:=s_.1 I;have M:=v y cX;have q:∀ z∈p,Q z:=fun z d=>v z (dp _ d);simp only[jA];cases g:lt x y with
  | true =>
   refine s_.2 ⟨fun z d=>?_,Pr h k q N⟩;rcases cq.1 ((DT x p).mem_iff.1 d)with rfl|d
   ·exact h.DU _ _ k M g
   ·exact h1 z d
  | false =>
   refine s_.2 ⟨fun z d=>?_,I⟩;rcases cq.1 d with rfl|d
   ·exact g
   ·exact h.tr x y z k M (q z d) g (h1 z d)
def Pt(k:gP lt Q):∀{r p:List α},(∀ y∈p,Q y)->(∀ y∈r,Q y)->p.Pairwise (fun a b=>lt a b=false)->(l5 lt p r).Pairwise (fun a b=>lt a b=false)
 | [],_,_,_,g=>by simpa[l5]using g
 | x::r,p,q,h,g=>by
  simp only[l5];refine Pt k (fun y d=>?_) (fun y d=>h y (dp _ d)) (Pr k (h x cX) q g);rcases cq.1 ((DT x p).mem_iff.1 d)with rfl|d
  ·exact h _ cX
  ·exact q y d
def DV(d:gP lt Q){l:List α}(g:∀ y∈l,Q y):(cR lt l).Pairwise (fun a b=>lt b a=false):=by
 unfold cR;rw[List.pairwise_reverse];exact Pt d (by simp) g List.Pairwise.nil
def I3:∀{l r:List α},l.Perm r->(∀ a∈l,∀ b∈l,lt a b=false->lt b a=false->a=b)->l.Pairwise (fun a b=>lt b a=false)->r.Pairwise (fun a b=>lt b a=false)->l=r
 | [],r,d,_,_,_=>d.nil_eq
 |a::l,[],d,_,_,_=>by simpa using d.length_eq
 | a::l,b::r,d,ha,h1,q=>by
  obtain⟨v,I⟩:=s_.1 h1;obtain⟨M,N⟩:=s_.1 q;have e:a=b:=by
   have hb:b∈a::l:=d.symm.subset cX;have h:a∈b::r:=d.subset cX;rcases cq.1 hb with e|k
   ·exact e.symm
   ·rcases cq.1 h with e | g
    ·exact e
    ·exact ha a cX b hb (M a g) (v b k)
  subst e;rw[I3 ((List.perm_cons a).1 d) (fun x O y U=>ha x (dp _ O) y (dp _ U)) I N]
def Pu(d:gP lt Q){l r:List α}(g:l.Perm r)(k:∀ y∈l,Q y)(ha:∀ a∈l,∀ b∈l,lt a b=false->lt b a=false->a=b):cR lt l=cR lt r :=
 I3 ((wW l).trans (g.trans (wW r).symm)) (fun a h b h'=>ha a ((wW l).mem_iff.1 h) b ((wW l).mem_iff.1 h')) (DV d k)
  (DV d fun y q=>k y (g.mem_iff.2 q))
end sort
def Pv{sp:ke}{q:LG->Option (Option Nat × LG)}{rZ:LL}{k:Nat}{d:LG}{r:Option Nat × LG}(v:qz rZ k=true)
  (h:∀ b p,p.Perm rZ->sp.side d b=true/\∃ g,gf sp.st sp.cL p (sp.init d b)=some g/\q g=some r):qA sp q rZ k d=some r:=by
 unfold qA;rw[v];refine aae fun b p y=>?_;obtain⟨h1,g,I,M⟩:=h b p y;rw[h1,cT,I];exact M
end Go.AL

namespace Go.AL
open Go
variable [Dr]
section
variable {α:Type} (f:α->Int)
end
section
variable {α:Type} {e:α->α->Bool}
end
end Go.AL

namespace Go.AL
open Go
variable [Dr]
section
variable {K:List Kd} {C:LG->Option LG} {Q:LG->Prop} {c:LG->LG->Int}
end
end Go.AL

namespace Go.AL
open Go
variable [Dr]
section
variable {C:LG->Option LG} {Q:LG->Prop} {c:LG->LG->Int}
def gP.mono{α:Type}{lt:α->α->Bool}{Q k:α->Prop}(h:gP lt Q)(g:∀ a,k a->Q a):gP lt k :=
 ⟨fun a b d ha hb q=>h.tr a b d (g a ha) (g b hb) (g d q),fun a b ha hb=>h.DU a b (g a ha) (g b hb)⟩
def uo(C:LG->Option LG)(Q:LG->Prop)(c:LG->LG->Int):Prop:=∀ r s,Q r->Q s->∃ v,C [.l [r],.l [s]]=some [.i v]/\(v<0↔c r s<0)
end
end Go.AL

namespace Go.AL
open Go Go.Proofs
variable [Dr]
variable {C:LG->Option LG} {Q:LG->Prop} {c:LG->LG->Int}
def Pw(hC:uo C Q c){r s:LG}(d:Q r)(g:Q s):decide (Aq C r s<0)=bK c r s:=by
 obtain⟨v,h,k⟩:=hC r s d g;unfold Aq bK;rw[h,cK];show decide (v<0)=_
 rw[nf,dT,dT];exact k
def uq(hC:uo C Q c){rZ:LL}(d:∀ y∈rZ,Q y)(h0:rZ≠[])(i j:Nat):ltOf (pz C rZ) i j=bK c (ir rZ i) (ir rZ j) :=
 Pw hC (d _ (Ar h0 i)) (d _ (Ar h0 j))
def aaN(hC:uo C Q c)(k:gP (bK c) Q){rZ:LL}(d:∀ y∈rZ,Q y)(h0:rZ≠[])(hn:rZ.length<100000):uf C rZ:=by
 have g:=fun i=>d _ (Ar h0 i);refine⟨fun r h s h'=>by obtain⟨v,e,_⟩:=hC r s (d r h) (d s h'); exact⟨v,e⟩,⟨fun x=>?_,fun x y z=>?_,fun x y z=>?_⟩,by omega⟩
 ·rw [uq hC d h0]
  cases h:bK c (ir rZ x) (ir rZ x)with
  |false=>rfl
  |true=>rw[k.DU _ _ (g x) (g x) h]at h; cases h
 ·rw [uq hC d h0, uq hC d h0, uq hC d h0]
  intro h1 q;cases h:bK c (ir rZ x) (ir rZ z)with
  |true=>rfl
  | false =>
   have:=k.tr _ _ _ (g x) (g z) (g y) h (k.DU _ _ (g y) (g z) q);rw[this]at h1;cases h1
 ·rw [uq hC d h0, uq hC d h0, uq hC d h0]
  exact k.tr _ _ _ (g x) (g y) (g z)
def aaO(hC:uo C Q c)(q:gP (bK c) Q)(rZ:LL)(g:∀ y∈rZ,Q y)(hn:rZ.length<100000) :
  ∃ out,uh C [.l rZ]=some [.l out]/\out.Perm rZ/\out.Pairwise fun a b=>bK c b a=false:=by
 unfold uh;have e:(gi [G.l rZ] 0).rZ=rZ:=rfl;rw[e];by_cases h0:rZ=[]
 ·rw [iP h0, h0]
  exact⟨[],rfl,yx _,List.Pairwise.nil⟩
 ·have d := aaN hC q g h0 hn
  rw[iN h0,iP d];have k:=O' d;refine⟨_,rfl,k,?_⟩;refine anb ?_ (aav d);intro a b h1 v h;rw[<-Pw hC (g b (k.mem_iff.1 v)) (g a (k.mem_iff.1 h1)),dF];exact h
def Px(hC:uo C Q c)(g:gP (bK c) Q)(rZ:LL)(k:∀ y∈rZ,Q y)(hn:rZ.length<100000)(ha:∀ a∈rZ,∀ b∈rZ,bK c a b=false->bK c b a=false->a=b) :
  uh C [.l rZ]=some [.l (cR (bK c) rZ)]:=by
 obtain⟨out,h,d,q⟩:=aaO hC g rZ k hn;rw[h,I3 (d.trans (wW (lt:=bK c) rZ).symm) (fun a h1 b v=>ha a (d.mem_iff.1 h1) b (d.mem_iff.1 v)) q (DV g k)]
end Go.AL

namespace Go.AL
open Go
variable [Dr]
noncomputable abbrev Av(r:LG):Int:=(gi r 0).iV
noncomputable abbrev ur(r:LG):Int:=(gi r 1).iV
def IsR(r:LG):Prop:=r=[.i (Av r),.i (ur r)]/\Av r<ur r
def Py(l:LL)(n:Int):Prop:=∃ r∈l,Av r<=n/\n<ur r
def aaQ(l:LL):Prop:=(∀ r∈l,IsR r)/\l.Pairwise fun r s=>ur r<Av s
structure am6 (out:LL) (a b:Int) (os:LL) (ps:LL) (f:Int):Prop where
 low:a<=f
 at_:f=a\/∃ o∈os,f=ur o
 bx:∀ o∈os,ur o<=f\/b<=Av o
 mem:∀ n,Py ps n↔a<=n/\n<f/\n<b/\¬ Py os n
 can:aaQ (out++ps)
 gap:∀ s∈out++ps,ur s<f
 many:ps.length<=os.length
end Go.AL
