/-
 What is proved here: rules by which lifted functions are shown to give what they should. No program in sight; no condition.
-/
import Derived.Test.YtnijefkndkgebaaGreatDoorMD
import Derived.Test.YtnijefkndkgebaaGreatDoorMH
set_option linter.all false
open Bool renaming and_true→fC,and_eq_true→aA,eq_iff_iff→oF
open List renaming length_cons→cz,getElem?_eq_getElem→bO,getD_eq_getElem?_getD→cr,mem_cons→bZ,length_append→e9,mem_append→cS,replicate→bL,mem_cons_self→cT,mem_cons_of_mem→cY,drop_eq_nil_of_le→SG,length_replicate→wy,length_nil→kV,pairwise_cons→kW
open List.Pairwise renaming imp_of_mem→aiq
open List.Perm renaming refl→oG
open Nat renaming le_refl→aG,beq→ad
namespace Go.AL
open Go
variable [Dr]
def aa{β:Type}(x:Option β)(Q:β→Prop):Prop:=∃ r,x=some r∧Q r
def j0(st:List G→Option (Option Nat × List G))(d:List G)(Q:Nat→List G→Prop):Prop:=∃ n x d',iA st n d x d'∧n≤1000000∧Q x d'
namespace aa
variable {β:Type} {Q:β→Prop}
theorem some{r:β}(h:Q r):aa (some r) Q:=⟨r,rfl,h⟩
theorem pos{b:Bool}{x y:Option β}(h:b=true)(d:aa x Q):aa (bif b then x else y) Q:=by subst h; exact d
theorem neg{b:Bool}{x y:Option β}(h:b=false)(d:aa y Q):aa (bif b then x else y) Q:=by subst h; exact d
theorem test{b:Bool}{x y:Option β}(d:b=true→aa x Q)(g:b=false→aa y Q):aa (bif b then x else y) Q:=by
 cases b with
 |true=>exact d rfl
 |false=>exact g rfl
theorem call{t:Option (List G)}{k:List G→Option β}{P:List G→Prop}(h:aa t P)(hk:∀ g,P g→aa (k g) Q):aa (aB t k) Q:=by
 obtain⟨r,h,d⟩:=h;subst h;exact hk r d
theorem iD{c:Bool}{t:Option (List G)}{k:List G→Option β}{P:List G→Prop}(h:aa t P)(d:c=true)(hk:∀ g,P g→aa (k g) Q):aa (eE (c&&t.isSome) t k) Q:=by
 obtain⟨r,h,q⟩:=h;subst h d;exact hk r q
theorem loop{c:Bool}{st:List G→Option (Option Nat × List G)}{d:List G}{k:Nat→List G→Option β}{P:Nat→List G→Prop}(h:j0 st d P)(q:c=true)(hk:∀ x g,P x g→aa (k x g) Q):aa (aM c (bD st d) k) Q:=by
 obtain⟨n,x,d',h,u,v⟩:=h;rw[h.WI u];subst q;exact hk x d' v
theorem tail{c:Bool}{t:Option (Option Nat × List G)}{k:Nat→List G→Option β}{P:Nat→List G→Prop}(h:aa t fun o=>∃ x,o.1=Option.some x∧P x o.2)(u:c=true)(hk:∀ x g,P x g→aa (k x g) Q) :
  aa (aM c (bV t) k) Q:=by
 obtain⟨⟨o,d⟩,rfl,x,q,v⟩:=h;simp only at q;subst q u;exact hk x d v
theorem mono{x:Option β}{P:β→Prop}(h:aa x P)(d:∀ r,P r→Q r):aa x Q:=by
 obtain⟨r,h,g⟩:=h;exact⟨r,h,d r g⟩
theorem eq{x:Option β}{r:β}(h:x=Option.some r):aa x (fun g=>g=r):=⟨r,h,rfl⟩
theorem toEq{x:Option β}{r:β}(h:aa x (fun g=>g=r)):x=Option.some r:=by
 obtain⟨r',h,rfl⟩:=h;exact h
end aa
theorem j0.stop{st:List G→Option (Option Nat × List G)}{d d':List G}{x:Nat}{Q:Nat→List G→Prop}(h:st d=some (some x,d'))(g:Q x d'):j0 st d Q:=⟨1,x,d',.stop h,by omega,g⟩
def aT(st:List G→Option (Option Nat × List G))(d:List G)(m:Nat)(Q:Nat→List G→Prop):Prop:=∃ n x d',iA st n d x d'∧n≤m∧Q x d'
theorem aT.stop{st:List G→Option (Option Nat × List G)}{d d':List G}{x m:Nat}{Q:Nat→List G→Prop}(h:st d=some (some x,d'))(g:Q x d'):aT st d (m+1) Q:=⟨1,x,d',.stop h,by omega,g⟩
theorem aT.next{st:List G→Option (Option Nat × List G)}{d d1:List G}{m:Nat}{Q:Nat→List G→Prop}(h:st d=some (none,d1))(g:aT st d1 m Q):aT st d (m+1) Q:=by
 obtain⟨n,x,d',h1,q,k⟩:=g;exact⟨n+1,x,d',.next h h1,by omega,k⟩
theorem aT.to{st:List G→Option (Option Nat × List G)}{d:List G}{m:Nat}{Q:Nat→List G→Prop}(h:aT st d m Q)(hm:m≤1000000):j0 st d Q:=by
 obtain⟨n,x,d',h1,k,g⟩:=h;exact⟨n,x,d',h1,by omega,g⟩
theorem j0.mono{st:List G→Option (Option Nat × List G)}{d:List G}{P Q:Nat→List G→Prop}(h:j0 st d P)(k:∀ x g,P x g→Q x g):j0 st d Q:=by
 obtain⟨n,x,d',h1,q,u⟩:=h;exact⟨n,x,d',h1,q,k _ _ u⟩
theorem aT.mono{st:List G→Option (Option Nat × List G)}{d:List G}{m:Nat}{P Q:Nat→List G→Prop}(h:aT st d m P)(k:∀ x g,P x g→Q x g):aT st d m Q:=by
 obtain⟨n,x,d',h1,q,u⟩:=h;exact⟨n,x,d',h1,q,k _ _ u⟩
theorem XA{p:Prop}{i:Decidable p}:(@decide p i=true)↔p:=by simp
theorem XB{p:Prop}{i:Decidable p}:(@decide p i=false)↔¬ p:=by simp
theorem Ly{a b:Nat}:ad a b=true↔a=b:=⟨Nat.eq_of_beq_eq_true,fun h=>h▸Nat.beq_refl a⟩
theorem Aa(a:G)(l:List G):gi (a::l) 0=a:=rfl
theorem Ab(a:G)(l:List G)(i:Nat):gi (a::l) (i+1)=gi l i:=rfl
theorem Ac(r:List G)(l:List (List G)):(G.l (r::l)).row=r:=rfl
theorem Ad(l:List (List G)):(G.l l).rows=l:=rfl
theorem Ae(n:Int):(G.i n).int=n:=rfl
theorem Af(s:ByteArray):(G.s s).str=s:=rfl
theorem Ag(b:Bool):(G.t b).bool=b:=rfl
theorem sl:(∀ a b:Int,aj a b=decide (a<b))∧(∀ a b:Int,bl a b=decide (a≤b))∧(∀ n:Int,aw n=decide (0≤n))∧(∀ b:Bool,(b&&true)=b)∧(∀ b:Bool,(true&&b)=b) ∧
  (∀ a b:Bool,((a&&b)=true)=(a=true∧b=true))∧(∀ a b:Bool,((a&&b)=false)=(a=false∨b=false))∧(∀(p:Prop) (i:Decidable p),(@decide p i=true)=p)∧(∀(p:Prop) (i:Decidable p),(@decide p i=false)=¬ p) ∧
  (∀ b:Bool,((!b)=true)=(b=false))∧(∀ b:Bool,((!b)=false)=(b=true))∧(∀ a b:Int,((a==b)=true)=(a=b))∧(∀ a b:Int,((a==b)=false)=¬ (a=b))∧(∀ a b:Int,((a != b)=true)=¬ (a=b))∧(∀ a b:Int,((a != b)=false)=(a=b)) ∧
  (∀(α:Type) (a b:α),(a≠b)=¬ (a=b))∧(∀ a b:Nat,(ad a b=true)=(a=b))∧(∀ a b:Nat,(Nat.ble a b=true)=(a≤b))∧(∀ a b:Nat,(Nat.blt a b=true)=(a<b)) ∧
  (∀(l:List (List G)) (i:Nat) (x:List G),(l.set i x).length=l.length)∧(∀(α:Type) (l r:List α),(l++r).length=l.length+r.length)∧(∀(n:Nat) (x:List G),(bL n x).length=n) ∧
  (∀(α:Type) (x:α) (l:List α),(x::l).length=l.length+1)∧(∀ α:Type,([]:List α).length=0)∧(∀(l:List (List G)) (n:Nat),(l.take n).length=min n l.length)∧(∀(l:List (List G)) (n:Nat),(l.drop n).length=l.length-n) ∧
  (∀ n:Nat,((n:Int)).toNat=n)∧(∀ p:Prop,(True∧p)=p)∧(∀ p:Prop,(p∧True)=p)∧(∀ a b:Bool,((a==b)=true)=(a=b)) :=
 ⟨dY, ff, jQ, fC, Bool.true_and, aA, fun a b => by cases a <;> cases b <;> simp, fun _ _ => propext XA, fun _ _ => propext XB, fun b => by cases b <;> simp, fun b => by cases b <;> simp,
  fun a b=>by simp,fun a b=>by simp,fun a b=>by simp,fun a b=>by simp,fun _ a b=>rfl,fun a b=>propext Ly,fun a b=>by simp,fun a b=>by simp,fun l i x=>List.length_set,fun _ l r=>e9,fun n x=>wy,
  fun _ x l=>rfl,fun _=>rfl,fun l n=>List.length_take,fun l n=>List.length_drop,fun n=>Int.toNat_natCast n,fun p=>true_and p,fun p=>and_true p,fun a b=>by cases a<;>cases b<;>simp⟩
theorem aa.p{β:Type}{Q:β→Prop}{b:Bool}{x y:Option β}(d:aa x Q)(h:b=true:=by first|rfl|assumption|(simp only[aq,sl]<;>omega)):aa (bif b then x else y) Q:=aa.pos h d
theorem aa.n{β:Type}{Q:β→Prop}{b:Bool}{x y:Option β}(d:aa y Q)(h:b=false:=by first|rfl|assumption|(simp only[aq,sl]<;>omega)):aa (bif b then x else y) Q:=aa.neg h d
theorem aa.cE{β:Type}{Q:β→Prop}{t:Option (List G)}{r:List G}{k:List G→Option β}(h:t=Option.some r)(hk:aa (k r) Q):aa (aB t k) Q:=aa.call (aa.eq h) fun _ e=>by subst e; exact hk

end Go.AL

namespace Go.AL
open Go
variable [Dr]
theorem uV{σ:Type}{st:List G→Option (Option Nat × List G)}(mk:σ→Nat→List G)(n:Nat)(fin:σ→Nat × List G)(I:σ→Nat→Prop)(E:Nat→List G→Prop)
  (q:∀ s i,I s i→i<n→aa (st (mk s i)) fun o=>(∃ s',o=(none,mk s' (i+1))∧I s' (i+1))∨∃ c g,o=(some c,g)∧E c g)
  (u:∀ s,I s n→aa (st (mk s n)) fun o=>o=(some (fin s).1,(fin s).2)) :
  ∀(k:Nat) (s:σ) (i:Nat),i+k=n→I s i→aT st (mk s i) (k+1) fun c g=>(∃ s',I s' n∧c=(fin s').1∧g=(fin s').2)∨E c g
 | 0,s,i,hi,d=>by
  have e:i=n:=hi;subst e;obtain⟨o,h,rfl⟩:=u s d;exact aT.stop h (.inl ⟨s,d,rfl,rfl⟩)
 | k+1,s,i,hi,d=>by
  obtain⟨o,h,⟨s',rfl,v⟩|⟨c,g,rfl,y⟩⟩:=q s i d (by omega)
  ·exact aT.next h (uV mk n fin I E q u k s' (i+1) (by omega) v)
  ·exact aT.stop h (.inr y)
theorem XC{rows:List (List G)}{i:Nat}(h:i<rows.length):rows.getD i []∈rows:=by
 rw[cr,bO h];exact List.getElem_mem h
theorem XD{rows:List (List G)}{i:Nat}(h:i<rows.length):rows.take (i+1)=rows.take i++[rows.getD i []]:=by
 rw[List.take_add_one,cr,bO h];rfl
theorem XE{σ:Type}{st:List G→Option (Option Nat × List G)}(mk:σ→Nat→List G)(rows:List (List G))(fin:σ→Nat × List G)(I:σ→Nat→Prop)(E:Nat→List G→Prop)(s:σ)
  (hlen:rows.length<999999) (h0:I s 0)
  (d:∀ s i x,I s i→i<rows.length→rows.getD i []=x→x∈rows→rows.take (i+1)=rows.take i++[x]→aa (st (mk s i)) fun o=>(∃ s',o=(none,mk s' (i+1))∧I s' (i+1))∨∃ c g,o=(some c,g)∧E c g)
  (h:∀ s,I s rows.length→aa (st (mk s rows.length)) fun o=>o=(some (fin s).1,(fin s).2)) :
  j0 st (mk s 0) fun c g=>(∃ s',I s' rows.length∧c=(fin s').1∧g=(fin s').2)∨E c g :=
 (uV mk rows.length fin I E (fun s i k hi=>d s i _ k hi rfl (XC hi) (XD hi)) h rows.length s 0 (by omega) h0).to (by omega)
theorem XF{σ:Type}{st:List G→Option (Option Nat × List G)}(mk:σ→Nat→List G)(rows:List (List G))(fin:σ→Nat × List G)(I:σ→Nat→Prop)(s:σ)
  (hlen:rows.length<999999) (h0:I s 0)
  (k:∀ s i x,I s i→i<rows.length→rows.getD i []=x→x∈rows→rows.take (i+1)=rows.take i++[x]→aa (st (mk s i)) fun o=>∃ s',o=(none,mk s' (i+1))∧I s' (i+1))
  (q:∀ s,I s rows.length→aa (st (mk s rows.length)) fun o=>o=(some (fin s).1,(fin s).2)) :
  j0 st (mk s 0) fun c g=>∃ s',I s' rows.length∧c=(fin s').1∧g=(fin s').2 :=
 (XE mk rows fin I (fun _ _=>False) s hlen h0 (fun s i x a b c d e=>(k s i x a b c d e).mono fun _ h=>.inl h) q).mono fun _ _ h=>h.elim id False.elim
end Go.AL

namespace Go.AL
open Go
variable [Dr]
theorem Db{α:Type}[BEq α][LawfulBEq α](a b:α):(a==b)=(b==a):=by
 rw[oF];simp only[beq_iff_eq];exact eq_comm
theorem XG{k:Kd}{a b:G}:ng k a b=ng k b a:=by
 cases k
 ·exact Db _ _
 ·exact Db _ _
 ·exact Db _ _
 ·rfl
theorem XH{k:Kd}{a b c:G}(h1:ng k a b=true)(d:ng k b c=true):ng k a c=true:=by
 cases k<;>simp only[ng,beq_iff_eq]at *<;>first|exact h1.trans d|cases h1
theorem pE:∀{K:List Kd} {a b:List G},a_ K a b=a_ K b a
 | [],_,_=>rfl
 |k::K,a,b=>by simp only[a_,XG (a:=a.headD default),pE (K:=K) (a:=a.tail)]
theorem rF:∀{K:List Kd} {a b c:List G},a_ K a b=true→a_ K b c=true→a_ K a c=true
 | [],_,_,_,_,_=>rfl
 | k::K,a,b,c,h1,d=>by
  simp only[a_,aA]at *;exact⟨XH h1.1 d.1,rF h1.2 d.2⟩
theorem XI{K:List Kd}{a b c:List G}(h:a_ K a b=true):a_ K a c=a_ K b c:=by
 rw[oF];constructor
 ·exact fun d=>rF (by rw[pE]; exact h) d
 ·exact fun d=>rF h d
theorem uW{K:List Kd}{a b c:List G}(h:a_ K a b=true):a_ K c a=a_ K c b:=by
 rw[pE,XI h,pE]
theorem mu(ks:List Kd)(key:List G):∀(rows:List (List G)) (i:Nat),bW ks key rows i=(bW ks key rows 0).map fun p=>(p.1+i,p.2)
 | [],i=>rfl
 | r::rs,i=>by
  simp only[bW];cases a_ ks key (gi r 0).row with
  |true=>simp
  | false =>
   simp only[cond_false];rw[mu ks key rs (i+1),mu ks key rs (0+1),Option.map_map];congr 1
   funext p
   simp;omega
theorem XJ(ks:List Kd)(key z:List G):az ks [] key z=z:=rfl
theorem yX(ks:List Kd)(r:List G)(rs:List (List G))(key z:List G):az ks (r::rs) key z=bif a_ ks key (gi r 0).row then (gi r 1).row else az ks rs key z:=by
 unfold az;simp only[bW];cases a_ ks key (gi r 0).row with
 |true=>rfl
 | false =>
  simp only[cond_false];rw[mu ks key rs (0+1)];cases bW ks key rs 0<;>rfl
theorem Lz(ks:List Kd)(key:List G):dO ks [] key=false:=rfl
theorem yY(ks:List Kd)(r:List G)(rs:List (List G))(key:List G):dO ks (r::rs) key=(a_ ks key (gi r 0).row||dO ks rs key):=by
 unfold dO;simp only[bW];cases a_ ks key (gi r 0).row with
 |true=>rfl
 | false =>
  simp only[cond_false];rw[mu ks key rs (0+1)];cases bW ks key rs 0<;>rfl
theorem LA(ks:List Kd)(key val:List G)(c:Nat):aL ks [] key val c=[[.l [key],.l [val],.i c]]:=rfl
theorem LB(ks:List Kd)(r:List G)(rs:List (List G))(key val:List G)(c:Nat) :
  aL ks (r::rs) key val c=bif a_ ks key (gi r 0).row then [.l [key],.l [val],.i (gi r 2).int]::rs else r::aL ks rs key val c:=by
 unfold aL;simp only[bW];cases a_ ks key (gi r 0).row with
 |true=>rfl
 | false =>
  simp only[cond_false];rw[mu ks key rs (0+1)];cases bW ks key rs 0<;>rfl
theorem Dc(ks:List Kd)(k v key z:List G)(c:Nat):∀ rows:List (List G),az ks (aL ks rows k v c) key z=bif a_ ks key k then v else az ks rows key z
 | []=>by simp only[LA,yX,XJ]; rfl
 | r::rs=>by
  rw[LB,yX];cases h:a_ ks k (gi r 0).row with
  | true =>
   simp only[cond_true,yX];have e:a_ ks key (gi r 0).row=a_ ks key k:=(uW h).symm;rw[e];cases d:a_ ks key k with
   |true=>simp only[Aa,Ac,d,cond_true]; rfl
   |false=>simp only[Aa,Ac,d,cond_false]
  | false =>
   simp only[cond_false,yX,Dc ks k v key z c rs];cases d:a_ ks key (gi r 0).row with
   |false=>rfl
   | true =>
    cases g:a_ ks key k with
    |false=>rfl
    | true =>
     have:a_ ks k (gi r 0).row=true:=rF (by rw[pE]; exact g) d;rw[this]at h;cases h
theorem LC(ks:List Kd)(k v key:List G)(c:Nat):∀ rows:List (List G),dO ks (aL ks rows k v c) key=(a_ ks key k||dO ks rows key)
 | []=>by simp only[LA,yY,Lz]; rfl
 | r::rs=>by
  rw[LB,yY];cases h:a_ ks k (gi r 0).row with
  | true =>
   simp only[cond_true,yY];have e:a_ ks key (gi r 0).row=a_ ks key k:=(uW h).symm;rw[e];simp only[Aa,Ac];cases a_ ks key k<;>simp
  | false =>
   simp only[cond_false,yY,LC ks k v key c rs];cases a_ ks key (gi r 0).row<;>simp
end Go.AL

namespace Go.AL
open Go
variable [Dr]
def uX(K:List Kd)(C:List G→Option (List G))(d:List G):Option (Option Nat × List G) :=
 (bif (aj (gi d 1).int (gi d 4).int) then (bif ((aw (gi d 4).int)&&(aj (gi d 4).int (((gi d 0).rows.length:Nat):Int))) then (bif (decide ((0+((gi d 4).int).toNat)<(gi d 0).rows.length)) then (bif (aq ((gi d 4).int-1)) then (bif ((aw ((gi d 4).int-1))&&(aj ((gi d 4).int-1) (((gi d 0).rows.length:Nat):Int))) then (bif (decide ((0+((gi d 4).int-1).toNat)<(gi d 0).rows.length)) then (aB (C [.l [(aD K ((gi d 0).rows.getD (0+((gi d 4).int).toNat) []))],.l [(aD K ((gi d 0).rows.getD (0+((gi d 4).int-1).toNat) []))]]) fun g1=>(bif (aj (gi g1 0).int 0) then (bif (aq ((gi d 4).int-1)) then (bif (aq ((gi d 4).int-1)) then (bif ((aw ((gi d 4).int-1))&&(aj ((gi d 4).int-1) (((gi d 0).rows.length:Nat):Int))) then (bif (decide ((0+((gi d 4).int-1).toNat)<(gi d 0).rows.length)) then (bif ((aw (gi d 4).int)&&(aj (gi d 4).int (((gi d 0).rows.length:Nat):Int))) then (bif (decide ((0+((gi d 4).int).toNat)<(gi d 0).rows.length)) then (bif ((aw (gi d 4).int)&&(aj (gi d 4).int (((gi d 0).rows.length:Nat):Int))) then (bif (decide ((0+((gi d 4).int).toNat)<(gi d 0).rows.length)) then (bif ((aw ((gi d 4).int-1))&&(aj ((gi d 4).int-1) (((gi d 0).rows.length:Nat):Int))) then (bif (decide ((0+((gi d 4).int-1).toNat)<((gi d 0).rows.set (0+((gi d 4).int).toNat) (aV K ((gi d 0).rows.getD (0+((gi d 4).int).toNat) []) 0 (aD K ((gi d 0).rows.getD (0+((gi d 4).int-1).toNat) [])))).length)) then (bif (aq ((gi d 4).int-1)) then (bif ((ad (gi d 0).rows.length (((gi d 0).rows.set (0+((gi d 4).int).toNat) (aV K ((gi d 0).rows.getD (0+((gi d 4).int).toNat) []) 0 (aD K ((gi d 0).rows.getD (0+((gi d 4).int-1).toNat) [])))).set (0+((gi d 4).int-1).toNat) (aV K (((gi d 0).rows.set (0+((gi d 4).int).toNat) (aV K ((gi d 0).rows.getD (0+((gi d 4).int).toNat) []) 0 (aD K ((gi d 0).rows.getD (0+((gi d 4).int-1).toNat) [])))).getD (0+((gi d 4).int-1).toNat) []) 0 (aD K ((gi d 0).rows.getD (0+((gi d 4).int).toNat) [])))).length)&&true) then some (none,[.l (((gi d 0).rows.set (0+((gi d 4).int).toNat) (aV K ((gi d 0).rows.getD (0+((gi d 4).int).toNat) []) 0 (aD K ((gi d 0).rows.getD (0+((gi d 4).int-1).toNat) [])))).set (0+((gi d 4).int-1).toNat) (aV K (((gi d 0).rows.set (0+((gi d 4).int).toNat) (aV K ((gi d 0).rows.getD (0+((gi d 4).int).toNat) []) 0 (aD K ((gi d 0).rows.getD (0+((gi d 4).int-1).toNat) [])))).getD (0+((gi d 4).int-1).toNat) []) 0 (aD K ((gi d 0).rows.getD (0+((gi d 4).int).toNat) [])))),.i (gi d 1).int,.i (gi d 2).int,.i (gi d 3).int,.i ((gi d 4).int-1)]) else none) else none) else none) else none) else none) else none) else none) else none) else none) else none) else none) else none) else (bif ((ad (gi d 0).rows.length (gi d 0).rows.length)&&true) then some (some 0,[.l (gi d 0).rows,.i (gi d 1).int,.i (gi d 2).int,.i (gi d 3).int]) else none))) else none) else none) else none) else none) else none) else (bif ((ad (gi d 0).rows.length (gi d 0).rows.length)&&true) then some (some 0,[.l (gi d 0).rows,.i (gi d 1).int,.i (gi d 2).int,.i (gi d 3).int]) else none))
def rG(K:List Kd)(C:List G→Option (List G))(d:List G):Option (Option Nat × List G) :=
 (bif (aj (gi d 3).int (gi d 2).int) then (aM ((ad (gi d 0).rows.length (gi d 0).rows.length)&&true) (bD (uX K C) [.l (gi d 0).rows,.i (gi d 1).int,.i (gi d 2).int,.i (gi d 3).int,.i (gi d 3).int]) fun g g2=>(bif (aq ((gi g2 3).int+1)) then (bif ((ad (gi g2 0).rows.length (gi g2 0).rows.length)&&true) then some (none,[.l (gi g2 0).rows,.i (gi g2 1).int,.i (gi g2 2).int,.i ((gi g2 3).int+1)]) else none) else none)) else some (some 0,[.l (gi d 0).rows]))
def lx(K:List Kd)(C:List G→Option (List G))(d:List G):Option (List G) :=
 (bif (aq ((gi d 1).int+1)) then (aM ((ad (gi d 0).rows.length (gi d 0).rows.length)&&true) (bD (rG K C) [.l (gi d 0).rows,.i (gi d 1).int,.i (gi d 2).int,.i ((gi d 1).int+1)]) fun g g3=>some [.l (gi g3 0).rows]) else none)
def pF(K:List Kd)(C:List G→Option (List G))(d:List G):Option (Option Nat × List G) :=
 (bif (bl (gi d 4).int (gi d 1).int) then (eE (((ad (gi d 0).rows.length (gi d 0).rows.length)&&true)&&((lx K C) [.l (gi d 0).rows,.i (gi d 3).int,.i (gi d 4).int]).isSome) ((lx K C) [.l (gi d 0).rows,.i (gi d 3).int,.i (gi d 4).int]) fun g1=>(bif (aq ((gi d 4).int+(gi d 2).int)) then (bif ((ad (gi d 0).rows.length (gi g1 0).rows.length)&&true) then some (none,[.l (gi g1 0).rows,.i (gi d 1).int,.i (gi d 2).int,.i (gi d 4).int,.i ((gi d 4).int+(gi d 2).int)]) else none) else none)) else (bif ((ad (gi d 0).rows.length (gi d 0).rows.length)&&true) then some (some 0,[.l (gi d 0).rows,.i (gi d 1).int,.i (gi d 2).int,.i (gi d 3).int]) else none))
def XK(K:List Kd)(C:List G→Option (List G))(d:List G):Option (Option Nat × List G) :=
 (bif (bl (gi d 4).int (gi d 1).int) then (bif (aq ((gi d 3).int+(gi d 2).int)) then none else none) else (bif ((ad (gi d 0).rows.length (gi d 0).rows.length)&&true) then some (some 0,[.l (gi d 0).rows,.i (gi d 1).int,.i (gi d 2).int,.i (gi d 3).int]) else none))
def Dd(K:List Kd)(C:List G→Option (List G))(d:List G):Option (Option Nat × List G) :=
 (bif (aj (gi d 2).int (gi d 1).int) then (bif (aq (2*(gi d 2).int)) then (aM ((ad (gi d 0).rows.length (gi d 0).rows.length)&&true) (bD (XK K C) [.l (gi d 0).rows,.i (gi d 1).int,.i (gi d 2).int,.i 0,.i (2*(gi d 2).int)]) fun g g4=>(bif (aq ((gi g4 3).int+(gi g4 2).int)) then (bif (aj ((gi g4 3).int+(gi g4 2).int) (gi g4 1).int) then none else (bif (aq ((gi g4 2).int*2)) then (bif ((ad (gi g4 0).rows.length (gi g4 0).rows.length)&&true) then some (none,[.l (gi g4 0).rows,.i (gi g4 1).int,.i ((gi g4 2).int*2)]) else none) else none)) else none)) else none) else some (some 0,[.l (gi d 0).rows]))
def yZ(K:List Kd)(C:List G→Option (List G))(d:List G):Option (List G) :=
 (aM ((ad (gi d 0).rows.length (gi d 0).rows.length)&&true) (bD (pF K C) [.l (gi d 0).rows,.i (gi d 1).int,.i 20,.i 0,.i 20]) fun g g2=>(eE (((ad (gi g2 0).rows.length (gi g2 0).rows.length)&&true)&&((lx K C) [.l (gi g2 0).rows,.i (gi g2 3).int,.i (gi g2 1).int]).isSome) ((lx K C) [.l (gi g2 0).rows,.i (gi g2 3).int,.i (gi g2 1).int]) fun g3=>(aM ((ad (gi g2 0).rows.length (gi g3 0).rows.length)&&true) (bD (Dd K C) [.l (gi g3 0).rows,.i (gi g2 1).int,.i (gi g2 2).int]) fun h g5=>some [.l (gi g5 0).rows])))
def LD(K:List Kd)(C:List G→Option (List G))(d:List G):Option (List G) :=
 (eE (((ad (gi d 0).rows.length (gi d 0).rows.length)&&true)&&((yZ K C) [.l (gi d 0).rows,.i (((gi d 0).rows.length:Nat):Int)]).isSome) ((yZ K C) [.l (gi d 0).rows,.i (((gi d 0).rows.length:Nat):Int)]) fun g1=>some [.l (gi g1 0).rows])
theorem iW{α:Type}(l:List α)(x:α)(q:List α)(z:α)(n:Nat)(h:n=l.length):(l++x::q).getD n z=x:=by subst h; simp
theorem LF{α:Type}(l:List α)(x y:α)(q:List α)(n:Nat)(h:n=l.length):(l++x::q).set n y=l++y::q:=by subst h; simp
def fT{α:Type}(lt:α→α→Bool)(x:α):List α→List α
 | []=>[x]
 |y::p=>bif lt x y then y::fT lt x p else x::y::p
def iX{α:Type}(lt:α→α→Bool):List α→List α→List α
 |p,[]=>p
 |p,x::r=>iX lt (fT lt x p) r
def cP{α:Type}(lt:α→α→Bool)(l:List α):List α:=(iX lt [] l).reverse
theorem y8{α:Type}(lt:α→α→Bool)(x:α):∀ p,(fT lt x p).length=p.length+1
 | []=>rfl
 | y::p=>by
  simp only[fT];cases lt x y with
  |true=>simp[y8 lt x p]
  |false=>simp
theorem De{α:Type}{Q:α→Prop}{lt:α→α→Bool}{x:α}(g:Q x):∀{p:List α},(∀ y∈p,Q y)→∀ y∈fT lt x p,Q y
 | [],_,y,d=>by simp[fT]at d; exact d▸g
 | z::p,h,y,d=>by
  simp only[fT]at d;cases k:lt x z with
  | true =>
   rw[k]at d;rcases bZ.1 d with rfl|d
   ·exact h _ cT
   ·exact De g (fun y d=>h y (cY _ d)) y d
  | false =>
   rw[k]at d;rcases bZ.1 d with rfl|d
   ·exact g
   ·exact h y d
theorem LG{α:Type}(lt:α→α→Bool):∀(p r:List α),(iX lt p r).length=p.length+r.length
 |p,[]=>rfl
 |p,x::r=>by simp only[iX,LG lt,y8,cz]; omega
theorem LH{α:Type}{Q:α→Prop}{lt:α→α→Bool}:∀{r p:List α},(∀ y∈p,Q y)→(∀ y∈r,Q y)→∀ y∈iX lt p r,Q y
 | [],_,d,_=>d
 | x::r,p,d,g=>by
  simp only[iX];exact LH (De (g x cT) d) fun y h=>g y (cY _ h)
theorem uY{α:Type}(lt:α→α→Bool)(l:List α):(cP lt l).length=l.length:=by simp[cP,LG]
theorem LI{α:Type}{Q:α→Prop}{lt:α→α→Bool}{l:List α}(h:∀ y∈l,Q y):∀ y∈cP lt l,Q y:=by
 intro y d;exact LH (p:=[]) (by simp) h y (by simpa[cP]using d)
theorem y9:∀(K:List Kd) (r:List G),(aD K r).length=K.length
 | [],_=>rfl
 |k::K,r=>by simp[aD,y9 K]
theorem Df{K:List Kd}{r gs:List G}(h:gs.length=K.length):aV K r 0 gs=gs:=by
 simp[aV,h,BY,SG]
section
variable {K:List Kd} {C:List G→Option (List G)} {Q:List G→Prop} {c:List G→List G→Int}
structure pG (K:List Kd) (C:List G→Option (List G)) (Q:List G→Prop) (c:List G→List G→Int):Prop where
 cmp:∀ r s,Q r→Q s→C [.l [r],.l [s]]=some [.i (c r s)]
 eta:∀ r,Q r→aD K r=r
def bE(c:List G→List G→Int)(r s:List G):Bool:=aj (c r s) 0
theorem LJ(hC:pG K C Q c):∀(p q:List (List G)) (x:List G) (b i:Int) (j:Nat),(∀ y∈p,Q y)→Q x→p.length<1000000→j=p.length →
  ∃ m,m≤p.length+1∧iA (uX K C) m [.l (p.reverse++x::q),.i 0,.i b,.i i,.i (j:Int)] 0 [.l ((fT (bE c) x p).reverse++q),.i 0,.i b,.i i]
 | [],q,x,b,i,j,_,_,_,d=>by
  simp only[kV]at d;subst d;refine⟨1,by simp,.stop (aa.toEq ?_)⟩;unfold uX
  (dsimp +instances only[Aa,Ab,Ac,Ad,Ae,Af,Ag])
  refine aa.n (aa.p (aa.some ?_));rfl
 | y::p,q,x,b,i,j,v,g,M,d=>by
  have k:=v y cT;have B:(y::p).reverse++x::q=(p.reverse++[y])++x::q:=by simp
  have N:(y::p).reverse++x::q=p.reverse++y::x::q:=by simp
  simp only[cz]at M d;have g1:((y::p).reverse++x::q).getD (0+(j:Int).toNat) []=x:=by rw[B]; exact iW _ _ _ _ _ (by simp[d])
  have g2:((y::p).reverse++x::q).getD (0+((j:Int)-1).toNat) []=y:=by rw[N]; exact iW _ _ _ _ _ (by simp[d])
  have hlen:((y::p).reverse++x::q).length=p.length+q.length+2:=by simp; omega
  have u:=hC.cmp x y g k;cases h:bE c x y with
  | false =>
   refine⟨1,by simp,.stop (aa.toEq ?_)⟩;unfold uX
   (dsimp +instances only[Aa,Ab,Ac,Ad,Ae,Af,Ag])
   simp only[hlen,g1,g2,hC.eta x g,hC.eta y k];refine aa.p (aa.p (aa.p (aa.p (aa.p (aa.p (aa.call (aa.eq u) ?_))))));rintro _ rfl
   (dsimp +instances only[Aa,Ab,Ac,Ad,Ae,Af,Ag])
   refine aa.neg h (aa.p (aa.some ?_));simp[fT,h]
  | true =>
   obtain⟨m,hm,O⟩:=LJ hC p (y::q) x b i (j-1) (fun z U=>v z (cY _ U)) g (by omega) (by omega);refine⟨m+1,by simp; omega,.next (aa.toEq ?_) (by
    have e:(fT (bE c) x (y::p)).reverse++q=(fT (bE c) x p).reverse++y::q:=by simp[fT,h]
    rw[e]; exact O)⟩
   have s1:((y::p).reverse++x::q).set (0+(j:Int).toNat) y=p.reverse++y::y::q:=by
    rw[B,LF _ _ _ _ _ (by simp[d])]; simp
   have s2:(p.reverse++y::y::q).set (0+((j:Int)-1).toNat) x=p.reverse++x::y::q:=LF _ _ _ _ _ (by simp[d]);have I:(p.reverse++y::y::q).length=p.length+q.length+2:=by simp; omega
   have J:(p.reverse++x::y::q).length=p.length+q.length+2:=by simp; omega
   have V:y.length=K.length:=by rw[←hC.eta y k,y9]
   have W:x.length=K.length:=by rw[←hC.eta x g,y9]
   unfold uX
   (dsimp +instances only[Aa,Ab,Ac,Ad,Ae,Af,Ag])
   simp only[hlen,g1,g2,hC.eta x g,hC.eta y k,Df V,Df W,s1,s2,I,J];refine aa.p (aa.p (aa.p (aa.p (aa.p (aa.p (aa.call (aa.eq u) ?_))))));rintro _ rfl
   (dsimp +instances only[Aa,Ab,Ac,Ad,Ae,Af,Ag])
   refine aa.pos h ?_;refine aa.p (aa.p (aa.p (aa.p (aa.p (aa.p (aa.p (aa.p (aa.p (aa.p (aa.p (aa.p (aa.some ?_))))))))))));congr;omega
theorem LK(hC:pG K C Q c):∀(r p:List (List G)) (i n:Nat),(∀ y∈p,Q y)→(∀ y∈r,Q y)→i=p.length→n=p.length+r.length→n<100000 →
  ∃ m,m≤r.length+1∧iA (rG K C) m [.l (p.reverse++r),.i 0,.i (n:Int),.i (i:Int)] 0 [.l (iX (bE c) p r).reverse]
 | [],p,i,n,_,_,hi,d,k=>by
  refine⟨1,by simp,.stop (aa.toEq ?_)⟩;simp only[kV]at d;unfold rG
  (dsimp +instances only[Aa,Ab,Ac,Ad,Ae,Af,Ag])
  refine aa.n (aa.some ?_);simp[iX]
 | x::r,p,i,n,q,h,hi,d,k=>by
  simp only[cz]at d;obtain⟨m1,B,h1⟩:=LJ hC p r x (n:Int) (i:Int) i q (h x cT) (by omega) hi;obtain⟨m,hm,u⟩:=LK hC r (fT (bE c) x p) (i+1) n (De (h x cT) q) (fun y v=>h y (cY _ v)) (by rw[y8,hi]) (by rw[y8]; omega) k;refine⟨m+1,by simp; omega,.next (aa.toEq ?_) u⟩;unfold rG
  (dsimp +instances only[Aa,Ab,Ac,Ad,Ae,Af,Ag])
  refine aa.p (aa.loop (P:=fun x g=>g=_) ⟨m1,0,_,h1,by omega,rfl⟩ (by(first|rfl|assumption|(simp only[aq,sl]<;>omega))) ?_);rintro _ _ rfl
  (dsimp +instances only[Aa,Ab,Ac,Ad,Ae,Af,Ag])
  refine aa.p (aa.p (aa.some ?_));rfl
theorem XL(hC:pG K C Q c)(rows:List (List G))(d:∀ y∈rows,Q y)(k:rows.length<100000):lx K C [.l rows,.i 0,.i (rows.length:Int)]=some [.l (cP (bE c) rows)]:=by
 refine aa.toEq ?_;unfold lx
 (dsimp +instances only[Aa,Ab,Ac,Ad,Ae,Af,Ag])
 refine aa.p ?_;cases rows with
 | nil =>
  refine aa.loop (P:=fun x g=>g=[.l []]) ⟨1,0,_,.stop (aa.toEq (?_:aa _ (fun g=>g=(some 0,[G.l []])))),by omega,rfl⟩ (by(first|rfl|assumption|(simp only[aq,sl]<;>omega))) ?_
  ·unfold rG
   (dsimp +instances only[Aa,Ab,Ac,Ad,Ae,Af,Ag])
   exact aa.n (aa.some rfl)
  ·rintro _ _ rfl
   exact aa.some rfl
 | cons x r =>
  simp only[cz]at k;obtain⟨m,hm,h⟩:=LK hC r [x] 1 (r.length+1) (by simpa using d x cT) (fun y q=>d y (cY _ q)) rfl (by simp; omega) (by omega);refine aa.loop (P:=fun y g=>g=_) ⟨m,0,_,h,by omega,rfl⟩ (by(first|rfl|assumption|(simp only[aq,sl]<;>omega))) ?_;rintro _ _ rfl;exact aa.some rfl
theorem XM(rows:List (List G))(a b:Nat)(h:b≤a)(d:a<100000):lx K C [.l rows,.i (a:Int),.i (b:Int)]=some [.l rows]:=by
 refine aa.toEq ?_;unfold lx
 (dsimp +instances only[Aa,Ab,Ac,Ad,Ae,Af,Ag])
 refine aa.p ?_;refine aa.loop (P:=fun x g=>g=[.l rows]) ⟨1,0,_,.stop (aa.toEq (?_:aa _ (fun g=>g=(some 0,[G.l rows])))),by omega,rfl⟩ (by(first|rfl|assumption|(simp only[aq,sl]<;>omega))) ?_
 ·unfold rG
  (dsimp +instances only[Aa,Ab,Ac,Ad,Ae,Af,Ag])
  exact aa.n (aa.some rfl)
 ·rintro _ _ rfl
  exact aa.some rfl
theorem XN(hC:pG K C Q c)(rows:List (List G))(q:∀ y∈rows,Q y)(B:rows.length≤20):yZ K C [.l rows,.i (rows.length:Int)]=some [.l (cP (bE c) rows)]:=by
 refine aa.toEq ?_;unfold yZ
 (dsimp +instances only[Aa,Ab,Ac,Ad,Ae,Af,Ag])
 have d:=XL hC rows q (by omega);have hlen:=uY (bE c) rows;have k:∀ rows':List (List G),rows'.length=rows.length→j0 (Dd K C) [.l rows',.i (rows.length:Int),.i 20] fun _ g=>g=[.l rows']:=by
  intro rows' I;refine j0.stop (x:=0) (aa.toEq ?_) rfl;unfold Dd
  (dsimp +instances only[Aa,Ab,Ac,Ad,Ae,Af,Ag])
  exact aa.n (aa.some rfl)
 by_cases h:rows.length=20
 ·have h1:pF K C [.l rows,.i (rows.length:Int),.i 20,.i 0,.i 20]=some (none,[.l (cP (bE c) rows),.i (rows.length:Int),.i 20,.i 20,.i 40]):=by
   refine aa.toEq ?_;unfold pF
   (dsimp +instances only[Aa,Ab,Ac,Ad,Ae,Af,Ag])
   have d:lx K C [.l rows,.i 0,.i 20]=some [.l (cP (bE c) rows)]:=by rw[h]at d; exact d
   refine aa.p (aa.iD (aa.eq d) (by(first|rfl|assumption|(simp only[aq,sl]<;>omega))) ?_);rintro _ rfl
   (dsimp +instances only[Aa,Ab,Ac,Ad,Ae,Af,Ag])
   exact aa.p (aa.p (aa.some rfl))
  have u:pF K C [.l (cP (bE c) rows),.i (rows.length:Int),.i 20,.i 20,.i 40]=some (some 0,[.l (cP (bE c) rows),.i (rows.length:Int),.i 20,.i 20]):=by
   refine aa.toEq ?_;unfold pF
   (dsimp +instances only[Aa,Ab,Ac,Ad,Ae,Af,Ag])
   exact aa.n (aa.p (aa.some rfl))
  refine aa.loop (P:=fun x g=>g=_) ⟨2,0,_,.next h1 (.stop u),by omega,rfl⟩ (by(first|rfl|assumption|(simp only[aq,sl]<;>omega))) ?_;rintro _ _ rfl
  (dsimp +instances only[Aa,Ab,Ac,Ad,Ae,Af,Ag])
  have v:lx K C [.l (cP (bE c) rows),.i 20,.i (rows.length:Int)]=some [.l (cP (bE c) rows)]:=by
   rw[h]; exact XM _ 20 20 (by omega) (by omega)
  refine aa.iD (aa.eq v) (by(first|rfl|assumption|(simp only[aq,sl]<;>omega))) ?_;rintro _ rfl
  (dsimp +instances only[Aa,Ab,Ac,Ad,Ae,Af,Ag])
  refine aa.loop (k _ hlen) (by(first|rfl|assumption|(simp only[aq,sl]<;>omega))) ?_;rintro _ _ rfl;exact aa.some rfl
 ·have h1:pF K C [.l rows,.i (rows.length:Int),.i 20,.i 0,.i 20]=some (some 0,[.l rows,.i (rows.length:Int),.i 20,.i 0]):=by
   refine aa.toEq ?_;unfold pF
   (dsimp +instances only[Aa,Ab,Ac,Ad,Ae,Af,Ag])
   exact aa.n (aa.p (aa.some rfl))
  refine aa.loop (P:=fun x g=>g=_) ⟨1,0,_,.stop h1,by omega,rfl⟩ (by(first|rfl|assumption|(simp only[aq,sl]<;>omega))) ?_;rintro _ _ rfl
  (dsimp +instances only[Aa,Ab,Ac,Ad,Ae,Af,Ag])
  refine aa.iD (aa.eq d) (by(first|rfl|assumption|(simp only[aq,sl]<;>omega))) ?_;rintro _ rfl
  (dsimp +instances only[Aa,Ab,Ac,Ad,Ae,Af,Ag])
  refine aa.loop (k _ hlen) (by(first|rfl|assumption|(simp only[aq,sl]<;>omega))) ?_;rintro _ _ rfl;exact aa.some rfl
theorem LL(hC:pG K C Q c)(rows:List (List G))(d:∀ y∈rows,Q y)(g:rows.length≤20):LD K C [.l rows]=some [.l (cP (bE c) rows)]:=by
 refine aa.toEq ?_;unfold LD
 (dsimp +instances only[Aa,Ab,Ac,Ad,Ae,Af,Ag])
 refine aa.iD (aa.eq (XN hC rows d g)) (by(first|rfl|assumption|(simp only[aq,sl]<;>omega))) ?_;rintro _ rfl;exact aa.some rfl
end
end Go.AL

namespace Go.AL
open Go
variable [Dr]
def rH(K:List Kd)(C:List G→Option (List G))(Z:List G)(d:List G):Option (Option Nat × List G) :=
 (bif (aj (gi d 4).int (((gi d 3).int.toNat:Nat):Int)) then (bif ((aw (gi d 4).int)&&(aj (gi d 4).int (((gi d 3).int.toNat:Nat):Int))) then (bif (decide (((gi d 2).int.toNat+((gi d 4).int).toNat)<(gi d 0).rows.length)) then (bif (aq ((gi d 4).int-1)) then (bif ((aw ((gi d 4).int-1))&&(aj ((gi d 4).int-1) (((gi d 3).int.toNat:Nat):Int))) then (bif (decide (((gi d 2).int.toNat+((gi d 4).int-1).toNat)<(gi d 0).rows.length)) then (aB (C [.l [(aD K ((gi d 0).rows.getD ((gi d 2).int.toNat+((gi d 4).int).toNat) []))],.l [(aD K ((gi d 0).rows.getD ((gi d 2).int.toNat+((gi d 4).int-1).toNat) []))]]) fun g2=>(bif (!(gi g2 0).bool) then (bif ((aw (gi d 4).int)&&(aj (gi d 4).int (((gi d 3).int.toNat:Nat):Int))) then (bif (decide (((gi d 2).int.toNat+((gi d 4).int).toNat)<(gi d 0).rows.length)) then (bif ((aw (gi d 1).int)&&(aj (gi d 1).int (((gi d 0).rows.length:Nat):Int))) then (bif (decide ((0+((gi d 1).int).toNat)<(gi d 0).rows.length)) then (bif (aq ((gi d 1).int+1)) then (bif (aq ((gi d 4).int+1)) then (bif ((ad (gi d 0).rows.length ((gi d 0).rows.set (0+((gi d 1).int).toNat) (aV K ((gi d 0).rows.getD (0+((gi d 1).int).toNat) []) 0 (aD K ((gi d 0).rows.getD ((gi d 2).int.toNat+((gi d 4).int).toNat) [])))).length)&&true) then some (none,[.l ((gi d 0).rows.set (0+((gi d 1).int).toNat) (aV K ((gi d 0).rows.getD (0+((gi d 1).int).toNat) []) 0 (aD K ((gi d 0).rows.getD ((gi d 2).int.toNat+((gi d 4).int).toNat) [])))),.i ((gi d 1).int+1),.i (((gi d 2).int.toNat:Nat):Int),.i (((gi d 3).int.toNat:Nat):Int),.i ((gi d 4).int+1)]) else none) else none) else none) else none) else none) else none) else none) else (bif (aq ((gi d 4).int+1)) then (bif ((ad (gi d 0).rows.length (gi d 0).rows.length)&&true) then some (none,[.l (gi d 0).rows,.i (gi d 1).int,.i (((gi d 2).int.toNat:Nat):Int),.i (((gi d 3).int.toNat:Nat):Int),.i ((gi d 4).int+1)]) else none) else none))) else none) else none) else none) else none) else none) else (bif ((ad (gi d 0).rows.length (gi d 0).rows.length)&&true) then some (some 0,[.l (gi d 0).rows,.i (gi d 1).int]) else none))
def pH(K:List Kd)(C:List G→Option (List G))(Z:List G)(d:List G):Option (Option Nat × List G) :=
 (bif (aj (gi d 1).int (((gi d 0).rows.length:Nat):Int)) then (bif ((aw (gi d 1).int)&&(aj (gi d 1).int (((gi d 0).rows.length:Nat):Int))) then (bif (decide ((0+((gi d 1).int).toNat)<(gi d 0).rows.length)) then (bif (aq ((gi d 1).int-1)) then (bif ((aw ((gi d 1).int-1))&&(aj ((gi d 1).int-1) (((gi d 0).rows.length:Nat):Int))) then (bif (decide ((0+((gi d 1).int-1).toNat)<(gi d 0).rows.length)) then (aB (C [.l [(aD K ((gi d 0).rows.getD (0+((gi d 1).int).toNat) []))],.l [(aD K ((gi d 0).rows.getD (0+((gi d 1).int-1).toNat) []))]]) fun g1=>(bif (gi g1 0).bool then (bif ((aw (gi d 1).int)&&(bl (gi d 1).int (((gi d 0).rows.length:Nat):Int))) then (aM ((ad (gi d 0).rows.length (gi d 0).rows.length)&&true) (bD (rH K C Z) [.l (gi d 0).rows,.i (gi d 1).int,.i (((0+((gi d 1).int).toNat):Nat):Int),.i ((((gi d 0).rows.length-((gi d 1).int).toNat):Nat):Int),.i 1]) fun g g3=>(bif ((aw (gi g3 1).int)&&(bl (gi g3 1).int (((gi g3 0).rows.length:Nat):Int))) then (bif (Nat.ble ((0+((gi g3 1).int).toNat)+((gi g3 0).rows.length-((gi g3 1).int).toNat)) (gi g3 0).rows.length) then (bif ((aw (gi g3 1).int)&&(bl (gi g3 1).int (((gi g3 0).rows.length:Nat):Int))) then some (some 0,[.l ((gi g3 0).rows.take (0+((gi g3 1).int).toNat)++bL ((gi g3 0).rows.length-((gi g3 1).int).toNat) Z++(gi g3 0).rows.drop ((0+((gi g3 1).int).toNat)+((gi g3 0).rows.length-((gi g3 1).int).toNat))),.i (((((gi g3 1).int).toNat-0):Nat):Int)]) else none) else none) else none)) else none) else (bif (aq ((gi d 1).int+1)) then (bif ((ad (gi d 0).rows.length (gi d 0).rows.length)&&true) then some (none,[.l (gi d 0).rows,.i ((gi d 1).int+1)]) else none) else none))) else none) else none) else none) else none) else none) else (bif ((ad (gi d 0).rows.length (gi d 0).rows.length)&&true) then some (some 1,[.l (gi d 0).rows]) else none))
def LM(K:List Kd)(C:List G→Option (List G))(Z:List G)(d:List G):Option (List G) :=
 (bif (aj (((gi d 0).rows.length:Nat):Int) 2) then some [.l (gi d 0).rows,.i (((gi d 0).rows.length:Nat):Int)] else (aM ((ad (gi d 0).rows.length (gi d 0).rows.length)&&true) (bD (pH K C Z) [.l (gi d 0).rows,.i 1]) fun g g4=>(bif ad g 0 then some [.l (gi g4 0).rows,.i (((gi g4 1).int.toNat:Nat):Int)] else some [.l (gi g4 0).rows,.i (((gi g4 0).rows.length:Nat):Int)])))
def cW{α:Type}(e:α→α→Bool):α→List α→List α
 |_,[]=>[]
 |y,x::q=>bif e x y then cW e x q else x::cW e x q
def eV{α:Type}(e:α→α→Bool):List α→List α
 | []=>[]
 |x::q=>x::cW e x q
theorem LN{α:Type}(e:α→α→Bool):∀(q:List α) (y:α),(cW e y q).length≤q.length
 | [],_=>aG _
 | x::q,y=>by
  have:=LN e q x;simp only[cW];cases e x y with
  |true=>simp; omega
  |false=>simp; omega
theorem Dg{α:Type}{e:α→α→Bool}:∀{q:List α} {y z:α},z∈cW e y q→z∈q
 | x::q,y,z,h=>by
  simp only[cW]at h;cases he:e x y with
  |true=>rw[he]at h; exact cY _ (Dg h)
  | false =>
   rw[he]at h;rcases bZ.1 h with rfl|h
   ·exact cT
   ·exact cY _ (Dg h)
theorem Dh{α:Type}{e:α→α→Bool}:∀{l:List α} {z:α},z∈eV e l→z∈l
 | x::q,z,h=>by
  rcases bZ.1 h with rfl|h
  ·exact cT
  ·exact cY _ (Dg h)
theorem LO{α:Type}(e:α→α→Bool):∀ l:List α,(eV e l).length≤l.length
 | []=>aG _
 |x::q=>by have:=LN e q x; simp[eV]; omega
section
variable {K:List Kd} {Z:List G} {Q:List G→Prop}
structure Di (K:List Kd) (Q:List G→Prop):Prop where
 eta:∀ r,Q r→aD K r=r
structure uZ (K:List Kd) (C:List G→Option (List G)) (Q:List G→Prop) (e:List G→List G→Bool):Prop where
 cmp:∀ r s,Q r→Q s→C [.l [r],.l [s]]=some [.t (e r s)]
 eta:∀ r,Q r→aD K r=r
variable {C:List G→Option (List G)} {ee:List G→List G→Bool}
theorem Dj(hC:uZ K C Q ee):∀(q kept M:List (List G)) (y:List G) (lo len g:Nat),(∀ z∈kept++M++y::q,Q z)→lo+g=kept.length+M.length+1→g+q.length=len→kept.length+M.length+q.length<100000→1≤g →
  ∃ m J,m≤q.length+1∧(kept++cW ee y q++J).length=kept.length+M.length+1+q.length∧iA (rH K C Z) m [.l (kept++M++y::q),.i (kept.length:Int),.i (lo:Int),.i (len:Int),.i (g:Int)] 0 [.l (kept++cW ee y q++J),.i ((kept++cW ee y q).length:Int)]
 | [],kept,M,y,lo,len,g,k,h1,O,U,h4=>by
  refine⟨1,M++[y],by simp,by simp[cW]; omega,.stop (aa.toEq ?_)⟩;simp only[kV]at O U;unfold rH
  (dsimp +instances only[Aa,Ab,Ac,Ad,Ae,Af,Ag])
  (repeat first|refine aa.p ?_|refine aa.n ?_)
  refine aa.some ?_;simp[cW]
 | x::q,kept,M,y,lo,len,g,k,h1,O,U,h4=>by
  simp only[cz]at O U;have u:Q x:=k x (by simp);have B:Q y:=k y (by simp);have g1:(kept++M++y::x::q).getD ((lo:Int).toNat+(g:Int).toNat) []=x:=by
   have e:kept++M++y::x::q=(kept++M++[y])++x::q:=by simp
   rw[e]; exact iW _ _ _ _ _ (by simp<;>omega)
  have g2:(kept++M++y::x::q).getD ((lo:Int).toNat+((g:Int)-1).toNat) []=y:=iW _ _ _ _ _ (by simp; omega);have hlen:(kept++M++y::x::q).length=kept.length+M.length+q.length+2:=by simp; omega
  cases he:ee x y with
  | true =>
   obtain⟨m,J,hm,V,W⟩:=Dj hC q kept (M++[y]) x lo len (g+1) (by simpa using k) (by simp; omega) (by omega) (by simp; omega) (by omega);have e:cW ee y (x::q)=cW ee x q:=by simp[cW,he]
   refine⟨m+1,J,by simp; omega,by rw[e,V]; simp; omega,.next (aa.toEq ?_) (by rw[e]; exact W)⟩;unfold rH
   (dsimp +instances only[Aa,Ab,Ac,Ad,Ae,Af,Ag])
   simp only[hlen,g1,g2,hC.eta x u,hC.eta y B]
   (repeat first|refine aa.p ?_|refine aa.n ?_)
   refine aa.cE (hC.cmp x y u B) ?_
   (dsimp +instances only[Aa,Ab,Ac,Ad,Ae,Af,Ag])
   try simp only[he]
   (repeat first|refine aa.p ?_|refine aa.n ?_)
   refine aa.some ?_;simp
  | false =>
   obtain⟨N,v,e1,e2⟩:∃ N v,(kept++M++y::x::q).set kept.length x=N++v++x::q∧(N=kept++[x]∧v.length=M.length∧∀ z∈v,z∈M++[y]):=by
    cases M with
    |nil=>exact⟨kept++[x],[],by simp,rfl,rfl,by simp⟩
    |cons z M=>exact⟨kept++[x],M++[y],by simp,rfl,by simp,by simp; intro z d; rcases d with d|d<;>simp[d]⟩
   obtain⟨e2,I,e4⟩:=e2;subst e2;obtain⟨m,J,hm,V,W⟩:=Dj hC q (kept++[x]) v x lo len (g+1) (by
    intro z d;simp only[cS,bZ]at d;rcases d with((d|d)|d)|d|d
    ·exact k z (by simp[d])
    ·simp at d; exact d▸u
    ·have := e4 z d
     simp only[cS,bZ]at this;rcases this with h|h|h
     ·exact k z (by simp[h])
     ·exact h▸B
     ·simp at h
    ·exact d▸u
    ·exact k z (by simp[d])) (by simp[I]; omega) (by omega) (by simp[I]; omega) (by omega)
   have e:kept++cW ee y (x::q)=(kept++[x])++cW ee x q:=by simp[cW,he]
   refine⟨m+1,J,by simp; omega,by rw[e,V]; simp[I]; omega,.next (aa.toEq ?_) (by rw[e]; exact W)⟩;have kx:x.length=K.length:=by rw[←hC.eta x u,y9]
   have hl2:((kept++[x])++v++x::q).length=kept.length+M.length+q.length+2:=by simp[I]; omega
   have e1:(kept++M++y::x::q).set (0+(kept.length:Int).toNat) x=(kept++[x])++v++x::q:=by simpa using e1
   unfold rH
   (dsimp +instances only[Aa,Ab,Ac,Ad,Ae,Af,Ag])
   simp only[hlen,g1,g2,hC.eta x u,hC.eta y B,Df kx,e1,hl2]
   (repeat first|refine aa.p ?_|refine aa.n ?_)
   refine aa.cE (hC.cmp x y u B) ?_
   (dsimp +instances only[Aa,Ab,Ac,Ad,Ae,Af,Ag])
   try simp only[he]
   (repeat first|refine aa.p ?_|refine aa.n ?_)
   refine aa.some ?_;simp
theorem LP(hC:uZ K C Q ee):∀(q p:List (List G)) (y:List G),(∀ z∈p++y::q,Q z)→p.length+q.length<99999 →
  (∃ m,m≤q.length+1∧cW ee y q=q∧iA (pH K C Z) m [.l (p++y::q),.i ((p.length:Int)+1)] 1 [.l (p++y::q)]) ∨
  ∃ m J,m≤q.length+1∧(p++y::cW ee y q++J).length=p.length+1+q.length∧iA (pH K C Z) m [.l (p++y::q),.i ((p.length:Int)+1)] 0 [.l (p++y::cW ee y q++J),.i ((p++y::cW ee y q).length:Int)]
 | [],p,y,h,B=>by
  refine .inl ⟨1,by simp,rfl,.stop (aa.toEq ?_)⟩;simp only[kV]at B;unfold pH
  (dsimp +instances only[Aa,Ab,Ac,Ad,Ae,Af,Ag])
  (repeat first|refine aa.p ?_|refine aa.n ?_)
  exact aa.some rfl
 | x::q,p,y,h,B=>by
  simp only[cz]at B;have k:Q x:=h x (by simp);have u:Q y:=h y (by simp);have g1:(p++y::x::q).getD (0+((p.length:Int)+1).toNat) []=x:=by
   have e:p++y::x::q=(p++[y])++x::q:=by simp
   rw[e]; exact iW _ _ _ _ _ (by simp<;>omega)
  have g2:(p++y::x::q).getD (0+((p.length:Int)+1-1).toNat) []=y:=iW _ _ _ _ _ (by simp<;>omega);have hlen:(p++y::x::q).length=p.length+q.length+2:=by simp; omega
  cases he:ee x y with
  | true =>
   obtain⟨m,J,hm,I,d⟩:=Dj hC q (p++[y]) [] x (p.length+1) (q.length+1) 1 (by simpa using h) (by simp) (by omega) (by simp; omega) (by omega);have e:p++y::cW ee y (x::q)=(p++[y])++cW ee x q:=by simp[cW,he]
   have v:(((p++[y])++cW ee x q)++J).length=p.length+q.length+2:=by rw[I]; simp; omega
   have hle:((p++[y])++cW ee x q).length≤p.length+q.length+2:=by rw[←v]; simp
   have M:iA (rH K C Z) m [.l (p++y::x::q),.i ((p.length:Int)+1),.i ((0+((p.length:Int)+1).toNat:Nat):Int),.i ((p.length+q.length+2-((p.length:Int)+1).toNat:Nat):Int),.i 1] 0 [.l ((p++[y])++cW ee x q++J),.i (((p++[y])++cW ee x q).length:Int)]:=by
    have N:(((p++[y]).length:Nat):Int)=(p.length:Int)+1:=by simp
    have a2:((p.length+1:Nat):Int)=((0+((p.length:Int)+1).toNat:Nat):Int):=by omega
    have a3:((q.length+1:Nat):Int)=((p.length+q.length+2-((p.length:Int)+1).toNat:Nat):Int):=by omega
    rw[N,a2,a3]at d;simpa using d
   refine .inr ⟨1,bL (p.length+q.length+2-((p++[y])++cW ee x q).length) Z,by simp,by rw[e,e9,wy]; simp at hle⊢; omega,.stop (aa.toEq ?_)⟩;rw[e];generalize hw:(p++[y])++cW ee x q=w at *;unfold pH
   (dsimp +instances only[Aa,Ab,Ac,Ad,Ae,Af,Ag])
   simp only[hlen,g1,g2,hC.eta x k,hC.eta y u]
   (repeat first|refine aa.p ?_|refine aa.n ?_)
   refine aa.cE (hC.cmp x y k u) ?_
   (dsimp +instances only[Aa,Ab,Ac,Ad,Ae,Af,Ag])
   try simp only[he]
   (repeat first|refine aa.p ?_|refine aa.n ?_)
   refine aa.loop (P:=fun x g=>g=_) ⟨m,0,_,M,by omega,rfl⟩ (by(first|rfl|assumption|(simp only[aq,sl]<;>omega))) ?_;rintro _ _ rfl
   (dsimp +instances only[Aa,Ab,Ac,Ad,Ae,Af,Ag])
   simp only[v]
   (repeat first|refine aa.p ?_|refine aa.n ?_)
   refine aa.some ?_;have t1:List.take (0+(w.length:Int).toNat) (w++J)=w:=by simp
   have t2:List.drop (0+(w.length:Int).toNat+(p.length+q.length+2-(w.length:Int).toNat)) (w++J)=[]:=by
    apply SG; rw[v]; omega
   rw[t1,t2];simp
  | false =>
   have e:cW ee y (x::q)=x::cW ee x q:=by simp[cW,he]
   have key:pH K C Z [.l (p++y::x::q),.i ((p.length:Int)+1)]=some (none,[.l ((p++[y])++x::q),.i ((((p++[y]).length:Nat):Int)+1)]):=by
    refine aa.toEq ?_;unfold pH
    (dsimp +instances only[Aa,Ab,Ac,Ad,Ae,Af,Ag])
    simp only[hlen,g1,g2,hC.eta x k,hC.eta y u]
    (repeat first|refine aa.p ?_|refine aa.n ?_)
    refine aa.cE (hC.cmp x y k u) ?_
    (dsimp +instances only[Aa,Ab,Ac,Ad,Ae,Af,Ag])
    try simp only[he]
    (repeat first|refine aa.p ?_|refine aa.n ?_)
    refine aa.some ?_;simp
   rcases LP hC q (p++[y]) x (by simpa using h) (by simp; omega)with⟨m,hm,O,d⟩|⟨m,J,hm,I,d⟩
   ·refine .inl ⟨m + 1, by simp; omega, by rw [e, O], .next key ?_⟩
    have:p++y::x::q=(p++[y])++x::q:=by simp
    rw[this]; exact d
   ·have e' : p ++ y :: cW ee y (x :: q) = (p ++ [y]) ++ x :: cW ee x q := by rw [e]; simp
    refine .inr ⟨m+1,J,by simp; omega,by rw[e',I]; simp; omega,.next key ?_⟩;rw[e']; exact d
theorem LQ(hC:uZ K C Q ee)(rows:List (List G))(d:∀ y∈rows,Q y)(h:rows.length<99999):aa (LM K C Z [.l rows]) fun g=>∃ J,g=[.l (eV ee rows++J),.i ((eV ee rows).length:Int)]∧(eV ee rows++J).length=rows.length:=by
 unfold LM
 (dsimp +instances only[Aa,Ab,Ac,Ad,Ae,Af,Ag])
 match rows,d,h with
 | [],_,_=>exact aa.p (aa.some ⟨[],rfl,rfl⟩)
 | [x],_,_=>exact aa.p (aa.some ⟨[],rfl,rfl⟩)
 | y::x::q,d,h =>
  simp only[cz]at h;refine aa.n ?_;rcases LP hC (x::q) [] y (by simpa using d) (by simp; omega)with⟨m,hm,k,d⟩|⟨m,J,hm,u,d⟩
  ·refine aa.loop (P := fun x g => x = 1 ∧ g = _) ⟨m, 1, _, d, by simp at hm; omega, rfl, rfl⟩ (by (first|rfl|assumption|(simp only [aq,sl]<;>omega))) ?_
   rintro _ _ ⟨rfl,rfl⟩;refine aa.n (aa.some ⟨[],?_,?_⟩)
   ·(dsimp +instances only [Aa,Ab,Ac,Ad,Ae,Af,Ag])
    simp[eV,k]
   ·simp[eV,k]
  ·refine aa.loop (P := fun x g => x = 0 ∧ g = _) ⟨m, 0, _, d, by simp at hm; omega, rfl, rfl⟩ (by (first|rfl|assumption|(simp only [aq,sl]<;>omega))) ?_
   rintro _ _ ⟨rfl,rfl⟩;refine aa.p (aa.some ⟨J,?_,?_⟩)
   ·(dsimp +instances only [Aa,Ab,Ac,Ad,Ae,Af,Ag])
    simp[eV]
   ·simpa[eV,Nat.add_comm]using u
end
end Go.AL

namespace Go.AL
open Go
variable [Dr]
def u9(K:List Kd)(d:List G):Option (Option Nat × List G) :=
 (bif (aj (gi d 3).int (gi d 2).int) then (bif ((aw (gi d 3).int)&&(aj (gi d 3).int (((gi d 0).rows.length:Nat):Int))) then (bif ((aw (gi d 3).int)&&(aj (gi d 3).int (((gi d 1).rows.length:Nat):Int))) then (bif (!(a_ K (aD K ((gi d 0).rows.getD (((gi d 3).int).toNat) [])) (aD K ((gi d 1).rows.getD (((gi d 3).int).toNat) [])))) then some (some 0,[.t false]) else (bif (aq ((gi d 3).int+1)) then some (none,[.l (gi d 0).rows,.l (gi d 1).rows,.i (gi d 2).int,.i ((gi d 3).int+1)]) else none)) else none) else none) else some (some 1,[]))
def LR(K:List Kd)(d:List G):Option (List G) :=
 (bif ((((gi d 0).rows.length:Nat):Int) != (((gi d 1).rows.length:Nat):Int)) then some [.t false] else (aM true (bD (u9 K) [.l (gi d 0).rows,.l (gi d 1).rows,.i (((gi d 0).rows.length:Nat):Int),.i 0]) fun g g1=>(bif ad g 0 then some [.t (gi g1 0).bool] else some [.t true])))
section
variable {K:List Kd} {Q:List G→Prop}
def j5(K:List Kd):List (List G)→List (List G)→Bool
 | [],[]=>true
 |x::a,y::b=>a_ K x y&&j5 K a b
 |_,_=>false
theorem LS:∀(K:List Kd) (x:List G),(K.all fun k=>match k with | .list _=>false|_=>true)=true→a_ K x x=true
 | [],_,_=>rfl
 | k::K,x,h=>by
  simp only[List.all_cons,aA]at h;simp only[a_,LS K _ h.2,fC];cases k<;>simp only[ng,beq_self_eq_true]
  simp at h
theorem LU{K:List Kd}(h:(K.all fun k=>match k with | .list _=>false|_=>true)=true):∀ a,j5 K a a=true
 | []=>rfl
 |x::a=>by simp[j5,LS K x h,LU h a]
theorem LV{K:List Kd}:∀{a b:List (List G)},a.length≠b.length→j5 K a b=false
 | [],[],h=>(h rfl).elim
 | [],_::_,_=>rfl
 |_::_,[],_=>rfl
 |x::a,y::b,h=>by simp only[j5,LV (a:=a) (b:=b) (by simpa using h),Bool.and_false]
theorem LW(hC:Di K Q):∀(q r p s:List (List G)),(∀ z∈q,Q z)→(∀ z∈r,Q z)→p.length=s.length→q.length=r.length→p.length+q.length<100000 →
  aT (u9 K) [.l (p++q),.l (s++r),.i ((p.length+q.length:Nat):Int),.i (p.length:Int)] (q.length+1) fun c g=>(c=0∧g=[.t false]∧j5 K q r=false)∨c=1∧j5 K q r=true
 | [],[],p,s,d,k,h1,B,I=>by
  refine aT.stop (x:=1) (d':=[]) (aa.toEq ?_) (.inr ⟨rfl,rfl⟩);unfold u9
  (dsimp +instances only[Aa,Ab,Ac,Ad,Ae,Af,Ag])
  (repeat first|refine aa.p ?_|refine aa.n ?_)
  exact aa.some rfl
 | [],_::_,_,_,_,_,_,h,_=>by simp at h
 |_::_,[],_,_,_,_,_,h,_=>by simp at h
 | x::q,y::r,p,s,d,k,h1,B,I=>by
  simp only[cz]at I B;have J:=d x (by simp);have M:=k y (by simp);have g1:(p++x::q).getD (p.length:Int).toNat []=x:=iW _ _ _ _ _ (by simp);have g2:(s++y::r).getD (p.length:Int).toNat []=y:=iW _ _ _ _ _ (by simp[h1]);have hlen:(p++x::q).length=p.length+q.length+1:=by simp; omega
  have v:(s++y::r).length=p.length+q.length+1:=by simp; omega
  cases he:a_ K x y with
  | false =>
   refine aT.stop (x:=0) (d':=[.t false]) (aa.toEq ?_) (.inl ⟨rfl,rfl,by simp[j5,he]⟩);unfold u9
   (dsimp +instances only[Aa,Ab,Ac,Ad,Ae,Af,Ag])
   simp only[g1,g2,hlen,v,cz,hC.eta y M,hC.eta x J]
   (repeat first|refine aa.p ?_|refine aa.n ?_)
   try simp only[he]
   (repeat first|refine aa.p ?_|refine aa.n ?_)
   exact aa.some rfl
  | true =>
   have N:=LW hC q r (p++[x]) (s++[y]) (fun z u=>d z (cY _ u)) (fun z u=>k z (cY _ u)) (by simp[h1]) (by omega) (by simp; omega);have O:j5 K (x::q) (y::r)=j5 K q r:=by simp[j5,he]
   rw[O];refine aT.next (aa.toEq ?_) N
   unfold u9
   (dsimp +instances only[Aa,Ab,Ac,Ad,Ae,Af,Ag])
   simp only[g1,g2,hlen,v,cz,hC.eta y M,hC.eta x J]
   (repeat first|refine aa.p ?_|refine aa.n ?_)
   try simp only[he]
   (repeat first|refine aa.p ?_|refine aa.n ?_)
   refine aa.some ?_;simp;omega
theorem XO(hC:Di K Q)(a b:List (List G))(ha:∀ y∈a,Q y)(hb:∀ y∈b,Q y)(k:a.length<100000):LR K [.l a,.l b]=some [.t (j5 K a b)]:=by
 refine aa.toEq ?_;unfold LR
 (dsimp +instances only[Aa,Ab,Ac,Ad,Ae,Af,Ag])
 by_cases d:a.length=b.length
 ·(repeat first|refine aa.p ?_|refine aa.n ?_)
  have h:=LW hC a b [] [] ha hb rfl d (by simpa using k);have h0:((0:Nat):Int)=0:=rfl;simp only[List.nil_append,kV,Nat.zero_add,h0]at h;refine aa.loop (h.to (by omega)) (by(first|rfl|assumption|(simp only[aq,sl]<;>omega))) ?_;rintro c g (⟨rfl,rfl,h⟩|⟨rfl,h⟩)
  ·(dsimp +instances only [Aa,Ab,Ac,Ad,Ae,Af,Ag])
   (repeat first|refine aa.p ?_|refine aa.n ?_)
   exact aa.some (by rw[h])
  ·(repeat first|refine aa.p ?_|refine aa.n ?_)
   exact aa.some (by rw[h])
 ·(repeat first|refine aa.p ?_|refine aa.n ?_)
  exact aa.some (by rw[LV d])
end
end Go.AL

namespace Go.AL
open Go
variable [Dr]
section
variable {K:List Kd} {Z:List G} {Q:List G→Prop} {C:List G→Option (List G)} {cp:G→G} {cap:G} {p:List G→Bool}
structure Prd (K:List Kd) (C:List G→Option (List G)) (cp:G→G) (cap:G) (Q:List G→Prop) (p:List G→Bool):Prop where
 cmp:∀ r,Q r→C [.l [r],cap]=some [.t (p r)]
 eta:∀ r,Q r→aD K r=r
 fix:cp cap=cap
end
section
variable {K:List Kd} {Z:List G}
end
end Go.AL

namespace Go.AL
open Go
variable [Dr]
section sort
variable {α:Type} {lt:α→α→Bool}
theorem y_(x:α):∀ p:List α,(fT lt x p).Perm (x::p)
 | []=>oG _
 | y::p=>by
  simp only[fT];cases lt x y with
  |true=>exact(List.Perm.cons y (y_ x p)).trans (List.Perm.swap x y p)
  |false=>exact oG _
theorem LX:∀(r p:List α),(iX lt p r).Perm (p++r)
 | [],p=>by simp[iX]
 | x::r,p=>by
  simp only[iX];refine(LX r (fT lt x p)).trans ?_;refine(List.Perm.append_right r (y_ x p)).trans ?_;simpa using(List.perm_middle (a:=x) (l₁:=p) (l₂:=r)).symm
theorem rI(l:List α):(cP lt l).Perm l:=by
 unfold cP;exact(List.reverse_perm _).trans (by simpa using LX (lt:=lt) l [])
structure eJ (lt:α→α→Bool) (Q:α→Prop):Prop where
 tr:∀ a b c,Q a→Q b→Q c→lt a b=false→lt b c=false→lt a c=false
 za:∀ a b,Q a→Q b→lt a b=true→lt b a=false
variable {Q:α→Prop}
theorem LY(h:eJ lt Q){x:α}(k:Q x):∀{p:List α},(∀ y∈p,Q y)→p.Pairwise (fun a b=>lt a b=false)→(fT lt x p).Pairwise (fun a b=>lt a b=false)
 | [],_,_=>by simp[fT]
 | y::p,u,v=>by
  obtain⟨h1,I⟩:=kW.1 v;have B:=u y cT;have q:∀ z∈p,Q z:=fun z d=>u z (cY _ d);simp only[fT];cases g:lt x y with
  | true =>
   refine kW.2 ⟨fun z d=>?_,LY h k q I⟩;rcases bZ.1 ((y_ x p).mem_iff.1 d)with rfl|d
   ·exact h.za _ _ k B g
   ·exact h1 z d
  | false =>
   refine kW.2 ⟨fun z d=>?_,v⟩;rcases bZ.1 d with rfl|d
   ·exact g
   ·exact h.tr x y z k B (q z d) g (h1 z d)
theorem LZ(k:eJ lt Q):∀{r p:List α},(∀ y∈p,Q y)→(∀ y∈r,Q y)→p.Pairwise (fun a b=>lt a b=false)→(iX lt p r).Pairwise (fun a b=>lt a b=false)
 | [],_,_,_,g=>by simpa[iX]using g
 | x::r,p,q,h,g=>by
  simp only[iX];refine LZ k (fun y d=>?_) (fun y d=>h y (cY _ d)) (LY k (h x cT) q g);rcases bZ.1 ((y_ x p).mem_iff.1 d)with rfl|d
  ·exact h _ cT
  ·exact q y d
theorem u_(d:eJ lt Q){l:List α}(g:∀ y∈l,Q y):(cP lt l).Pairwise (fun a b=>lt b a=false):=by
 unfold cP;rw[List.pairwise_reverse];exact LZ d (by simp) g List.Pairwise.nil
theorem Dk:∀{l r:List α},l.Perm r→(∀ a∈l,∀ b∈l,lt a b=false→lt b a=false→a=b)→l.Pairwise (fun a b=>lt b a=false)→r.Pairwise (fun a b=>lt b a=false)→l=r
 | [],r,d,_,_,_=>d.nil_eq
 |a::l,[],d,_,_,_=>by simpa using d.length_eq
 | a::l,b::r,d,ha,h1,q=>by
  obtain⟨u,v⟩:=kW.1 h1;obtain⟨B,I⟩:=kW.1 q;have e:a=b:=by
   have hb:b∈a::l:=d.symm.subset cT;have h:a∈b::r:=d.subset cT;rcases bZ.1 hb with e|k
   ·exact e.symm
   ·rcases bZ.1 h with e | g
    ·exact e
    ·exact ha a cT b hb (B a g) (u b k)
  subst e;rw[Dk ((List.perm_cons a).1 d) (fun x J y M=>ha x (cY _ J) y (cY _ M)) v I]
theorem XP(d:eJ lt Q){l r:List α}(g:l.Perm r)(k:∀ y∈l,Q y)(ha:∀ a∈l,∀ b∈l,lt a b=false→lt b a=false→a=b):cP lt l=cP lt r :=
 Dk ((rI l).trans (g.trans (rI r).symm)) (fun a h b h'=>ha a ((rI l).mem_iff.1 h) b ((rI l).mem_iff.1 h')) (u_ d k)
  (u_ d fun y q=>k y (g.mem_iff.2 q))
end sort
theorem L0{sp:fj}{tl:List G→Option (Option Nat × List G)}{rows:List (List G)}{clock:Nat}{d:List G}{r:Option Nat × List G}(g:ls rows clock=true)
  (h:∀ b p,p.Perm rows→sp.side d b=true∧∃ d',cD sp.st sp.ba p (sp.init d b)=some d'∧tl d'=some r):iC sp tl rows clock d=some r:=by
 unfold iC;rw[g];refine Lc fun b p k=>?_;obtain⟨h1,d',q,u⟩:=h b p k;rw[h1,cond_true,q];exact u
end Go.AL

namespace Go.AL
open Go
variable [Dr]
section
variable {α:Type} (f:α→Int)
end
section
variable {α:Type} {e:α→α→Bool}
end
end Go.AL

namespace Go.AL
open Go
variable [Dr]
section
variable {K:List Kd} {C:List G→Option (List G)} {Q:List G→Prop} {c:List G→List G→Int}
end
end Go.AL

namespace Go.AL
open Go
variable [Dr]
section
variable {C:List G→Option (List G)} {Q:List G→Prop} {c:List G→List G→Int}
theorem eJ.mono{α:Type}{lt:α→α→Bool}{Q k:α→Prop}(h:eJ lt Q)(g:∀ a,k a→Q a):eJ lt k :=
 ⟨fun a b d ha hb q=>h.tr a b d (g a ha) (g b hb) (g d q),fun a b ha hb=>h.za a b (g a ha) (g b hb)⟩
def rJ(C:List G→Option (List G))(Q:List G→Prop)(c:List G→List G→Int):Prop:=∀ r s,Q r→Q s→∃ v,C [.l [r],.l [s]]=some [.i v]∧(v<0↔c r s<0)
end
end Go.AL

namespace Go.AL
open Go Go.Proofs
variable [Dr]
variable {C:List G→Option (List G)} {Q:List G→Prop} {c:List G→List G→Int}
theorem L1(hC:rJ C Q c){r s:List G}(d:Q r)(g:Q s):decide (uT C r s<0)=bE c r s:=by
 obtain⟨v,h,k⟩:=hC r s d g;unfold uT bE;rw[h,dY];show decide (v<0)=_
 rw[oF,decide_eq_true_eq,decide_eq_true_eq];exact k
theorem pI(hC:rJ C Q c){rows:List (List G)}(d:∀ y∈rows,Q y)(h0:rows≠[])(i j:Nat):ltOf (lv C rows) i j=bE c (fk rows i) (fk rows j) :=
 L1 hC (d _ (uU h0 i)) (d _ (uU h0 j))
theorem XQ(hC:rJ C Q c)(k:eJ (bE c) Q){rows:List (List G)}(d:∀ y∈rows,Q y)(h0:rows≠[])(u:rows.length<100000):pC C rows:=by
 have g:=fun i=>d _ (uU h0 i);refine⟨fun r h s h'=>by obtain⟨v,e,_⟩:=hC r s (d r h) (d s h'); exact⟨v,e⟩,⟨fun x=>?_,fun x y z=>?_,fun x y z=>?_⟩,by omega⟩
 ·rw [pI hC d h0]
  cases h:bE c (fk rows x) (fk rows x)with
  |false=>rfl
  |true=>rw[k.za _ _ (g x) (g x) h]at h; cases h
 ·rw [pI hC d h0, pI hC d h0, pI hC d h0]
  intro h1 q;cases h:bE c (fk rows x) (fk rows z)with
  |true=>rfl
  | false =>
   have:=k.tr _ _ _ (g x) (g z) (g y) h (k.za _ _ (g y) (g z) q);rw[this]at h1;cases h1
 ·rw [pI hC d h0, pI hC d h0, pI hC d h0]
  exact k.tr _ _ _ (g x) (g y) (g z)
theorem XR(hC:rJ C Q c)(q:eJ (bE c) Q)(rows:List (List G))(g:∀ y∈rows,Q y)(u:rows.length<100000) :
  ∃ out,rE C [.l rows]=some [.l out]∧out.Perm rows∧out.Pairwise fun a b=>bE c b a=false:=by
 unfold rE;have e:(gi [G.l rows] 0).rows=rows:=rfl;rw[e];by_cases h0:rows=[]
 ·rw [if_pos h0, h0]
  exact⟨[],rfl,oG _,List.Pairwise.nil⟩
 ·have d := XQ hC q g h0 u
  rw[if_neg h0,if_pos d];have k:=Lw d;refine⟨_,rfl,k,?_⟩;refine aiq ?_ (Xw d);intro a b h1 v h;rw[←L1 hC (g b (k.mem_iff.1 v)) (g a (k.mem_iff.1 h1)),decide_eq_false_iff_not];exact h
theorem XT(hC:rJ C Q c)(g:eJ (bE c) Q)(rows:List (List G))(k:∀ y∈rows,Q y)(q:rows.length<100000)(ha:∀ a∈rows,∀ b∈rows,bE c a b=false→bE c b a=false→a=b) :
  rE C [.l rows]=some [.l (cP (bE c) rows)]:=by
 obtain⟨out,h,d,u⟩:=XR hC g rows k q;rw[h,Dk (d.trans (rI (lt:=bE c) rows).symm) (fun a h1 b v=>ha a (d.mem_iff.1 h1) b (d.mem_iff.1 v)) u (u_ g k)]
end Go.AL

namespace Go.AL
open Go
variable [Dr]
noncomputable abbrev va(r:List G):Int:=(gi r 0).int
noncomputable abbrev pJ(r:List G):Int:=(gi r 1).int
def XU(r:List G):Prop:=r=[.i (va r),.i (pJ r)]∧va r<pJ r
def L2(l:List (List G))(n:Int):Prop:=∃ r∈l,va r≤n∧n<pJ r
def XV(l:List (List G)):Prop:=(∀ r∈l,XU r)∧l.Pairwise fun r s=>pJ r<va s
/-! ### Rows put d -/
/-! ### Rows d others -/
structure aii (out:List (List G)) (a b:Int) (os:List (List G)) (ps:List (List G)) (f:Int):Prop where
 low:a≤f
 at_:f=a∨∃ o∈os,f=pJ o
 past:∀ o∈os,pJ o≤f∨b≤va o
 mem:∀ n,L2 ps n↔a≤n∧n<f∧n<b∧¬ L2 os n
 can:XV (out++ps)
 gap:∀ s∈out++ps,pJ s<f
 many:ps.length≤os.length
end Go.AL
