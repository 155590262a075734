/-
 What is proved here: rules by which lifted functions are shown to give what they should. No program in sight; no condition.
-/
import Derived.Test.YtgglclbdiagpoaaGreatDoorMD
import Derived.Test.YtgglclbdiagpoaaGreatDoorMH
import Derived.Test.YtgglclbdiagpoaaGreatDoorMU
import Derived.Lib.ItoaNum
import Derived.Lib.SlTrimSet
set_option linter.all false
open Bool renaming and_true→fG,and_eq_true→ar,eq_iff_iff→gj
open Go.Lib renaming join→eR,indexByte→fI,join_cons→ah6,join_one→qT,decDigits→jb,trimS→mA,digitVal→ah',decFrom→aia,decNat→qU
open List renaming length_cons→cw,getElem?_eq_getElem→bd,getD_eq_getElem?_getD→b_,mem_cons→bS,eq_nil_of_length_eq_zero→nE,all_cons→iG,mem_cons_self→cH,mem_cons_of_mem→cI,mem_singleton→ib,pairwise_cons→xL,count_eq_zero→ah8,count_append→ah9,eq_nil_or_concat→xM,concat_eq_append→xN,all_append→nO
open List.Pairwise renaming imp_of_mem→aiR
open List.Perm renaming refl→ue
open Nat renaming zero_add→cR,beq→af,ble→bI,ble_eq→cK,pow_succ→ah_
open Option.some renaming injEq→aX
open UInt8 renaming ofNat→uf
namespace Go.AL
open Go
variable [Dr]
def aa{β:Type}(x:Option β)(Q:β→Prop):Prop:=∃ r,x=some r∧Q r
def iS(st:List G→Option (Option Nat × List G))(d:List G)(Q:Nat→List G→Prop):Prop:=∃ n x d',lW st n d x d'∧n≤1000000∧Q x d'
namespace aa
variable {β:Type} {Q:β→Prop}
theorem some{r:β}(h:Q r):aa (some r) Q:=⟨r,rfl,h⟩
theorem pos{b:Bool}{x y:Option β}(h:b=true)(d:aa x Q):aa (bif b then x else y) Q:=by subst h; exact d
theorem neg{b:Bool}{x y:Option β}(h:b=false)(d:aa y Q):aa (bif b then x else y) Q:=by subst h; exact d
theorem test{b:Bool}{x y:Option β}(d:b=true→aa x Q)(g:b=false→aa y Q):aa (bif b then x else y) Q:=by
 cases b with
 |true=>exact d rfl
 |false=>exact g rfl
theorem call{t:Option (List G)}{k:List G→Option β}{P:List G→Prop}(h:aa t P)(hk:∀ g,P g→aa (k g) Q):aa (aj t k) Q:=by
 obtain⟨r,h,d⟩:=h;subst h;exact hk r d
theorem vN{c:Bool}{t:Option (List G)}{k:List G→Option β}{P:List G→Prop}(h:aa t P)(d:c=true)(hk:∀ g,P g→aa (k g) Q):aa (sw (c&&t.isSome) t k) Q:=by
 obtain⟨r,h,q⟩:=h;subst h d;exact hk r q
theorem loop{c:Bool}{st:List G→Option (Option Nat × List G)}{d:List G}{k:Nat→List G→Option β}{P:Nat→List G→Prop}(h:iS st d P)(q:c=true)(hk:∀ x g,P x g→aa (k x g) Q):aa (bh c (cu st d) k) Q:=by
 obtain⟨n,x,d',h,t,u⟩:=h;rw[h.WR t];subst q;exact hk x d' u
theorem tail{c:Bool}{t:Option (Option Nat × List G)}{k:Nat→List G→Option β}{P:Nat→List G→Prop}(h:aa t fun o=>∃ x,o.1=Option.some x∧P x o.2)(u:c=true)(hk:∀ x g,P x g→aa (k x g) Q) :
  aa (bh c (dD t) k) Q:=by
 obtain⟨⟨o,d⟩,rfl,x,q,v⟩:=h;simp only at q;subst q u;exact hk x d v
theorem mono{x:Option β}{P:β→Prop}(h:aa x P)(d:∀ r,P r→Q r):aa x Q:=by
 obtain⟨r,h,g⟩:=h;exact⟨r,h,d r g⟩
theorem eq{x:Option β}{r:β}(h:x=Option.some r):aa x (fun g=>g=r):=⟨r,h,rfl⟩
theorem toEq{x:Option β}{r:β}(h:aa x (fun g=>g=r)):x=Option.some r:=by
 obtain⟨r',h,rfl⟩:=h;exact h
end aa
theorem iS.stop{st:List G→Option (Option Nat × List G)}{d d':List G}{x:Nat}{Q:Nat→List G→Prop}(h:st d=some (some x,d'))(g:Q x d'):iS st d Q:=⟨1,x,d',.stop h,by omega,g⟩
def a6(st:List G→Option (Option Nat × List G))(d:List G)(m:Nat)(Q:Nat→List G→Prop):Prop:=∃ n x d',lW st n d x d'∧n≤m∧Q x d'
theorem a6.stop{st:List G→Option (Option Nat × List G)}{d d':List G}{x m:Nat}{Q:Nat→List G→Prop}(h:st d=some (some x,d'))(g:Q x d'):a6 st d (m+1) Q:=⟨1,x,d',.stop h,by omega,g⟩
theorem a6.next{st:List G→Option (Option Nat × List G)}{d d1:List G}{m:Nat}{Q:Nat→List G→Prop}(h:st d=some (none,d1))(g:a6 st d1 m Q):a6 st d (m+1) Q:=by
 obtain⟨n,x,d',h1,q,k⟩:=g;exact⟨n+1,x,d',.next h h1,by omega,k⟩
theorem a6.to{st:List G→Option (Option Nat × List G)}{d:List G}{m:Nat}{Q:Nat→List G→Prop}(h:a6 st d m Q)(hm:m≤1000000):iS st d Q:=by
 obtain⟨n,x,d',h1,k,g⟩:=h;exact⟨n,x,d',h1,by omega,g⟩
theorem iS.mono{st:List G→Option (Option Nat × List G)}{d:List G}{P Q:Nat→List G→Prop}(h:iS st d P)(k:∀ x g,P x g→Q x g):iS st d Q:=by
 obtain⟨n,x,d',h1,q,t⟩:=h;exact⟨n,x,d',h1,q,k _ _ t⟩
theorem a6.mono{st:List G→Option (Option Nat × List G)}{d:List G}{m:Nat}{P Q:Nat→List G→Prop}(h:a6 st d m P)(k:∀ x g,P x g→Q x g):a6 st d m Q:=by
 obtain⟨n,x,d',h1,q,t⟩:=h;exact⟨n,x,d',h1,q,k _ _ t⟩
theorem iS.inv{α:Type}{st:List G→Option (Option Nat × List G)}{Q:Nat→List G→Prop}(f:α→List G)(I:α→Prop)(m:α→Nat)
  (q:∀ a,I a→aa (st (f a)) fun o=>(o.1=none∧∃ b,o.2=f b∧I b∧m b<m a)∨∃ x,o.1=some x∧Q x o.2)
  (a:α) (ha:I a) (hm:m a<1000000):iS st (f a) Q:=by
 have key:∀ k a,I a→m a≤k→∃ n x d',lW st n (f a) x d'∧n≤m a+1∧Q x d':=by
  intro k
  induction k with
  | zero =>
   intro a ha hk;obtain⟨⟨o,d⟩,h,g⟩:=q a ha;rcases g with⟨_,b,_,_,u⟩|⟨x,rfl,g⟩
   ·omega
   ·exact⟨1,x,d,.stop h,by omega,g⟩
  | succ k y =>
   intro a ha hk;obtain⟨⟨o,d⟩,h,g⟩:=q a ha;rcases g with⟨h1,b,t,hb,u⟩|⟨x,rfl,g⟩
   ·obtain ⟨n, x, d', v, z, g⟩ := y b hb (by omega)
    simp only at h1 t;subst h1 t;exact⟨n+1,x,d',.next h v,by omega,g⟩
   ·exact⟨1,x,d,.stop h,by omega,g⟩
 obtain⟨n,x,d',h,z,g⟩:=key (m a) a ha (Nat.le_refl _);exact⟨n,x,d',h,by omega,g⟩
theorem XZ{p:Prop}{i:Decidable p}:(@decide p i=true)↔p:=by simp
theorem X1{p:Prop}{i:Decidable p}:(@decide p i=false)↔¬ p:=by simp
theorem X2{a b:Nat}:af a b=true↔a=b:=⟨Nat.eq_of_beq_eq_true,fun h=>h▸Nat.beq_refl a⟩
theorem Aa(a:G)(l:List G):gi (a::l) 0=a:=rfl
theorem Ab(a:G)(l:List G)(i:Nat):gi (a::l) (i+1)=gi l i:=rfl
theorem Ac(r:List G)(l:List (List G)):(G.l (r::l)).row=r:=rfl
theorem Ad(l:List (List G)):(G.l l).rows=l:=rfl
theorem Ae(n:Int):(G.i n).int=n:=rfl
theorem Af(s:ByteArray):(G.s s).str=s:=rfl
theorem Ag(b:Bool):(G.t b).bool=b:=rfl
theorem sl:(∀ a b:Int,ak a b=decide (a<b))∧(∀ a b:Int,aG a b=decide (a≤b))∧(∀ n:Int,aI n=decide (0≤n))∧(∀ b:Bool,(b&&true)=b)∧(∀ b:Bool,(true&&b)=b) ∧
  (∀ a b:Bool,((a&&b)=true)=(a=true∧b=true))∧(∀ a b:Bool,((a&&b)=false)=(a=false∨b=false))∧(∀(p:Prop) (i:Decidable p),(@decide p i=true)=p)∧(∀(p:Prop) (i:Decidable p),(@decide p i=false)=¬ p) ∧
  (∀ b:Bool,((!b)=true)=(b=false))∧(∀ b:Bool,((!b)=false)=(b=true))∧(∀ a b:Int,((a==b)=true)=(a=b))∧(∀ a b:Int,((a==b)=false)=¬ (a=b))∧(∀ a b:Int,((a != b)=true)=¬ (a=b))∧(∀ a b:Int,((a != b)=false)=(a=b)) ∧
  (∀(α:Type) (a b:α),(a≠b)=¬ (a=b))∧(∀ a b:Nat,(af a b=true)=(a=b))∧(∀ a b:Nat,(bI a b=true)=(a≤b))∧(∀ a b:Nat,(Nat.blt a b=true)=(a<b)) ∧
  (∀(l:List (List G)) (i:Nat) (x:List G),(l.set i x).length=l.length)∧(∀(α:Type) (l r:List α),(l++r).length=l.length+r.length)∧(∀(n:Nat) (x:List G),(List.replicate n x).length=n) ∧
  (∀(α:Type) (x:α) (l:List α),(x::l).length=l.length+1)∧(∀ α:Type,([]:List α).length=0)∧(∀(l:List (List G)) (n:Nat),(l.take n).length=min n l.length)∧(∀(l:List (List G)) (n:Nat),(l.drop n).length=l.length-n) ∧
  (∀ n:Nat,((n:Int)).toNat=n)∧(∀ p:Prop,(True∧p)=p)∧(∀ p:Prop,(p∧True)=p)∧(∀ a b:Bool,((a==b)=true)=(a=b)) :=
 ⟨aZ, bx, eY, fG, Bool.true_and, ar, fun a b => by cases a <;> cases b <;> simp, fun _ _ => propext XZ, fun _ _ => propext X1, fun b => by cases b <;> simp, fun b => by cases b <;> simp,
  fun a b=>by simp,fun a b=>by simp,fun a b=>by simp,fun a b=>by simp,fun _ a b=>rfl,fun a b=>propext X2,fun a b=>by simp,fun a b=>by simp,fun l i x=>List.length_set,fun _ l r=>List.length_append,fun n x=>List.length_replicate,
  fun _ x l=>rfl,fun _=>rfl,fun l n=>List.length_take,fun l n=>List.length_drop,fun n=>Int.toNat_natCast n,fun p=>true_and p,fun p=>and_true p,fun a b=>by cases a<;>cases b<;>simp⟩
theorem aa.p{β:Type}{Q:β→Prop}{b:Bool}{x y:Option β}(d:aa x Q)(h:b=true:=by first|rfl|assumption|(simp only[ay,sl]<;>omega)):aa (bif b then x else y) Q:=aa.pos h d
theorem aa.n{β:Type}{Q:β→Prop}{b:Bool}{x y:Option β}(d:aa y Q)(h:b=false:=by first|rfl|assumption|(simp only[ay,sl]<;>omega)):aa (bif b then x else y) Q:=aa.neg h d
theorem aa.cE{β:Type}{Q:β→Prop}{t:Option (List G)}{r:List G}{k:List G→Option β}(h:t=Option.some r)(hk:aa (k r) Q):aa (aj t k) Q:=aa.call (aa.eq h) fun _ e=>by subst e; exact hk

end Go.AL

namespace Go.AL
open Go
variable [Dr]
theorem jU{σ:Type}{st:List G→Option (Option Nat × List G)}(mk:σ→Nat→List G)(n:Nat)(fin:σ→Nat × List G)(I:σ→Nat→Prop)(E:Nat→List G→Prop)
  (q:∀ s i,I s i→i<n→aa (st (mk s i)) fun o=>(∃ s',o=(none,mk s' (i+1))∧I s' (i+1))∨∃ c g,o=(some c,g)∧E c g)
  (t:∀ s,I s n→aa (st (mk s n)) fun o=>o=(some (fin s).1,(fin s).2)) :
  ∀(k:Nat) (s:σ) (i:Nat),i+k=n→I s i→a6 st (mk s i) (k+1) fun c g=>(∃ s',I s' n∧c=(fin s').1∧g=(fin s').2)∨E c g
 | 0,s,i,hi,d=>by
  have e:i=n:=hi;subst e;obtain⟨o,h,rfl⟩:=t s d;exact a6.stop h (.inl ⟨s,d,rfl,rfl⟩)
 | k+1,s,i,hi,d=>by
  obtain⟨o,h,⟨s',rfl,u⟩|⟨c,g,rfl,v⟩⟩:=q s i d (by omega)
  ·exact a6.next h (jU mk n fin I E q t k s' (i+1) (by omega) u)
  ·exact a6.stop h (.inr v)
theorem zN{rows:List (List G)}{i:Nat}(h:i<rows.length):rows.getD i []∈rows:=by
 rw[b_,bd h];exact List.getElem_mem h
theorem X3{rows:List (List G)}{i:Nat}(h:i<rows.length):rows.take (i+1)=rows.take i++[rows.getD i []]:=by
 rw[List.take_add_one,b_,bd h];rfl
theorem X5{σ:Type}{st:List G→Option (Option Nat × List G)}(mk:σ→Nat→List G)(rows:List (List G))(fin:σ→Nat × List G)(I:σ→Nat→Prop)(E:Nat→List G→Prop)(s:σ)
  (hlen:rows.length<999999) (h0:I s 0)
  (d:∀ s i x,I s i→i<rows.length→rows.getD i []=x→x∈rows→rows.take (i+1)=rows.take i++[x]→aa (st (mk s i)) fun o=>(∃ s',o=(none,mk s' (i+1))∧I s' (i+1))∨∃ c g,o=(some c,g)∧E c g)
  (h:∀ s,I s rows.length→aa (st (mk s rows.length)) fun o=>o=(some (fin s).1,(fin s).2)) :
  iS st (mk s 0) fun c g=>(∃ s',I s' rows.length∧c=(fin s').1∧g=(fin s').2)∨E c g :=
 (jU mk rows.length fin I E (fun s i k hi=>d s i _ k hi rfl (zN hi) (X3 hi)) h rows.length s 0 (by omega) h0).to (by omega)
theorem Ek{σ:Type}{st:List G→Option (Option Nat × List G)}(mk:σ→Nat→List G)(rows:List (List G))(fin:σ→Nat × List G)(I:σ→Nat→Prop)(s:σ)
  (hlen:rows.length<999999) (h0:I s 0)
  (k:∀ s i x,I s i→i<rows.length→rows.getD i []=x→x∈rows→rows.take (i+1)=rows.take i++[x]→aa (st (mk s i)) fun o=>∃ s',o=(none,mk s' (i+1))∧I s' (i+1))
  (q:∀ s,I s rows.length→aa (st (mk s rows.length)) fun o=>o=(some (fin s).1,(fin s).2)) :
  iS st (mk s 0) fun c g=>∃ s',I s' rows.length∧c=(fin s').1∧g=(fin s').2 :=
 (X5 mk rows fin I (fun _ _=>False) s hlen h0 (fun s i x a b c d e=>(k s i x a b c d e).mono fun _ h=>.inl h) q).mono fun _ _ h=>h.elim id False.elim
end Go.AL

namespace Go.AL
open Go
variable [Dr]
theorem El{α:Type}[BEq α][LawfulBEq α](a b:α):(a==b)=(b==a):=by
 rw[gj];simp only[beq_iff_eq];exact eq_comm
theorem X6{k:Kd}{a b:G}:n3 k a b=n3 k b a:=by
 cases k
 ·exact El _ _
 ·exact El _ _
 ·exact El _ _
 ·rfl
theorem X7{k:Kd}{a b c:G}(h1:n3 k a b=true)(d:n3 k b c=true):n3 k a c=true:=by
 cases k<;>simp only[n3,beq_iff_eq]at *<;>first|exact h1.trans d|cases h1
theorem vO:∀{K:List Kd} {a b:List G},bL K a b=bL K b a
 | [],_,_=>rfl
 |k::K,a,b=>by simp only[bL,X6 (a:=a.headD default),vO (K:=K) (a:=a.tail)]
theorem zO:∀{K:List Kd} {a b c:List G},bL K a b=true→bL K b c=true→bL K a c=true
 | [],_,_,_,_,_=>rfl
 | k::K,a,b,c,h1,d=>by
  simp only[bL,ar]at *;exact⟨X7 h1.1 d.1,zO h1.2 d.2⟩
theorem X8{K:List Kd}{a b c:List G}(h:bL K a b=true):bL K a c=bL K b c:=by
 rw[gj];constructor
 ·exact fun d=>zO (by rw[vO]; exact h) d
 ·exact fun d=>zO h d
theorem MO{K:List Kd}{a b c:List G}(h:bL K a b=true):bL K c a=bL K c b:=by
 rw[vO,X8 h,vO]
theorem vP(ks:List Kd)(key:List G):∀(rows:List (List G)) (i:Nat),ch ks key rows i=(ch ks key rows 0).map fun p=>(p.1+i,p.2)
 | [],i=>rfl
 | r::rs,i=>by
  simp only[ch];cases bL ks key (gi r 0).row with
  |true=>simp
  | false =>
   simp only[cond_false];rw[vP ks key rs (i+1),vP ks key rs (0+1),Option.map_map];congr 1
   funext p
   simp;omega
theorem X9(ks:List Kd)(key z:List G):dI ks [] key z=z:=rfl
theorem zP(ks:List Kd)(r:List G)(rs:List (List G))(key z:List G):dI ks (r::rs) key z=bif bL ks key (gi r 0).row then (gi r 1).row else dI ks rs key z:=by
 unfold dI;simp only[ch];cases bL ks key (gi r 0).row with
 |true=>rfl
 | false =>
  simp only[cond_false];rw[vP ks key rs (0+1)];cases ch ks key rs 0<;>rfl
theorem MP(ks:List Kd)(key:List G):dP ks [] key=false:=rfl
theorem zQ(ks:List Kd)(r:List G)(rs:List (List G))(key:List G):dP ks (r::rs) key=(bL ks key (gi r 0).row||dP ks rs key):=by
 unfold dP;simp only[ch];cases bL ks key (gi r 0).row with
 |true=>rfl
 | false =>
  simp only[cond_false];rw[vP ks key rs (0+1)];cases ch ks key rs 0<;>rfl
theorem MQ(ks:List Kd)(key val:List G)(c:Nat):gv ks [] key val c=[[.l [key],.l [val],.i c]]:=rfl
theorem MR(ks:List Kd)(r:List G)(rs:List (List G))(key val:List G)(c:Nat) :
  gv ks (r::rs) key val c=bif bL ks key (gi r 0).row then [.l [key],.l [val],.i (gi r 2).int]::rs else r::gv ks rs key val c:=by
 unfold gv;simp only[ch];cases bL ks key (gi r 0).row with
 |true=>rfl
 | false =>
  simp only[cond_false];rw[vP ks key rs (0+1)];cases ch ks key rs 0<;>rfl
theorem MS(ks:List Kd)(k v key z:List G)(c:Nat):∀ rows:List (List G),dI ks (gv ks rows k v c) key z=bif bL ks key k then v else dI ks rows key z
 | []=>by simp only[MQ,zP,X9]; rfl
 | r::rs=>by
  rw[MR,zP];cases h:bL ks k (gi r 0).row with
  | true =>
   simp only[cond_true,zP];have e:bL ks key (gi r 0).row=bL ks key k:=(MO h).symm;rw[e];cases d:bL ks key k with
   |true=>simp only[Aa,Ac,d,cond_true]; rfl
   |false=>simp only[Aa,Ac,d,cond_false]
  | false =>
   simp only[cond_false,zP,MS ks k v key z c rs];cases d:bL ks key (gi r 0).row with
   |false=>rfl
   | true =>
    cases g:bL ks key k with
    |false=>rfl
    | true =>
     have:bL ks k (gi r 0).row=true:=zO (by rw[vO]; exact g) d;rw[this]at h;cases h
theorem MT(ks:List Kd)(k v key:List G)(c:Nat):∀ rows:List (List G),dP ks (gv ks rows k v c) key=(bL ks key k||dP ks rows key)
 | []=>by simp only[MQ,zQ,MP]; rfl
 | r::rs=>by
  rw[MR,zQ];cases h:bL ks k (gi r 0).row with
  | true =>
   simp only[cond_true,zQ];have e:bL ks key (gi r 0).row=bL ks key k:=(MO h).symm;rw[e];simp only[Aa,Ac];cases bL ks key k<;>simp
  | false =>
   simp only[cond_false,zQ,MT ks k v key c rs];cases bL ks key (gi r 0).row<;>simp
end Go.AL

namespace Go.AL
open Go
variable [Dr]
theorem sJ{α:Type}(l:List α)(x:α)(q:List α)(z:α)(n:Nat)(h:n=l.length):(l++x::q).getD n z=x:=by subst h; simp
def lZ{α:Type}(lt:α→α→Bool)(x:α):List α→List α
 | []=>[x]
 |y::p=>bif lt x y then y::lZ lt x p else x::y::p
def l4{α:Type}(lt:α→α→Bool):List α→List α→List α
 |p,[]=>p
 |p,x::r=>l4 lt (lZ lt x p) r
def kA{α:Type}(lt:α→α→Bool)(l:List α):List α:=(l4 lt [] l).reverse
theorem MU{α:Type}(lt:α→α→Bool)(x:α):∀ p,(lZ lt x p).length=p.length+1
 | []=>rfl
 | y::p=>by
  simp only[lZ];cases lt x y with
  |true=>simp[MU lt x p]
  |false=>simp
theorem MV{α:Type}(lt:α→α→Bool):∀(p r:List α),(l4 lt p r).length=p.length+r.length
 |p,[]=>rfl
 |p,x::r=>by simp only[l4,MV lt,MU,cw]; omega
theorem X_{α:Type}(lt:α→α→Bool)(l:List α):(kA lt l).length=l.length:=by simp[kA,MV]
section
variable {K:List Kd} {C:List G→Option (List G)} {Q:List G→Prop} {c:List G→List G→Int}
structure Cmp (K:List Kd) (C:List G→Option (List G)) (Q:List G→Prop) (c:List G→List G→Int):Prop where
 cmp:∀ r s,Q r→Q s→C [.l [r],.l [s]]=some [.i (c r s)]
 eta:∀ r,Q r→be K r=r
def eI(c:List G→List G→Int)(r s:List G):Bool:=ak (c r s) 0
end
end Go.AL

namespace Go.AL
open Go
variable [Dr]
section
variable {K:List Kd} {Z:List G} {Q:List G→Prop}
structure Em (K:List Kd) (Q:List G→Prop):Prop where
 eta:∀ r,Q r→be K r=r
structure Eqv (K:List Kd) (C:List G→Option (List G)) (Q:List G→Prop) (e:List G→List G→Bool):Prop where
 cmp:∀ r s,Q r→Q s→C [.l [r],.l [s]]=some [.t (e r s)]
 eta:∀ r,Q r→be K r=r
variable {C:List G→Option (List G)} {ee:List G→List G→Bool}
end
end Go.AL

namespace Go.AL
open Go
variable [Dr]
def vQ(K:List Kd)(d:List G):Option (Option Nat × List G) :=
 (bif (ak (gi d 3).int (gi d 2).int) then (bif ((aI (gi d 3).int)&&(ak (gi d 3).int (((gi d 0).rows.length:Nat):Int))) then (bif ((aI (gi d 3).int)&&(ak (gi d 3).int (((gi d 1).rows.length:Nat):Int))) then (bif (!(bL K (be K ((gi d 0).rows.getD (((gi d 3).int).toNat) [])) (be K ((gi d 1).rows.getD (((gi d 3).int).toNat) [])))) then some (some 0,[.t false]) else (bif (ay ((gi d 3).int+1)) then some (none,[.l (gi d 0).rows,.l (gi d 1).rows,.i (gi d 2).int,.i ((gi d 3).int+1)]) else none)) else none) else none) else some (some 1,[]))
def MW(K:List Kd)(d:List G):Option (List G) :=
 (bif ((((gi d 0).rows.length:Nat):Int) != (((gi d 1).rows.length:Nat):Int)) then some [.t false] else (bh true (cu (vQ K) [.l (gi d 0).rows,.l (gi d 1).rows,.i (((gi d 0).rows.length:Nat):Int),.i 0]) fun g g1=>(bif af g 0 then some [.t (gi g1 0).bool] else some [.t true])))
section
variable {K:List Kd} {Q:List G→Prop}
def kB(K:List Kd):List (List G)→List (List G)→Bool
 | [],[]=>true
 |x::a,y::b=>bL K x y&&kB K a b
 |_,_=>false
theorem MX:∀(K:List Kd) (x:List G),(K.all fun k=>match k with | .list _=>false|_=>true)=true→bL K x x=true
 | [],_,_=>rfl
 | k::K,x,h=>by
  simp only[iG,ar]at h;simp only[bL,MX K _ h.2,fG];cases k<;>simp only[n3,beq_self_eq_true]
  simp at h
theorem MY{K:List Kd}(h:(K.all fun k=>match k with | .list _=>false|_=>true)=true):∀ a,kB K a a=true
 | []=>rfl
 |x::a=>by simp[kB,MX K x h,MY h a]
theorem MZ{K:List Kd}:∀{a b:List (List G)},a.length≠b.length→kB K a b=false
 | [],[],h=>(h rfl).elim
 | [],_::_,_=>rfl
 |_::_,[],_=>rfl
 |x::a,y::b,h=>by simp only[kB,MZ (a:=a) (b:=b) (by simpa using h),Bool.and_false]
theorem M0(hC:Em K Q):∀(q r p s:List (List G)),(∀ z∈q,Q z)→(∀ z∈r,Q z)→p.length=s.length→q.length=r.length→p.length+q.length<100000 →
  a6 (vQ K) [.l (p++q),.l (s++r),.i ((p.length+q.length:Nat):Int),.i (p.length:Int)] (q.length+1) fun c g=>(c=0∧g=[.t false]∧kB K q r=false)∨c=1∧kB K q r=true
 | [],[],p,s,d,k,h1,B,I=>by
  refine a6.stop (x:=1) (d':=[]) (aa.toEq ?_) (.inr ⟨rfl,rfl⟩);unfold vQ
  (dsimp +instances only[Aa,Ab,Ac,Ad,Ae,Af,Ag])
  (repeat first|refine aa.p ?_|refine aa.n ?_)
  exact aa.some rfl
 | [],_::_,_,_,_,_,_,h,_=>by simp at h
 |_::_,[],_,_,_,_,_,h,_=>by simp at h
 | x::q,y::r,p,s,d,k,h1,B,I=>by
  simp only[cw]at I B;have J:=d x (by simp);have M:=k y (by simp);have g1:(p++x::q).getD (p.length:Int).toNat []=x:=sJ _ _ _ _ _ (by simp);have g2:(s++y::r).getD (p.length:Int).toNat []=y:=sJ _ _ _ _ _ (by simp[h1]);have hlen:(p++x::q).length=p.length+q.length+1:=by simp; omega
  have v:(s++y::r).length=p.length+q.length+1:=by simp; omega
  cases he:bL K x y with
  | false =>
   refine a6.stop (x:=0) (d':=[.t false]) (aa.toEq ?_) (.inl ⟨rfl,rfl,by simp[kB,he]⟩);unfold vQ
   (dsimp +instances only[Aa,Ab,Ac,Ad,Ae,Af,Ag])
   simp only[g1,g2,hlen,v,cw,hC.eta y M,hC.eta x J]
   (repeat first|refine aa.p ?_|refine aa.n ?_)
   try simp only[he]
   (repeat first|refine aa.p ?_|refine aa.n ?_)
   exact aa.some rfl
  | true =>
   have N:=M0 hC q r (p++[x]) (s++[y]) (fun z u=>d z (cI _ u)) (fun z u=>k z (cI _ u)) (by simp[h1]) (by omega) (by simp; omega);have O:kB K (x::q) (y::r)=kB K q r:=by simp[kB,he]
   rw[O];refine a6.next (aa.toEq ?_) N
   unfold vQ
   (dsimp +instances only[Aa,Ab,Ac,Ad,Ae,Af,Ag])
   simp only[g1,g2,hlen,v,cw,hC.eta y M,hC.eta x J]
   (repeat first|refine aa.p ?_|refine aa.n ?_)
   try simp only[he]
   (repeat first|refine aa.p ?_|refine aa.n ?_)
   refine aa.some ?_;simp;omega
theorem Ya(hC:Em K Q)(a b:List (List G))(ha:∀ y∈a,Q y)(hb:∀ y∈b,Q y)(k:a.length<100000):MW K [.l a,.l b]=some [.t (kB K a b)]:=by
 refine aa.toEq ?_;unfold MW
 (dsimp +instances only[Aa,Ab,Ac,Ad,Ae,Af,Ag])
 by_cases d:a.length=b.length
 ·(repeat first|refine aa.p ?_|refine aa.n ?_)
  have h:=M0 hC a b [] [] ha hb rfl d (by simpa using k);have h0:((0:Nat):Int)=0:=rfl;simp only[List.nil_append,List.length_nil,cR,h0]at h;refine aa.loop (h.to (by omega)) (by(first|rfl|assumption|(simp only[ay,sl]<;>omega))) ?_;rintro c g (⟨rfl,rfl,h⟩|⟨rfl,h⟩)
  ·(dsimp +instances only [Aa,Ab,Ac,Ad,Ae,Af,Ag])
   (repeat first|refine aa.p ?_|refine aa.n ?_)
   exact aa.some (by rw[h])
  ·(repeat first|refine aa.p ?_|refine aa.n ?_)
   exact aa.some (by rw[h])
 ·(repeat first|refine aa.p ?_|refine aa.n ?_)
  exact aa.some (by rw[MZ d])
end
end Go.AL

namespace Go.AL
open Go
variable [Dr]
section
variable {K:List Kd} {Z:List G} {Q:List G→Prop} {C:List G→Option (List G)} {cp:G→G} {cap:G} {p:List G→Bool}
structure Prd (K:List Kd) (C:List G→Option (List G)) (cp:G→G) (cap:G) (Q:List G→Prop) (p:List G→Bool):Prop where
 cmp:∀ r,Q r→C [.l [r],cap]=some [.t (p r)]
 eta:∀ r,Q r→be K r=r
 fix:cp cap=cap
end
section
variable {K:List Kd} {Z:List G}
end
end Go.AL

namespace Go.AL
open Go
variable [Dr]
section sort
variable {α:Type} {lt:α→α→Bool}
theorem zR(x:α):∀ p:List α,(lZ lt x p).Perm (x::p)
 | []=>ue _
 | y::p=>by
  simp only[lZ];cases lt x y with
  |true=>exact(List.Perm.cons y (zR x p)).trans (List.Perm.swap x y p)
  |false=>exact ue _
theorem M1:∀(r p:List α),(l4 lt p r).Perm (p++r)
 | [],p=>by simp[l4]
 | x::r,p=>by
  simp only[l4];refine(M1 r (lZ lt x p)).trans ?_;refine(List.Perm.append_right r (zR x p)).trans ?_;simpa using(List.perm_middle (a:=x) (l₁:=p) (l₂:=r)).symm
theorem sK(l:List α):(kA lt l).Perm l:=by
 unfold kA;exact(List.reverse_perm _).trans (by simpa using M1 (lt:=lt) l [])
structure fj (lt:α→α→Bool) (Q:α→Prop):Prop where
 tr:∀ a b c,Q a→Q b→Q c→lt a b=false→lt b c=false→lt a c=false
 zS:∀ a b,Q a→Q b→lt a b=true→lt b a=false
variable {Q:α→Prop}
theorem M2(h:fj lt Q){x:α}(k:Q x):∀{p:List α},(∀ y∈p,Q y)→p.Pairwise (fun a b=>lt a b=false)→(lZ lt x p).Pairwise (fun a b=>lt a b=false)
 | [],_,_=>by simp[lZ]
 | y::p,t,u=>by
  obtain⟨h1,B⟩:=xL.1 u;have v:=t y cH;have q:∀ z∈p,Q z:=fun z d=>t z (cI _ d);simp only[lZ];cases g:lt x y with
  | true =>
   refine xL.2 ⟨fun z d=>?_,M2 h k q B⟩;rcases bS.1 ((zR x p).mem_iff.1 d)with rfl|d
   ·exact h.zS _ _ k v g
   ·exact h1 z d
  | false =>
   refine xL.2 ⟨fun z d=>?_,u⟩;rcases bS.1 d with rfl|d
   ·exact g
   ·exact h.tr x y z k v (q z d) g (h1 z d)
theorem M3(k:fj lt Q):∀{r p:List α},(∀ y∈p,Q y)→(∀ y∈r,Q y)→p.Pairwise (fun a b=>lt a b=false)→(l4 lt p r).Pairwise (fun a b=>lt a b=false)
 | [],_,_,_,g=>by simpa[l4]using g
 | x::r,p,q,h,g=>by
  simp only[l4];refine M3 k (fun y d=>?_) (fun y d=>h y (cI _ d)) (M2 k (h x cH) q g);rcases bS.1 ((zR x p).mem_iff.1 d)with rfl|d
  ·exact h _ cH
  ·exact q y d
theorem zT(d:fj lt Q){l:List α}(g:∀ y∈l,Q y):(kA lt l).Pairwise (fun a b=>lt b a=false):=by
 unfold kA;rw[List.pairwise_reverse];exact M3 d (by simp) g List.Pairwise.nil
theorem En:∀{l r:List α},l.Perm r→(∀ a∈l,∀ b∈l,lt a b=false→lt b a=false→a=b)→l.Pairwise (fun a b=>lt b a=false)→r.Pairwise (fun a b=>lt b a=false)→l=r
 | [],r,d,_,_,_=>d.nil_eq
 |a::l,[],d,_,_,_=>by simpa using d.length_eq
 | a::l,b::r,d,ha,h1,q=>by
  obtain⟨t,u⟩:=xL.1 h1;obtain⟨v,z⟩:=xL.1 q;have e:a=b:=by
   have hb:b∈a::l:=d.symm.subset cH;have h:a∈b::r:=d.subset cH;rcases bS.1 hb with e|k
   ·exact e.symm
   ·rcases bS.1 h with e | g
    ·exact e
    ·exact ha a cH b hb (v a g) (t b k)
  subst e;rw[En ((List.perm_cons a).1 d) (fun x B y I=>ha x (cI _ B) y (cI _ I)) u z]
theorem Yb(d:fj lt Q){l r:List α}(g:l.Perm r)(k:∀ y∈l,Q y)(ha:∀ a∈l,∀ b∈l,lt a b=false→lt b a=false→a=b):kA lt l=kA lt r :=
 En ((sK l).trans (g.trans (sK r).symm)) (fun a h b h'=>ha a ((sK l).mem_iff.1 h) b ((sK l).mem_iff.1 h')) (zT d k)
  (zT d fun y q=>k y (g.mem_iff.2 q))
end sort
theorem Yc{sp:iR}{tl:List G→Option (Option Nat × List G)}{rows:List (List G)}{clock:Nat}{d:List G}{r:Option Nat × List G}(g:qd rows clock=true)
  (h:∀ b p,p.Perm rows→sp.side d b=true∧∃ d',eZ sp.st sp.cd p (sp.init d b)=some d'∧tl d'=some r):qe sp tl rows clock d=some r:=by
 unfold qe;rw[g];refine Xc fun b p k=>?_;obtain⟨h1,d',q,t⟩:=h b p k;rw[h1,cond_true,q];exact t
end Go.AL

namespace Go.AL
open Go
variable [Dr]
section
variable {α:Type} (f:α→Int)
end
section
variable {α:Type} {e:α→α→Bool}
end
end Go.AL

namespace Go.AL
open Go
variable [Dr]
section
variable {K:List Kd} {C:List G→Option (List G)} {Q:List G→Prop} {c:List G→List G→Int}
end
end Go.AL

namespace Go.AL
open Go
variable [Dr]
section
variable {C:List G→Option (List G)} {Q:List G→Prop} {c:List G→List G→Int}
theorem fj.mono{α:Type}{lt:α→α→Bool}{Q k:α→Prop}(h:fj lt Q)(g:∀ a,k a→Q a):fj lt k :=
 ⟨fun a b d ha hb q=>h.tr a b d (g a ha) (g b hb) (g d q),fun a b ha hb=>h.zS a b (g a ha) (g b hb)⟩
def sL(C:List G→Option (List G))(Q:List G→Prop)(c:List G→List G→Int):Prop:=∀ r s,Q r→Q s→∃ v,C [.l [r],.l [s]]=some [.i v]∧(v<0↔c r s<0)
end
end Go.AL

namespace Go.AL
open Go Go.Proofs
variable [Dr]
variable {C:List G→Option (List G)} {Q:List G→Prop} {c:List G→List G→Int}
theorem M4(hC:sL C Q c){r s:List G}(d:Q r)(g:Q s):decide (vI C r s<0)=eI c r s:=by
 obtain⟨v,h,k⟩:=hC r s d g;unfold vI eI;rw[h,aZ];show decide (v<0)=_
 rw[gj,decide_eq_true_eq,decide_eq_true_eq];exact k
theorem qi(hC:sL C Q c){rows:List (List G)}(d:∀ y∈rows,Q y)(h0:rows≠[])(i j:Nat):ltOf (lX C rows) i j=eI c (fA rows i) (fA rows j) :=
 M4 hC (d _ (vJ h0 i)) (d _ (vJ h0 j))
theorem Yd(hC:sL C Q c)(k:fj (eI c) Q){rows:List (List G)}(d:∀ y∈rows,Q y)(h0:rows≠[])(t:rows.length<100000):qg C rows:=by
 have g:=fun i=>d _ (vJ h0 i);refine⟨fun r h s h'=>by obtain⟨v,e,_⟩:=hC r s (d r h) (d s h'); exact⟨v,e⟩,⟨fun x=>?_,fun x y z=>?_,fun x y z=>?_⟩,by omega⟩
 ·rw [qi hC d h0]
  cases h:eI c (fA rows x) (fA rows x)with
  |false=>rfl
  |true=>rw[k.zS _ _ (g x) (g x) h]at h; cases h
 ·rw [qi hC d h0, qi hC d h0, qi hC d h0]
  intro h1 q;cases h:eI c (fA rows x) (fA rows z)with
  |true=>rfl
  | false =>
   have:=k.tr _ _ _ (g x) (g z) (g y) h (k.zS _ _ (g y) (g z) q);rw[this]at h1;cases h1
 ·rw [qi hC d h0, qi hC d h0, qi hC d h0]
  exact k.tr _ _ _ (g x) (g y) (g z)
theorem Ye(hC:sL C Q c)(q:fj (eI c) Q)(rows:List (List G))(g:∀ y∈rows,Q y)(t:rows.length<100000) :
  ∃ out,sF C [.l rows]=some [.l out]∧out.Perm rows∧out.Pairwise fun a b=>eI c b a=false:=by
 unfold sF;have e:(gi [G.l rows] 0).rows=rows:=rfl;rw[e];by_cases h0:rows=[]
 ·rw [if_pos h0, h0]
  exact⟨[],rfl,ue _,List.Pairwise.nil⟩
 ·have d := Yd hC q g h0 t
  rw[if_neg h0,if_pos d];have k:=MH d;refine⟨_,rfl,k,?_⟩;refine aiR ?_ (Xz d);intro a b h1 u h;rw[←M4 hC (g b (k.mem_iff.1 u)) (g a (k.mem_iff.1 h1)),decide_eq_false_iff_not];exact h
theorem Yf(hC:sL C Q c)(g:fj (eI c) Q)(rows:List (List G))(k:∀ y∈rows,Q y)(q:rows.length<100000)(ha:∀ a∈rows,∀ b∈rows,eI c a b=false→eI c b a=false→a=b) :
  sF C [.l rows]=some [.l (kA (eI c) rows)]:=by
 obtain⟨out,h,d,t⟩:=Ye hC g rows k q;rw[h,En (d.trans (sK (lt:=eI c) rows).symm) (fun a h1 b u=>ha a (d.mem_iff.1 h1) b (d.mem_iff.1 u)) t (zT g k)]
end Go.AL

namespace Go.AL
open Go
variable [Dr]
noncomputable abbrev vR(r:List G):Int:=(gi r 0).int
noncomputable abbrev qj(r:List G):Int:=(gi r 1).int
def Yg(r:List G):Prop:=r=[.i (vR r),.i (qj r)]∧vR r<qj r
def M5(l:List (List G))(n:Int):Prop:=∃ r∈l,vR r≤n∧n<qj r
def Yh(l:List (List G)):Prop:=(∀ r∈l,Yg r)∧l.Pairwise fun r s=>qj r<vR s
/-! ### Rows put d -/
/-! ### Rows d others -/
structure aiG (out:List (List G)) (a b:Int) (os:List (List G)) (ps:List (List G)) (f:Int):Prop where
 low:a≤f
 at_:f=a∨∃ o∈os,f=qj o
 past:∀ o∈os,qj o≤f∨b≤vR o
 mem:∀ n,M5 ps n↔a≤n∧n<f∧n<b∧¬ M5 os n
 can:Yh (out++ps)
 gap:∀ s∈out++ps,qj s<f
 many:ps.length≤os.length
end Go.AL

namespace Go.AL
open Go
variable [Dr]
/-! ### aiI and split -/
theorem l5(x y:List UInt8)(r:List (List UInt8))(sep:List UInt8):eR (x::y::r) sep=x++(sep++eR (y::r) sep):=by
 rw[ah6,ah6];simp[Lib.joinTail]
theorem Eo{c:UInt8}:∀{l:List UInt8},c∉l→fI l c = -1
 | [],_=>rfl
 | b::l,h=>by
  have hb:¬ b=c:=fun e=>h (e▸cH);have d:=Eo fun g=>h (cI b g);unfold fI;rw[if_neg (by simpa using hb),if_pos (by rw[d]; rfl)]
theorem Ep{c:UInt8}(r:List UInt8):∀{p:List UInt8},c∉p→fI (p++c::r) c=p.length
 | [],_=>by
  show fI (c::r) c=_
  unfold fI;rw[if_pos (by simp)];rfl
 | b::p,h=>by
  have hb:¬ b=c:=fun e=>h (e▸cH);have d:=Ep r (p:=p) fun g=>h (cI b g);show fI (b::(p++c::r)) c=_
  unfold fI;rw[if_neg (by simpa using hb),d,if_neg (by simp)];simp
theorem M6(c:UInt8):∀(xs:List (List UInt8)) (x:List UInt8),(∀ y∈x::xs,c∉y)→Lib.splitK [c] 0 xs.length (eR (x::xs) [c])=x::xs
 | [],x,_=>by
  rw[qT];rfl
 | y::d,x,h=>by
  have g:=h x cH;have k:=M6 c d y fun z q=>h z (cI x q);rw[l5,cw];have hi:Lib.index (x++([c]++eR (y::d) [c])) [c]=x.length:=by rw[Lib.index_one]; exact Ep _ g
  unfold Lib.splitK;rw[hi,if_neg (by simp)];have t:(x++([c]++eR (y::d) [c])).take ((x.length:Int).toNat+0)=x:=by simp
  have u:(x++([c]++eR (y::d) [c])).drop ((x.length:Int).toNat+[c].length)=eR (y::d) [c]:=by
   rw[←List.append_assoc];simp
  rw[t,u,k]
theorem M7(c:UInt8):∀(xs:List (List UInt8)) (x:List UInt8),(∀ y∈x::xs,c∉y)→(eR (x::xs) [c]).count c=xs.length
 | [],x,h=>by
  rw[qT];exact ah8.2 (h x cH)
 | y::d,x,h=>by
  have g:=h x cH;have k:=M7 c d y fun z q=>h z (cI x q);rw[l5,ah9,ah9,k,ah8.2 g];simp;omega
theorem M8(b:ByteArray):(⟨b.data.toList.toArray⟩:ByteArray)=b:=by cases b; simp
theorem Yi{s:ByteArray}{c:UInt8}{x:List UInt8}{xs:List (List UInt8)}(d:s.data.toList=eR (x::xs) [c])(h:∀ y∈x::xs,c∉y) :
  sI s ⟨#[c]⟩=(x::xs).map fun y=>[G.s ⟨y.toArray⟩]:=by
 have g:Lib.countB s ⟨#[c]⟩=xs.length:=by
  show Lib.count s.data.toList [c]=_
  rw[Lib.count_one,d,M7 c xs x h]
 have k:(Lib.splitB ⟨#[c]⟩ 0 xs.length s).map (·.data.toList)=x::xs:=by
  rw[Lib.splitB_data,d];exact M6 c xs x h
 unfold sI;rw[g,←k,List.map_map];refine List.map_congr_left fun b _=>?_;simp[M8]
/-! ### d -/
theorem Er{p:Nat→Prop}(h0:∀ u,u<10→p u)(h1:∀ u,10≤u→p (u / 10)→p u)(u:Nat):p u:=by
 induction u using Nat.strongRecOn with
 | _ u d =>
  by_cases h:u<10
  ·exact h0 u h
  ·exact h1 u (by omega) (d (u / 10) (by omega))
theorem lq{u:Nat}(h:u<10):jb u=[uf (48+u)]:=by rw[jb,dif_pos h]
theorem vS{u:Nat}(h:10≤u):jb u=jb (u / 10)++[uf (48+u%10)]:=by rw[jb,dif_neg (by omega)]
theorem Es{k:Nat}(h:k<10):(uf (48+k)).toNat=48+k:=by
 rw[UInt8.toNat_ofNat'];omega
theorem Yj(u:Nat):∀ b∈jb u,48≤b.toNat∧b.toNat≤57:=by
 induction u using Er with
 | h0 u h =>
  intro b hb;rw[lq h,ib]at hb;rw[hb,Es h];omega
 | h1 u h d =>
  intro b hb;rw[vS h,List.mem_append,ib]at hb;rcases hb with hb|hb
  ·exact d b hb
  ·rw [hb, Es (Nat.mod_lt u (by omega))]
   omega
theorem Yk(u:Nat):jb u≠[]:=by
 induction u using Er with
 |h0 u h=>rw[lq h]; simp
 |h1 u h d=>rw[vS h]; simp
theorem M9(u:Nat):(jb u).head? = some 48→u=0:=by
 induction u using Er with
 | h0 u h =>
  intro e;rw[lq h]at e;simp only[List.head?_cons,aX]at e;have:=congrArg UInt8.toNat e;rw[Es h]at this;simp at this;exact this
 | h1 u h d =>
  intro e;rw[vS h,List.head?_append]at e;cases g:jb (u / 10)with
  |nil=>exact(Yk _ g).elim
  | cons b r =>
   rw[g]at e d;have:=d (by simpa using e);omega
theorem M_:∀(k u:Nat),u<10 ^ (k+1)→(jb u).length≤k+1
 |0,u,h=>by rw[lq (by simpa using h)]; simp
 | k+1,u,h=>by
  by_cases h0:u<10
  ·rw[lq h0]; simp
  ·have := M_ k (u / 10) (by rw [Nat.div_lt_iff_lt_mul (by omega)]; rw [ah_] at h; exact h)
   rw[vS (by omega)];simp;omega
theorem M'{α:Type}{p:α→Bool}:∀{l:List α},(∀ b∈l,p b=true)→l.dropWhile p=[]
 | [],_=>rfl
 | b::l,h=>by
  rw[List.dropWhile_cons,if_pos (h b cH)];exact M' fun x d=>h x (cI b d)
theorem Yl{l cs:List UInt8}(h:∀ b∈l,cs.contains b=true):mA l cs=[]:=by
 unfold mA Lib.trimRightS;rw[M' fun b hb=>h b (List.mem_reverse.1 hb)];rfl
/-! ### Words, lines, texts -/
def Na(l:List UInt8):Prop:=l≠[]∧∀ b∈l,b≠32∧b≠10
theorem Na.nb{l:List UInt8}(h:Na l):(32:UInt8)∉l:=fun hm=>(h.2 _ hm).1 rfl
def iT(ws:List (List UInt8)):List UInt8:=eR ws [32]++[10]
def ga (d:List (List (List UInt8))):List UInt8:=(d.map iT).flatten
theorem Nb (d:List (List (List UInt8))) (ws:List (List UInt8)):ga (d++[ws])=ga d++iT ws:=by
 simp[ga]
end Go.AL

namespace Go.AL
open Go
variable [Dr]
/-! ### d -/
def cM(c:UInt8):List UInt8→List (List UInt8)
 | []=>[[]]
 | b::l=>if b=c then []::cM c l else match cM c l with
  |p::ps=>(b::p)::ps
  | []=>[[b]]
theorem sM(c:UInt8)(l:List UInt8):cM c l≠[]:=by
 cases l with
 |nil=>simp[cM]
 | cons b l =>
  unfold cM;split
  ·simp
  ·split<;>simp
theorem zU(c:UInt8):∀ l:List UInt8,eR (cM c l) [c]=l
 | []=>by simp[cM,qT]
 | b::l=>by
  have d:=zU c l;unfold cM;split
  ·rename_i hb
   cases g:cM c l with
   |nil=>exact(sM c l g).elim
   | cons p ps =>
    rw[l5,←g,d,hb];simp
  ·cases g : cM c l with
   |nil=>exact(sM c l g).elim
   | cons p ps =>
    rw[g]at d;simp only;cases ps with
    | nil =>
     rw[qT]at d⊢;rw[d]
    | cons q h =>
     rw[l5]at d⊢;rw[List.cons_append,d]
theorem Et(c:UInt8):∀(l:List UInt8),∀ p∈cM c l,c∉p
 | [],p,d=>by
  simp only[cM,ib]at d;rw[d];simp
 | b::l,p,d=>by
  have g:=Et c l;unfold cM at d;split at d
  ·rcases bS.1 d with rfl | d
   ·simp
   ·exact g p d
  ·rename_i hb
   cases h:cM c l with
   |nil=>exact(sM c l h).elim
   | cons q k =>
    rw[h]at d g;simp only at d;rcases bS.1 d with rfl|d
    ·intro hm
     rcases bS.1 hm with e|hm
     ·exact hb e.symm
     ·exact g q cH hm
    ·exact g p (cI q d)
theorem Ym{c:UInt8}{l p:List UInt8}(d:p∈cM c l):∀ b∈p,b∈l:=by
 induction l generalizing p with
 | nil =>
  simp only[cM,ib]at d;rw[d];simp
 | cons a l g =>
  unfold cM at d;split at d
  ·rcases bS.1 d with rfl | d
   ·simp
   ·exact fun b hb=>cI a (g d b hb)
  ·cases h : cM c l with
   |nil=>exact(sM c l h).elim
   | cons q k =>
    rw[h]at d g;simp only at d;rcases bS.1 d with rfl|d
    ·intro b hb
     rcases bS.1 hb with rfl|hb
     ·exact cH
     ·exact cI a (g cH b hb)
    ·exact fun b hb=>cI a (g (cI q d) b hb)
theorem Eu(c:UInt8):∀ l:List UInt8,(cM c l).length≤l.length+1
 | []=>by simp[cM]
 | b::l=>by
  have d:=Eu c l;unfold cM;split
  ·simp only [cw]
   omega
  ·cases g : cM c l with
   |nil=>simp
   | cons q h =>
    rw[g]at d;simp only[cw]at d⊢;omega
/-! ### d -/
def eJ(b:UInt8):Bool:=bI 48 b.toNat&&bI b.toNat 57
def kC(b:UInt8):Nat:=b.toNat-48
def b9(t:List UInt8):Nat:=t.foldl (fun a b=>a*10+kC b) 0
theorem digitVal_eq{b:UInt8}(h:eJ b=true):ah' b=some (kC b):=by
 unfold eJ at h;simp only[ar,cK]at h;unfold ah';rw[if_pos h];rfl
theorem Ev:∀(t:List UInt8) (a:Nat),t.all eJ=true→aia a t=some (t.foldl (fun a b=>a*10+kC b) a)
 | [],_,_=>rfl
 | b::t,a,h=>by
  rw[iG,ar]at h;unfold aia;rw[digitVal_eq h.1];exact Ev t _ h.2
theorem Nc{b:UInt8}(h:eJ b=true):b≠45∧b≠43:=by
 unfold eJ at h;simp only[ar,cK]at h;constructor<;>(intro e; rw[e]at h; simp at h)
theorem Nd{t:List UInt8}(h0:t≠[])(h:t.all eJ=true):Lib.atoi t=some (b9 t:Int):=by
 cases t with
 |nil=>exact(h0 rfl).elim
 | cons b r =>
  have hb:eJ b=true:=by rw[iG,ar]at h; exact h.1
  show (if b==45 then (qU r).map fun(m:Nat) => -(m:Int) else if b==43 then (qU r).map fun(m:Nat)=>(m:Int) else (qU (b::r)).map fun(m:Nat)=>(m:Int))=_
  rw[if_neg (by simpa using(Nc hb).1),if_neg (by simpa using(Nc hb).2)];unfold qU;rw[if_neg (by simp),Ev _ _ h];rfl
theorem Yn{t:List UInt8}(h0:t≠[])(h:t.all eJ=true):Lib.atoi (45::t)=some (-(b9 t:Int)):=by
 show (if (45:UInt8)==45 then (qU t).map fun(m:Nat) => -(m:Int) else if (45:UInt8)==43 then (qU t).map fun(m:Nat)=>(m:Int) else (qU (45::t)).map fun(m:Nat)=>(m:Int))=_
 rw[if_pos (by rfl)];unfold qU;rw[if_neg (by simpa using h0),Ev _ _ h];rfl
theorem Nf(t:List UInt8)(b:UInt8):b9 (t++[b])=b9 t*10+kC b:=by simp[b9]
theorem Ng:∀(k:Nat) (t:List UInt8),t.all eJ=true→t.length≤k→b9 t<10 ^ k:=by
 intro k
 induction k with
 | zero =>
  intro t _ hk;have:t=[]:=nE (by omega);subst this;simp[b9]
 | succ k g =>
  intro t h hk;rcases xM t with rfl|⟨t',b,e⟩
  ·simp only [b9, List.foldl_nil]
   exact Nat.pow_pos (by omega)
  ·rw [xN] at e
   subst e;rw[nO,ar]at h;have d:eJ b=true:=by simpa using h.2
   unfold eJ at d;simp only[ar,cK]at d;have:=g t' h.1 (by simp at hk; omega);rw[Nf,ah_];unfold kC;omega
theorem canon:∀(k:Nat) (t:List UInt8),t.length=k→t≠[]→t.all eJ=true→(t.head? ≠ some 48∨t=[48])→jb (b9 t)=t:=by
 intro k
 induction k with
 |zero=>exact fun t hk h0=>(h0 (nE hk)).elim
 | succ k z =>
  intro t hk h0 h d;rcases xM t with rfl|⟨t',b,e⟩
  ·exact(h0 rfl).elim
  ·rw [xN] at e
   subst e;rw[nO,ar]at h;have B:eJ b=true:=by simpa using h.2
   have g:=B;unfold eJ at g;simp only[ar,cK]at g;have q:uf (48+kC b)=b:=by
    unfold kC;rw[show 48+(b.toNat-48)=b.toNat by omega,UInt8.ofNat_toNat]
   have y:kC b<10:=by unfold kC; omega
   rw[Nf];cases t' with
   | nil =>
    have:b9 []=0:=rfl;rw[this,Nat.zero_mul,cR,lq y,q];rfl
   | cons x r =>
    have u:x≠48:=by
     rcases d with d|d
     ·simpa using d
     ·simp at d
    have e:=z (x::r) (by simpa using hk) (by simp) h.1 (.inl (by simpa using u));have v:b9 (x::r)≠0:=fun v=>by
     rw[v,lq (by omega)]at e;simp at e;exact u e.1.symm
    rw[vS (by omega),show (b9 (x::r)*10+kC b) / 10=b9 (x::r) by omega,show (b9 (x::r)*10+kC b)%10=kC b by omega,e,q]
def kD(d:Nat)(w:List UInt8):Option Int :=
 match w with
 |45::t=>if t≠[]∧t.length≤d∧t.all eJ=true∧t.head? ≠ some 48 then some (-(b9 t:Int)) else none
 |t=>if t≠[]∧t.length≤d∧t.all eJ=true∧(t.head? ≠ some 48∨t=[48]) then some (b9 t:Int) else none
end Go.AL
