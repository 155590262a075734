/-
 What is proved here: rules by which lifted functions are shown to give what they should. No program in sight; no condition.
-/
import Derived.Test.YtjmnkdlhpemooaaGreatDoorMD
import Derived.Test.YtjmnkdlhpemooaaGreatDoorMH
set_option linter.all false
open Bool renaming and_eq_true→ax,eq_iff_iff→lx
open List renaming length_cons→cr,getElem?_eq_getElem→bt,getD_eq_getElem?_getD→bG,mem_cons→bR,length_append→dY,mem_append→cZ,replicate→bO,mem_cons_self→cO,mem_cons_of_mem→c9,drop_eq_nil_of_le→R8,length_replicate→wL,length_nil→mr,pairwise_cons→qB
open List.Pairwise renaming imp_of_mem→ahD
open List.Perm renaming refl→nu
open Nat renaming le_refl→aD,beq→ae
namespace Go.AL
open Go
variable [Dr]
def aa{β:Type}(x:Option β)(Q:β→Prop):Prop:=∃ r,x=some r∧Q r
def jS(st:List G→Option (Option Nat × List G))(d:List G)(Q:Nat→List G→Prop):Prop:=∃ n x d',iT st n d x d'∧n≤1000000∧Q x d'
namespace aa
variable {β:Type} {Q:β→Prop}
theorem some{r:β}(h:Q r):aa (some r) Q:=⟨r,rfl,h⟩
theorem pos{b:Bool}{x y:Option β}(h:b=true)(d:aa x Q):aa (bif b then x else y) Q:=by subst h; exact d
theorem neg{b:Bool}{x y:Option β}(h:b=false)(d:aa y Q):aa (bif b then x else y) Q:=by subst h; exact d
theorem test{b:Bool}{x y:Option β}(d:b=true→aa x Q)(h:b=false→aa y Q):aa (bif b then x else y) Q:=by
 cases b with
 |true=>exact d rfl
 |false=>exact h rfl
theorem call{t:Option (List G)}{k:List G→Option β}{P:List G→Prop}(h:aa t P)(hk:∀ g,P g→aa (k g) Q):aa (ay t k) Q:=by
 obtain⟨r,h,d⟩:=h;subst h;exact hk r d
theorem mU{c:Bool}{t:Option (List G)}{k:List G→Option β}{P:List G→Prop}(h:aa t P)(d:c=true)(hk:∀ g,P g→aa (k g) Q):aa (iE (c&&t.isSome) t k) Q:=by
 obtain⟨r,h,q⟩:=h;subst h d;exact hk r q
theorem loop{c:Bool}{st:List G→Option (Option Nat × List G)}{d:List G}{k:Nat→List G→Option β}{P:Nat→List G→Prop}(h:jS st d P)(q:c=true)(hk:∀ x g,P x g→aa (k x g) Q):aa (a8 c (bV st d) k) Q:=by
 obtain⟨n,x,d',h,u,v⟩:=h;rw[h.Wg u];subst q;exact hk x d' v
theorem tail{c:Bool}{t:Option (Option Nat × List G)}{k:Nat→List G→Option β}{P:Nat→List G→Prop}(h:aa t fun o=>∃ x,o.1=Option.some x∧P x o.2)(u:c=true)(hk:∀ x g,P x g→aa (k x g) Q) :
  aa (a8 c (dn t) k) Q:=by
 obtain⟨⟨o,d⟩,rfl,x,q,v⟩:=h;simp only at q;subst q u;exact hk x d v
theorem mono{x:Option β}{P:β→Prop}(h:aa x P)(d:∀ r,P r→Q r):aa x Q:=by
 obtain⟨r,h,k⟩:=h;exact⟨r,h,d r k⟩
theorem eq{x:Option β}{r:β}(h:x=Option.some r):aa x (fun g=>g=r):=⟨r,h,rfl⟩
theorem toEq{x:Option β}{r:β}(h:aa x (fun g=>g=r)):x=Option.some r:=by
 obtain⟨r',h,rfl⟩:=h;exact h
end aa
theorem jS.stop{st:List G→Option (Option Nat × List G)}{d d':List G}{x:Nat}{Q:Nat→List G→Prop}(h:st d=some (some x,d'))(k:Q x d'):jS st d Q:=⟨1,x,d',.stop h,by omega,k⟩
def aZ(st:List G→Option (Option Nat × List G))(d:List G)(m:Nat)(Q:Nat→List G→Prop):Prop:=∃ n x d',iT st n d x d'∧n≤m∧Q x d'
theorem aZ.stop{st:List G→Option (Option Nat × List G)}{d d':List G}{x m:Nat}{Q:Nat→List G→Prop}(h:st d=some (some x,d'))(k:Q x d'):aZ st d (m+1) Q:=⟨1,x,d',.stop h,by omega,k⟩
theorem aZ.next{st:List G→Option (Option Nat × List G)}{d d1:List G}{m:Nat}{Q:Nat→List G→Prop}(h:st d=some (none,d1))(hr:aZ st d1 m Q):aZ st d (m+1) Q:=by
 obtain⟨n,x,d',h1,q,k⟩:=hr;exact⟨n+1,x,d',.next h h1,by omega,k⟩
theorem aZ.to{st:List G→Option (Option Nat × List G)}{d:List G}{m:Nat}{Q:Nat→List G→Prop}(h:aZ st d m Q)(hm:m≤1000000):jS st d Q:=by
 obtain⟨n,x,d',h1,q,k⟩:=h;exact⟨n,x,d',h1,by omega,k⟩
theorem jS.mono{st:List G→Option (Option Nat × List G)}{d:List G}{P Q:Nat→List G→Prop}(h:jS st d P)(k:∀ x g,P x g→Q x g):jS st d Q:=by
 obtain⟨n,x,d',h1,q,u⟩:=h;exact⟨n,x,d',h1,q,k _ _ u⟩
theorem aZ.mono{st:List G→Option (Option Nat × List G)}{d:List G}{m:Nat}{P Q:Nat→List G→Prop}(h:aZ st d m P)(k:∀ x g,P x g→Q x g):aZ st d m Q:=by
 obtain⟨n,x,d',h1,q,u⟩:=h;exact⟨n,x,d',h1,q,k _ _ u⟩
theorem Xb{p:Prop}{i:Decidable p}:(@decide p i=true)↔p:=by simp
theorem Xc{p:Prop}{i:Decidable p}:(@decide p i=false)↔¬ p:=by simp
theorem Xd{a b:Nat}:ae a b=true↔a=b:=⟨Nat.eq_of_beq_eq_true,fun h=>h▸Nat.beq_refl a⟩
theorem Aa(a:G)(l:List G):gi (a::l) 0=a:=rfl
theorem Ab(a:G)(l:List G)(i:Nat):gi (a::l) (i+1)=gi l i:=rfl
theorem Ac(r:List G)(l:List (List G)):(G.l (r::l)).row=r:=rfl
theorem Ad(l:List (List G)):(G.l l).rows=l:=rfl
theorem Ae(n:Int):(G.i n).int=n:=rfl
theorem Af(s:ByteArray):(G.s s).str=s:=rfl
theorem Ag(b:Bool):(G.t b).bool=b:=rfl
theorem sl:(∀ a b:Int,ao a b=decide (a<b))∧(∀ a b:Int,ba a b=decide (a≤b))∧(∀ n:Int,aB n=decide (0≤n))∧(∀ b:Bool,(b&&true)=b)∧(∀ b:Bool,(true&&b)=b) ∧
  (∀ a b:Bool,((a&&b)=true)=(a=true∧b=true))∧(∀ a b:Bool,((a&&b)=false)=(a=false∨b=false))∧(∀(p:Prop) (i:Decidable p),(@decide p i=true)=p)∧(∀(p:Prop) (i:Decidable p),(@decide p i=false)=¬ p) ∧
  (∀ b:Bool,((!b)=true)=(b=false))∧(∀ b:Bool,((!b)=false)=(b=true))∧(∀ a b:Int,((a==b)=true)=(a=b))∧(∀ a b:Int,((a==b)=false)=¬ (a=b))∧(∀ a b:Int,((a != b)=true)=¬ (a=b))∧(∀ a b:Int,((a != b)=false)=(a=b)) ∧
  (∀(α:Type) (a b:α),(a≠b)=¬ (a=b))∧(∀ a b:Nat,(ae a b=true)=(a=b))∧(∀ a b:Nat,(Nat.ble a b=true)=(a≤b))∧(∀ a b:Nat,(Nat.blt a b=true)=(a<b)) ∧
  (∀(l:List (List G)) (i:Nat) (x:List G),(l.set i x).length=l.length)∧(∀(α:Type) (l r:List α),(l++r).length=l.length+r.length)∧(∀(n:Nat) (x:List G),(bO n x).length=n) ∧
  (∀(α:Type) (x:α) (l:List α),(x::l).length=l.length+1)∧(∀ α:Type,([]:List α).length=0)∧(∀(l:List (List G)) (n:Nat),(l.take n).length=min n l.length)∧(∀(l:List (List G)) (n:Nat),(l.drop n).length=l.length-n) ∧
  (∀ n:Nat,((n:Int)).toNat=n)∧(∀ p:Prop,(True∧p)=p)∧(∀ p:Prop,(p∧True)=p)∧(∀ a b:Bool,((a==b)=true)=(a=b)) :=
 ⟨eW, fv, ke, Bool.and_true, Bool.true_and, ax, fun a b => by cases a <;> cases b <;> simp, fun _ _ => propext Xb, fun _ _ => propext Xc, fun b => by cases b <;> simp, fun b => by cases b <;> simp,
  fun a b=>by simp,fun a b=>by simp,fun a b=>by simp,fun a b=>by simp,fun _ a b=>rfl,fun a b=>propext Xd,fun a b=>by simp,fun a b=>by simp,fun l i x=>List.length_set,fun _ l r=>dY,fun n x=>wL,
  fun _ x l=>rfl,fun _=>rfl,fun l n=>List.length_take,fun l n=>List.length_drop,fun n=>Int.toNat_natCast n,fun p=>true_and p,fun p=>and_true p,fun a b=>by cases a<;>cases b<;>simp⟩
theorem aa.p{β:Type}{Q:β→Prop}{b:Bool}{x y:Option β}(d:aa x Q)(h:b=true:=by first|rfl|assumption|(simp only[au,sl]<;>omega)):aa (bif b then x else y) Q:=aa.pos h d
theorem aa.n{β:Type}{Q:β→Prop}{b:Bool}{x y:Option β}(d:aa y Q)(h:b=false:=by first|rfl|assumption|(simp only[au,sl]<;>omega)):aa (bif b then x else y) Q:=aa.neg h d
theorem aa.cE{β:Type}{Q:β→Prop}{t:Option (List G)}{r:List G}{k:List G→Option β}(h:t=Option.some r)(hk:aa (k r) Q):aa (ay t k) Q:=aa.call (aa.eq h) fun _ e=>by subst e; exact hk

end Go.AL

namespace Go.AL
open Go
variable [Dr]
theorem LB{σ:Type}{st:List G→Option (Option Nat × List G)}(mk:σ→Nat→List G)(n:Nat)(fin:σ→Nat × List G)(I:σ→Nat→Prop)(E:Nat→List G→Prop)
  (q:∀ s i,I s i→i<n→aa (st (mk s i)) fun o=>(∃ s',o=(none,mk s' (i+1))∧I s' (i+1))∨∃ c g,o=(some c,g)∧E c g)
  (u:∀ s,I s n→aa (st (mk s n)) fun o=>o=(some (fin s).1,(fin s).2)) :
  ∀(k:Nat) (s:σ) (i:Nat),i+k=n→I s i→aZ st (mk s i) (k+1) fun c g=>(∃ s',I s' n∧c=(fin s').1∧g=(fin s').2)∨E c g
 | 0,s,i,hi,d=>by
  have e:i=n:=hi;subst e;obtain⟨o,h,rfl⟩:=u s d;exact aZ.stop h (.inl ⟨s,d,rfl,rfl⟩)
 | k+1,s,i,hi,d=>by
  obtain⟨o,h,⟨s',rfl,v⟩|⟨c,g,rfl,y⟩⟩:=q s i d (by omega)
  ·exact aZ.next h (LB mk n fin I E q u k s' (i+1) (by omega) v)
  ·exact aZ.stop h (.inr y)
theorem Xe{rows:List (List G)}{i:Nat}(h:i<rows.length):rows.getD i []∈rows:=by
 rw[bG,bt h];exact List.getElem_mem h
theorem Xf{rows:List (List G)}{i:Nat}(h:i<rows.length):rows.take (i+1)=rows.take i++[rows.getD i []]:=by
 rw[List.take_add_one,bG,bt h];rfl
theorem Xg{σ:Type}{st:List G→Option (Option Nat × List G)}(mk:σ→Nat→List G)(rows:List (List G))(fin:σ→Nat × List G)(I:σ→Nat→Prop)(E:Nat→List G→Prop)(s:σ)
  (hlen:rows.length<999999) (h0:I s 0)
  (d:∀ s i x,I s i→i<rows.length→rows.getD i []=x→x∈rows→rows.take (i+1)=rows.take i++[x]→aa (st (mk s i)) fun o=>(∃ s',o=(none,mk s' (i+1))∧I s' (i+1))∨∃ c g,o=(some c,g)∧E c g)
  (h:∀ s,I s rows.length→aa (st (mk s rows.length)) fun o=>o=(some (fin s).1,(fin s).2)) :
  jS st (mk s 0) fun c g=>(∃ s',I s' rows.length∧c=(fin s').1∧g=(fin s').2)∨E c g :=
 (LB mk rows.length fin I E (fun s i k hi=>d s i _ k hi rfl (Xe hi) (Xf hi)) h rows.length s 0 (by omega) h0).to (by omega)
theorem LC{σ:Type}{st:List G→Option (Option Nat × List G)}(mk:σ→Nat→List G)(rows:List (List G))(fin:σ→Nat × List G)(I:σ→Nat→Prop)(s:σ)
  (hlen:rows.length<999999) (h0:I s 0)
  (k:∀ s i x,I s i→i<rows.length→rows.getD i []=x→x∈rows→rows.take (i+1)=rows.take i++[x]→aa (st (mk s i)) fun o=>∃ s',o=(none,mk s' (i+1))∧I s' (i+1))
  (q:∀ s,I s rows.length→aa (st (mk s rows.length)) fun o=>o=(some (fin s).1,(fin s).2)) :
  jS st (mk s 0) fun c g=>∃ s',I s' rows.length∧c=(fin s').1∧g=(fin s').2 :=
 (Xg mk rows fin I (fun _ _=>False) s hlen h0 (fun s i x a b c d e=>(k s i x a b c d e).mono fun _ h=>.inl h) q).mono fun _ _ h=>h.elim id False.elim
end Go.AL

namespace Go.AL
open Go
variable [Dr]
theorem Dz{α:Type}[BEq α][LawfulBEq α](a b:α):(a==b)=(b==a):=by
 rw[lx];simp only[beq_iff_eq];exact eq_comm
theorem Xh{k:Kd}{a b:G}:pC k a b=pC k b a:=by
 cases k
 ·exact Dz _ _
 ·exact Dz _ _
 ·exact Dz _ _
 ·rfl
theorem Xi{k:Kd}{a b c:G}(h1:pC k a b=true)(d:pC k b c=true):pC k a c=true:=by
 cases k<;>simp only[pC,beq_iff_eq]at *<;>first|exact h1.trans d|cases h1
theorem mV:∀{K:List Kd} {a b:List G},aK K a b=aK K b a
 | [],_,_=>rfl
 |k::K,a,b=>by simp only[aK,Xh (a:=a.headD default),mV (K:=K) (a:=a.tail)]
theorem p6:∀{K:List Kd} {a b c:List G},aK K a b=true→aK K b c=true→aK K a c=true
 | [],_,_,_,_,_=>rfl
 | k::K,a,b,c,h1,d=>by
  simp only[aK,ax]at *;exact⟨Xi h1.1 d.1,p6 h1.2 d.2⟩
theorem LD{K:List Kd}{a b c:List G}(h:aK K a b=true):aK K a c=aK K b c:=by
 rw[lx];constructor
 ·exact fun d=>p6 (by rw[mV]; exact h) d
 ·exact fun d=>p6 h d
theorem vl{K:List Kd}{a b c:List G}(h:aK K a b=true):aK K c a=aK K c b:=by
 rw[mV,LD h,mV]
theorem mW(ks:List Kd)(key:List G):∀(rows:List (List G)) (i:Nat),bU ks key rows i=(bU ks key rows 0).map fun p=>(p.1+i,p.2)
 | [],i=>rfl
 | r::rs,i=>by
  simp only[bU];cases aK ks key (gi r 0).row with
  |true=>simp
  | false =>
   simp only[cond_false];rw[mW ks key rs (i+1),mW ks key rs (0+1),Option.map_map];congr 1
   funext p
   simp;omega
theorem LF(ks:List Kd)(key z:List G):cC ks [] key z=z:=rfl
theorem sd(ks:List Kd)(r:List G)(rs:List (List G))(key z:List G):cC ks (r::rs) key z=bif aK ks key (gi r 0).row then (gi r 1).row else cC ks rs key z:=by
 unfold cC;simp only[bU];cases aK ks key (gi r 0).row with
 |true=>rfl
 | false =>
  simp only[cond_false];rw[mW ks key rs (0+1)];cases bU ks key rs 0<;>rfl
theorem LG(ks:List Kd)(key:List G):dC ks [] key=false:=rfl
theorem lT(ks:List Kd)(r:List G)(rs:List (List G))(key:List G):dC ks (r::rs) key=(aK ks key (gi r 0).row||dC ks rs key):=by
 unfold dC;simp only[bU];cases aK ks key (gi r 0).row with
 |true=>rfl
 | false =>
  simp only[cond_false];rw[mW ks key rs (0+1)];cases bU ks key rs 0<;>rfl
theorem LH(ks:List Kd)(key val:List G)(c:Nat):eO ks [] key val c=[[.l [key],.l [val],.i c]]:=rfl
theorem LI(ks:List Kd)(r:List G)(rs:List (List G))(key val:List G)(c:Nat) :
  eO ks (r::rs) key val c=bif aK ks key (gi r 0).row then [.l [key],.l [val],.i (gi r 2).int]::rs else r::eO ks rs key val c:=by
 unfold eO;simp only[bU];cases aK ks key (gi r 0).row with
 |true=>rfl
 | false =>
  simp only[cond_false];rw[mW ks key rs (0+1)];cases bU ks key rs 0<;>rfl
theorem y9(ks:List Kd)(k v key z:List G)(c:Nat):∀ rows:List (List G),cC ks (eO ks rows k v c) key z=bif aK ks key k then v else cC ks rows key z
 | []=>by simp only[LH,sd,LF]; rfl
 | r::rs=>by
  rw[LI,sd];cases h:aK ks k (gi r 0).row with
  | true =>
   simp only[cond_true,sd];have e:aK ks key (gi r 0).row=aK ks key k:=(vl h).symm;rw[e];cases d:aK ks key k with
   |true=>simp only[Aa,Ac,d,cond_true]; rfl
   |false=>simp only[Aa,Ac,d,cond_false]
  | false =>
   simp only[cond_false,sd,y9 ks k v key z c rs];cases d:aK ks key (gi r 0).row with
   |false=>rfl
   | true =>
    cases q:aK ks key k with
    |false=>rfl
    | true =>
     have:aK ks k (gi r 0).row=true:=p6 (by rw[mV]; exact q) d;rw[this]at h;cases h
theorem LJ(ks:List Kd)(k v key:List G)(c:Nat):∀ rows:List (List G),dC ks (eO ks rows k v c) key=(aK ks key k||dC ks rows key)
 | []=>by simp only[LH,lT,LG]; rfl
 | r::rs=>by
  rw[LI,lT];cases h:aK ks k (gi r 0).row with
  | true =>
   simp only[cond_true,lT];have e:aK ks key (gi r 0).row=aK ks key k:=(vl h).symm;rw[e];simp only[Aa,Ac];cases aK ks key k<;>simp
  | false =>
   simp only[cond_false,lT,LJ ks k v key c rs];cases aK ks key (gi r 0).row<;>simp
end Go.AL

namespace Go.AL
open Go
variable [Dr]
def vm(K:List Kd)(C:List G→Option (List G))(d:List G):Option (Option Nat × List G) :=
 (bif (ao (gi d 1).int (gi d 4).int) then (bif ((aB (gi d 4).int)&&(ao (gi d 4).int (((gi d 0).rows.length:Nat):Int))) then (bif (decide ((0+((gi d 4).int).toNat)<(gi d 0).rows.length)) then (bif (au ((gi d 4).int-1)) then (bif ((aB ((gi d 4).int-1))&&(ao ((gi d 4).int-1) (((gi d 0).rows.length:Nat):Int))) then (bif (decide ((0+((gi d 4).int-1).toNat)<(gi d 0).rows.length)) then (ay (C [.l [(aM K ((gi d 0).rows.getD (0+((gi d 4).int).toNat) []))],.l [(aM K ((gi d 0).rows.getD (0+((gi d 4).int-1).toNat) []))]]) fun g1=>(bif (ao (gi g1 0).int 0) then (bif (au ((gi d 4).int-1)) then (bif (au ((gi d 4).int-1)) then (bif ((aB ((gi d 4).int-1))&&(ao ((gi d 4).int-1) (((gi d 0).rows.length:Nat):Int))) then (bif (decide ((0+((gi d 4).int-1).toNat)<(gi d 0).rows.length)) then (bif ((aB (gi d 4).int)&&(ao (gi d 4).int (((gi d 0).rows.length:Nat):Int))) then (bif (decide ((0+((gi d 4).int).toNat)<(gi d 0).rows.length)) then (bif ((aB (gi d 4).int)&&(ao (gi d 4).int (((gi d 0).rows.length:Nat):Int))) then (bif (decide ((0+((gi d 4).int).toNat)<(gi d 0).rows.length)) then (bif ((aB ((gi d 4).int-1))&&(ao ((gi d 4).int-1) (((gi d 0).rows.length:Nat):Int))) then (bif (decide ((0+((gi d 4).int-1).toNat)<((gi d 0).rows.set (0+((gi d 4).int).toNat) (bf K ((gi d 0).rows.getD (0+((gi d 4).int).toNat) []) 0 (aM K ((gi d 0).rows.getD (0+((gi d 4).int-1).toNat) [])))).length)) then (bif (au ((gi d 4).int-1)) then (bif ((ae (gi d 0).rows.length (((gi d 0).rows.set (0+((gi d 4).int).toNat) (bf K ((gi d 0).rows.getD (0+((gi d 4).int).toNat) []) 0 (aM K ((gi d 0).rows.getD (0+((gi d 4).int-1).toNat) [])))).set (0+((gi d 4).int-1).toNat) (bf K (((gi d 0).rows.set (0+((gi d 4).int).toNat) (bf K ((gi d 0).rows.getD (0+((gi d 4).int).toNat) []) 0 (aM K ((gi d 0).rows.getD (0+((gi d 4).int-1).toNat) [])))).getD (0+((gi d 4).int-1).toNat) []) 0 (aM K ((gi d 0).rows.getD (0+((gi d 4).int).toNat) [])))).length)&&true) then some (none,[.l (((gi d 0).rows.set (0+((gi d 4).int).toNat) (bf K ((gi d 0).rows.getD (0+((gi d 4).int).toNat) []) 0 (aM K ((gi d 0).rows.getD (0+((gi d 4).int-1).toNat) [])))).set (0+((gi d 4).int-1).toNat) (bf K (((gi d 0).rows.set (0+((gi d 4).int).toNat) (bf K ((gi d 0).rows.getD (0+((gi d 4).int).toNat) []) 0 (aM K ((gi d 0).rows.getD (0+((gi d 4).int-1).toNat) [])))).getD (0+((gi d 4).int-1).toNat) []) 0 (aM K ((gi d 0).rows.getD (0+((gi d 4).int).toNat) [])))),.i (gi d 1).int,.i (gi d 2).int,.i (gi d 3).int,.i ((gi d 4).int-1)]) else none) else none) else none) else none) else none) else none) else none) else none) else none) else none) else none) else none) else (bif ((ae (gi d 0).rows.length (gi d 0).rows.length)&&true) then some (some 0,[.l (gi d 0).rows,.i (gi d 1).int,.i (gi d 2).int,.i (gi d 3).int]) else none))) else none) else none) else none) else none) else none) else (bif ((ae (gi d 0).rows.length (gi d 0).rows.length)&&true) then some (some 0,[.l (gi d 0).rows,.i (gi d 1).int,.i (gi d 2).int,.i (gi d 3).int]) else none))
def se(K:List Kd)(C:List G→Option (List G))(d:List G):Option (Option Nat × List G) :=
 (bif (ao (gi d 3).int (gi d 2).int) then (a8 ((ae (gi d 0).rows.length (gi d 0).rows.length)&&true) (bV (vm K C) [.l (gi d 0).rows,.i (gi d 1).int,.i (gi d 2).int,.i (gi d 3).int,.i (gi d 3).int]) fun h g2=>(bif (au ((gi g2 3).int+1)) then (bif ((ae (gi g2 0).rows.length (gi g2 0).rows.length)&&true) then some (none,[.l (gi g2 0).rows,.i (gi g2 1).int,.i (gi g2 2).int,.i ((gi g2 3).int+1)]) else none) else none)) else some (some 0,[.l (gi d 0).rows]))
def lU(K:List Kd)(C:List G→Option (List G))(d:List G):Option (List G) :=
 (bif (au ((gi d 1).int+1)) then (a8 ((ae (gi d 0).rows.length (gi d 0).rows.length)&&true) (bV (se K C) [.l (gi d 0).rows,.i (gi d 1).int,.i (gi d 2).int,.i ((gi d 1).int+1)]) fun h g3=>some [.l (gi g3 0).rows]) else none)
def p7(K:List Kd)(C:List G→Option (List G))(d:List G):Option (Option Nat × List G) :=
 (bif (ba (gi d 4).int (gi d 1).int) then (iE (((ae (gi d 0).rows.length (gi d 0).rows.length)&&true)&&((lU K C) [.l (gi d 0).rows,.i (gi d 3).int,.i (gi d 4).int]).isSome) ((lU K C) [.l (gi d 0).rows,.i (gi d 3).int,.i (gi d 4).int]) fun g1=>(bif (au ((gi d 4).int+(gi d 2).int)) then (bif ((ae (gi d 0).rows.length (gi g1 0).rows.length)&&true) then some (none,[.l (gi g1 0).rows,.i (gi d 1).int,.i (gi d 2).int,.i (gi d 4).int,.i ((gi d 4).int+(gi d 2).int)]) else none) else none)) else (bif ((ae (gi d 0).rows.length (gi d 0).rows.length)&&true) then some (some 0,[.l (gi d 0).rows,.i (gi d 1).int,.i (gi d 2).int,.i (gi d 3).int]) else none))
def Xj(K:List Kd)(C:List G→Option (List G))(d:List G):Option (Option Nat × List G) :=
 (bif (ba (gi d 4).int (gi d 1).int) then (bif (au ((gi d 3).int+(gi d 2).int)) then none else none) else (bif ((ae (gi d 0).rows.length (gi d 0).rows.length)&&true) then some (some 0,[.l (gi d 0).rows,.i (gi d 1).int,.i (gi d 2).int,.i (gi d 3).int]) else none))
def DA(K:List Kd)(C:List G→Option (List G))(d:List G):Option (Option Nat × List G) :=
 (bif (ao (gi d 2).int (gi d 1).int) then (bif (au (2*(gi d 2).int)) then (a8 ((ae (gi d 0).rows.length (gi d 0).rows.length)&&true) (bV (Xj K C) [.l (gi d 0).rows,.i (gi d 1).int,.i (gi d 2).int,.i 0,.i (2*(gi d 2).int)]) fun h g4=>(bif (au ((gi g4 3).int+(gi g4 2).int)) then (bif (ao ((gi g4 3).int+(gi g4 2).int) (gi g4 1).int) then none else (bif (au ((gi g4 2).int*2)) then (bif ((ae (gi g4 0).rows.length (gi g4 0).rows.length)&&true) then some (none,[.l (gi g4 0).rows,.i (gi g4 1).int,.i ((gi g4 2).int*2)]) else none) else none)) else none)) else none) else some (some 0,[.l (gi d 0).rows]))
def y_(K:List Kd)(C:List G→Option (List G))(d:List G):Option (List G) :=
 (a8 ((ae (gi d 0).rows.length (gi d 0).rows.length)&&true) (bV (p7 K C) [.l (gi d 0).rows,.i (gi d 1).int,.i 20,.i 0,.i 20]) fun h g2=>(iE (((ae (gi g2 0).rows.length (gi g2 0).rows.length)&&true)&&((lU K C) [.l (gi g2 0).rows,.i (gi g2 3).int,.i (gi g2 1).int]).isSome) ((lU K C) [.l (gi g2 0).rows,.i (gi g2 3).int,.i (gi g2 1).int]) fun g3=>(a8 ((ae (gi g2 0).rows.length (gi g3 0).rows.length)&&true) (bV (DA K C) [.l (gi g3 0).rows,.i (gi g2 1).int,.i (gi g2 2).int]) fun k g5=>some [.l (gi g5 0).rows])))
def LK(K:List Kd)(C:List G→Option (List G))(d:List G):Option (List G) :=
 (iE (((ae (gi d 0).rows.length (gi d 0).rows.length)&&true)&&((y_ K C) [.l (gi d 0).rows,.i (((gi d 0).rows.length:Nat):Int)]).isSome) ((y_ K C) [.l (gi d 0).rows,.i (((gi d 0).rows.length:Nat):Int)]) fun g1=>some [.l (gi g1 0).rows])
theorem lg{α:Type}(l:List α)(x:α)(q:List α)(z:α)(n:Nat)(h:n=l.length):(l++x::q).getD n z=x:=by subst h; simp
theorem LL{α:Type}(l:List α)(x y:α)(q:List α)(n:Nat)(h:n=l.length):(l++x::q).set n y=l++y::q:=by subst h; simp
def gk{α:Type}(lt:α→α→Bool)(x:α):List α→List α
 | []=>[x]
 |y::p=>bif lt x y then y::gk lt x p else x::y::p
def jr{α:Type}(lt:α→α→Bool):List α→List α→List α
 |p,[]=>p
 |p,x::r=>jr lt (gk lt x p) r
def dG{α:Type}(lt:α→α→Bool)(l:List α):List α:=(jr lt [] l).reverse
theorem za{α:Type}(lt:α→α→Bool)(x:α):∀ p,(gk lt x p).length=p.length+1
 | []=>rfl
 | y::p=>by
  simp only[gk];cases lt x y with
  |true=>simp[za lt x p]
  |false=>simp
theorem DB{α:Type}{Q:α→Prop}{lt:α→α→Bool}{x:α}(h:Q x):∀{p:List α},(∀ y∈p,Q y)→∀ y∈gk lt x p,Q y
 | [],_,y,d=>by simp[gk]at d; exact d▸h
 | z::p,k,y,d=>by
  simp only[gk]at d;cases q:lt x z with
  | true =>
   rw[q]at d;rcases bR.1 d with rfl|d
   ·exact k _ cO
   ·exact DB h (fun y d=>k y (c9 _ d)) y d
  | false =>
   rw[q]at d;rcases bR.1 d with rfl|d
   ·exact h
   ·exact k y d
theorem LM{α:Type}(lt:α→α→Bool):∀(p r:List α),(jr lt p r).length=p.length+r.length
 |p,[]=>rfl
 |p,x::r=>by simp only[jr,LM lt,za,cr]; omega
theorem LN{α:Type}{Q:α→Prop}{lt:α→α→Bool}:∀{r p:List α},(∀ y∈p,Q y)→(∀ y∈r,Q y)→∀ y∈jr lt p r,Q y
 | [],_,d,_=>d
 | x::r,p,d,hr=>by
  simp only[jr];exact LN (DB (hr x cO) d) fun y h=>hr y (c9 _ h)
theorem DC{α:Type}(lt:α→α→Bool)(l:List α):(dG lt l).length=l.length:=by simp[dG,LM]
theorem Xk{α:Type}{Q:α→Prop}{lt:α→α→Bool}{l:List α}(h:∀ y∈l,Q y):∀ y∈dG lt l,Q y:=by
 intro y d;exact LN (p:=[]) (by simp) h y (by simpa[dG]using d)
theorem zb:∀(K:List Kd) (r:List G),(aM K r).length=K.length
 | [],_=>rfl
 |k::K,r=>by simp[aM,zb K]
theorem DD{K:List Kd}{r gs:List G}(h:gs.length=K.length):bf K r 0 gs=gs:=by
 simp[bf,h,Ch,R8]
section
variable {K:List Kd} {C:List G→Option (List G)} {Q:List G→Prop} {c:List G→List G→Int}
structure sf (K:List Kd) (C:List G→Option (List G)) (Q:List G→Prop) (c:List G→List G→Int):Prop where
 cmp:∀ r s,Q r→Q s→C [.l [r],.l [s]]=some [.i (c r s)]
 eta:∀ r,Q r→aM K r=r
def bZ(c:List G→List G→Int)(r s:List G):Bool:=ao (c r s) 0
theorem LO(hC:sf K C Q c):∀(p q:List (List G)) (x:List G) (b i:Int) (j:Nat),(∀ y∈p,Q y)→Q x→p.length<1000000→j=p.length →
  ∃ m,m≤p.length+1∧iT (vm K C) m [.l (p.reverse++x::q),.i 0,.i b,.i i,.i (j:Int)] 0 [.l ((gk (bZ c) x p).reverse++q),.i 0,.i b,.i i]
 | [],q,x,b,i,j,_,_,_,d=>by
  simp only[mr]at d;subst d;refine⟨1,by simp,.stop (aa.toEq ?_)⟩;unfold vm
  (dsimp +instances only[Aa,Ab,Ac,Ad,Ae,Af,Ag])
  refine aa.n (aa.p (aa.some ?_));rfl
 | y::p,q,x,b,i,j,B,h,N,d=>by
  have u:=B y cO;have I:(y::p).reverse++x::q=(p.reverse++[y])++x::q:=by simp
  have O:(y::p).reverse++x::q=p.reverse++y::x::q:=by simp
  simp only[cr]at N d;have g1:((y::p).reverse++x::q).getD (0+(j:Int).toNat) []=x:=by rw[I]; exact lg _ _ _ _ _ (by simp[d])
  have g2:((y::p).reverse++x::q).getD (0+((j:Int)-1).toNat) []=y:=by rw[O]; exact lg _ _ _ _ _ (by simp[d])
  have hlen:((y::p).reverse++x::q).length=p.length+q.length+2:=by simp; omega
  have v:=hC.cmp x y h u;cases k:bZ c x y with
  | false =>
   refine⟨1,by simp,.stop (aa.toEq ?_)⟩;unfold vm
   (dsimp +instances only[Aa,Ab,Ac,Ad,Ae,Af,Ag])
   simp only[hlen,g1,g2,hC.eta x h,hC.eta y u];refine aa.p (aa.p (aa.p (aa.p (aa.p (aa.p (aa.call (aa.eq v) ?_))))));rintro _ rfl
   (dsimp +instances only[Aa,Ab,Ac,Ad,Ae,Af,Ag])
   refine aa.neg k (aa.p (aa.some ?_));simp[gk,k]
  | true =>
   obtain⟨m,hm,hr⟩:=LO hC p (y::q) x b i (j-1) (fun z U=>B z (c9 _ U)) h (by omega) (by omega);refine⟨m+1,by simp; omega,.next (aa.toEq ?_) (by
    have e:(gk (bZ c) x (y::p)).reverse++q=(gk (bZ c) x p).reverse++y::q:=by simp[gk,k]
    rw[e]; exact hr)⟩
   have s1:((y::p).reverse++x::q).set (0+(j:Int).toNat) y=p.reverse++y::y::q:=by
    rw[I,LL _ _ _ _ _ (by simp[d])]; simp
   have s2:(p.reverse++y::y::q).set (0+((j:Int)-1).toNat) x=p.reverse++x::y::q:=LL _ _ _ _ _ (by simp[d]);have J:(p.reverse++y::y::q).length=p.length+q.length+2:=by simp; omega
   have M:(p.reverse++x::y::q).length=p.length+q.length+2:=by simp; omega
   have V:y.length=K.length:=by rw[←hC.eta y u,zb]
   have W:x.length=K.length:=by rw[←hC.eta x h,zb]
   unfold vm
   (dsimp +instances only[Aa,Ab,Ac,Ad,Ae,Af,Ag])
   simp only[hlen,g1,g2,hC.eta x h,hC.eta y u,DD V,DD W,s1,s2,J,M];refine aa.p (aa.p (aa.p (aa.p (aa.p (aa.p (aa.call (aa.eq v) ?_))))));rintro _ rfl
   (dsimp +instances only[Aa,Ab,Ac,Ad,Ae,Af,Ag])
   refine aa.pos k ?_;refine aa.p (aa.p (aa.p (aa.p (aa.p (aa.p (aa.p (aa.p (aa.p (aa.p (aa.p (aa.p (aa.some ?_))))))))))));congr;omega
theorem LP(hC:sf K C Q c):∀(r p:List (List G)) (i n:Nat),(∀ y∈p,Q y)→(∀ y∈r,Q y)→i=p.length→n=p.length+r.length→n<100000 →
  ∃ m,m≤r.length+1∧iT (se K C) m [.l (p.reverse++r),.i 0,.i (n:Int),.i (i:Int)] 0 [.l (jr (bZ c) p r).reverse]
 | [],p,i,n,_,_,hi,d,h=>by
  refine⟨1,by simp,.stop (aa.toEq ?_)⟩;simp only[mr]at d;unfold se
  (dsimp +instances only[Aa,Ab,Ac,Ad,Ae,Af,Ag])
  refine aa.n (aa.some ?_);simp[jr]
 | x::r,p,i,n,k,hr,hi,d,h=>by
  simp only[cr]at d;obtain⟨m1,v,h1⟩:=LO hC p r x (n:Int) (i:Int) i k (hr x cO) (by omega) hi;obtain⟨m,hm,q⟩:=LP hC r (gk (bZ c) x p) (i+1) n (DB (hr x cO) k) (fun y u=>hr y (c9 _ u)) (by rw[za,hi]) (by rw[za]; omega) h;refine⟨m+1,by simp; omega,.next (aa.toEq ?_) q⟩;unfold se
  (dsimp +instances only[Aa,Ab,Ac,Ad,Ae,Af,Ag])
  refine aa.p (aa.loop (P:=fun x g=>g=_) ⟨m1,0,_,h1,by omega,rfl⟩ (by(first|rfl|assumption|(simp only[au,sl]<;>omega))) ?_);rintro _ _ rfl
  (dsimp +instances only[Aa,Ab,Ac,Ad,Ae,Af,Ag])
  refine aa.p (aa.p (aa.some ?_));rfl
theorem Xl(hC:sf K C Q c)(rows:List (List G))(hr:∀ y∈rows,Q y)(d:rows.length<100000):lU K C [.l rows,.i 0,.i (rows.length:Int)]=some [.l (dG (bZ c) rows)]:=by
 refine aa.toEq ?_;unfold lU
 (dsimp +instances only[Aa,Ab,Ac,Ad,Ae,Af,Ag])
 refine aa.p ?_;cases rows with
 | nil =>
  refine aa.loop (P:=fun x g=>g=[.l []]) ⟨1,0,_,.stop (aa.toEq (?_:aa _ (fun g=>g=(some 0,[G.l []])))),by omega,rfl⟩ (by(first|rfl|assumption|(simp only[au,sl]<;>omega))) ?_
  ·unfold se
   (dsimp +instances only[Aa,Ab,Ac,Ad,Ae,Af,Ag])
   exact aa.n (aa.some rfl)
  ·rintro _ _ rfl
   exact aa.some rfl
 | cons x r =>
  simp only[cr]at d;obtain⟨m,hm,h⟩:=LP hC r [x] 1 (r.length+1) (by simpa using hr x cO) (fun y k=>hr y (c9 _ k)) rfl (by simp; omega) (by omega);refine aa.loop (P:=fun y g=>g=_) ⟨m,0,_,h,by omega,rfl⟩ (by(first|rfl|assumption|(simp only[au,sl]<;>omega))) ?_;rintro _ _ rfl;exact aa.some rfl
theorem Xm(rows:List (List G))(a b:Nat)(h:b≤a)(d:a<100000):lU K C [.l rows,.i (a:Int),.i (b:Int)]=some [.l rows]:=by
 refine aa.toEq ?_;unfold lU
 (dsimp +instances only[Aa,Ab,Ac,Ad,Ae,Af,Ag])
 refine aa.p ?_;refine aa.loop (P:=fun x g=>g=[.l rows]) ⟨1,0,_,.stop (aa.toEq (?_:aa _ (fun g=>g=(some 0,[G.l rows])))),by omega,rfl⟩ (by(first|rfl|assumption|(simp only[au,sl]<;>omega))) ?_
 ·unfold se
  (dsimp +instances only[Aa,Ab,Ac,Ad,Ae,Af,Ag])
  exact aa.n (aa.some rfl)
 ·rintro _ _ rfl
  exact aa.some rfl
theorem Xn(hC:sf K C Q c)(rows:List (List G))(hr:∀ y∈rows,Q y)(v:rows.length≤20):y_ K C [.l rows,.i (rows.length:Int)]=some [.l (dG (bZ c) rows)]:=by
 refine aa.toEq ?_;unfold y_
 (dsimp +instances only[Aa,Ab,Ac,Ad,Ae,Af,Ag])
 have d:=Xl hC rows hr (by omega);have hlen:=DC (bZ c) rows;have k:∀ rows':List (List G),rows'.length=rows.length→jS (DA K C) [.l rows',.i (rows.length:Int),.i 20] fun _ g=>g=[.l rows']:=by
  intro rows' B;refine jS.stop (x:=0) (aa.toEq ?_) rfl;unfold DA
  (dsimp +instances only[Aa,Ab,Ac,Ad,Ae,Af,Ag])
  exact aa.n (aa.some rfl)
 by_cases h:rows.length=20
 ·have h1:p7 K C [.l rows,.i (rows.length:Int),.i 20,.i 0,.i 20]=some (none,[.l (dG (bZ c) rows),.i (rows.length:Int),.i 20,.i 20,.i 40]):=by
   refine aa.toEq ?_;unfold p7
   (dsimp +instances only[Aa,Ab,Ac,Ad,Ae,Af,Ag])
   have d:lU K C [.l rows,.i 0,.i 20]=some [.l (dG (bZ c) rows)]:=by rw[h]at d; exact d
   refine aa.p (aa.mU (aa.eq d) (by(first|rfl|assumption|(simp only[au,sl]<;>omega))) ?_);rintro _ rfl
   (dsimp +instances only[Aa,Ab,Ac,Ad,Ae,Af,Ag])
   exact aa.p (aa.p (aa.some rfl))
  have q:p7 K C [.l (dG (bZ c) rows),.i (rows.length:Int),.i 20,.i 20,.i 40]=some (some 0,[.l (dG (bZ c) rows),.i (rows.length:Int),.i 20,.i 20]):=by
   refine aa.toEq ?_;unfold p7
   (dsimp +instances only[Aa,Ab,Ac,Ad,Ae,Af,Ag])
   exact aa.n (aa.p (aa.some rfl))
  refine aa.loop (P:=fun x g=>g=_) ⟨2,0,_,.next h1 (.stop q),by omega,rfl⟩ (by(first|rfl|assumption|(simp only[au,sl]<;>omega))) ?_;rintro _ _ rfl
  (dsimp +instances only[Aa,Ab,Ac,Ad,Ae,Af,Ag])
  have u:lU K C [.l (dG (bZ c) rows),.i 20,.i (rows.length:Int)]=some [.l (dG (bZ c) rows)]:=by
   rw[h]; exact Xm _ 20 20 (by omega) (by omega)
  refine aa.mU (aa.eq u) (by(first|rfl|assumption|(simp only[au,sl]<;>omega))) ?_;rintro _ rfl
  (dsimp +instances only[Aa,Ab,Ac,Ad,Ae,Af,Ag])
  refine aa.loop (k _ hlen) (by(first|rfl|assumption|(simp only[au,sl]<;>omega))) ?_;rintro _ _ rfl;exact aa.some rfl
 ·have h1:p7 K C [.l rows,.i (rows.length:Int),.i 20,.i 0,.i 20]=some (some 0,[.l rows,.i (rows.length:Int),.i 20,.i 0]):=by
   refine aa.toEq ?_;unfold p7
   (dsimp +instances only[Aa,Ab,Ac,Ad,Ae,Af,Ag])
   exact aa.n (aa.p (aa.some rfl))
  refine aa.loop (P:=fun x g=>g=_) ⟨1,0,_,.stop h1,by omega,rfl⟩ (by(first|rfl|assumption|(simp only[au,sl]<;>omega))) ?_;rintro _ _ rfl
  (dsimp +instances only[Aa,Ab,Ac,Ad,Ae,Af,Ag])
  refine aa.mU (aa.eq d) (by(first|rfl|assumption|(simp only[au,sl]<;>omega))) ?_;rintro _ rfl
  (dsimp +instances only[Aa,Ab,Ac,Ad,Ae,Af,Ag])
  refine aa.loop (k _ hlen) (by(first|rfl|assumption|(simp only[au,sl]<;>omega))) ?_;rintro _ _ rfl;exact aa.some rfl
theorem Xo(hC:sf K C Q c)(rows:List (List G))(hr:∀ y∈rows,Q y)(d:rows.length≤20):LK K C [.l rows]=some [.l (dG (bZ c) rows)]:=by
 refine aa.toEq ?_;unfold LK
 (dsimp +instances only[Aa,Ab,Ac,Ad,Ae,Af,Ag])
 refine aa.mU (aa.eq (Xn hC rows hr d)) (by(first|rfl|assumption|(simp only[au,sl]<;>omega))) ?_;rintro _ rfl;exact aa.some rfl
end
end Go.AL

namespace Go.AL
open Go
variable [Dr]
def sg(K:List Kd)(C:List G→Option (List G))(Z:List G)(d:List G):Option (Option Nat × List G) :=
 (bif (ao (gi d 4).int (((gi d 3).int.toNat:Nat):Int)) then (bif ((aB (gi d 4).int)&&(ao (gi d 4).int (((gi d 3).int.toNat:Nat):Int))) then (bif (decide (((gi d 2).int.toNat+((gi d 4).int).toNat)<(gi d 0).rows.length)) then (bif (au ((gi d 4).int-1)) then (bif ((aB ((gi d 4).int-1))&&(ao ((gi d 4).int-1) (((gi d 3).int.toNat:Nat):Int))) then (bif (decide (((gi d 2).int.toNat+((gi d 4).int-1).toNat)<(gi d 0).rows.length)) then (ay (C [.l [(aM K ((gi d 0).rows.getD ((gi d 2).int.toNat+((gi d 4).int).toNat) []))],.l [(aM K ((gi d 0).rows.getD ((gi d 2).int.toNat+((gi d 4).int-1).toNat) []))]]) fun g2=>(bif (!(gi g2 0).bool) then (bif ((aB (gi d 4).int)&&(ao (gi d 4).int (((gi d 3).int.toNat:Nat):Int))) then (bif (decide (((gi d 2).int.toNat+((gi d 4).int).toNat)<(gi d 0).rows.length)) then (bif ((aB (gi d 1).int)&&(ao (gi d 1).int (((gi d 0).rows.length:Nat):Int))) then (bif (decide ((0+((gi d 1).int).toNat)<(gi d 0).rows.length)) then (bif (au ((gi d 1).int+1)) then (bif (au ((gi d 4).int+1)) then (bif ((ae (gi d 0).rows.length ((gi d 0).rows.set (0+((gi d 1).int).toNat) (bf K ((gi d 0).rows.getD (0+((gi d 1).int).toNat) []) 0 (aM K ((gi d 0).rows.getD ((gi d 2).int.toNat+((gi d 4).int).toNat) [])))).length)&&true) then some (none,[.l ((gi d 0).rows.set (0+((gi d 1).int).toNat) (bf K ((gi d 0).rows.getD (0+((gi d 1).int).toNat) []) 0 (aM K ((gi d 0).rows.getD ((gi d 2).int.toNat+((gi d 4).int).toNat) [])))),.i ((gi d 1).int+1),.i (((gi d 2).int.toNat:Nat):Int),.i (((gi d 3).int.toNat:Nat):Int),.i ((gi d 4).int+1)]) else none) else none) else none) else none) else none) else none) else none) else (bif (au ((gi d 4).int+1)) then (bif ((ae (gi d 0).rows.length (gi d 0).rows.length)&&true) then some (none,[.l (gi d 0).rows,.i (gi d 1).int,.i (((gi d 2).int.toNat:Nat):Int),.i (((gi d 3).int.toNat:Nat):Int),.i ((gi d 4).int+1)]) else none) else none))) else none) else none) else none) else none) else none) else (bif ((ae (gi d 0).rows.length (gi d 0).rows.length)&&true) then some (some 0,[.l (gi d 0).rows,.i (gi d 1).int]) else none))
def p8(K:List Kd)(C:List G→Option (List G))(Z:List G)(d:List G):Option (Option Nat × List G) :=
 (bif (ao (gi d 1).int (((gi d 0).rows.length:Nat):Int)) then (bif ((aB (gi d 1).int)&&(ao (gi d 1).int (((gi d 0).rows.length:Nat):Int))) then (bif (decide ((0+((gi d 1).int).toNat)<(gi d 0).rows.length)) then (bif (au ((gi d 1).int-1)) then (bif ((aB ((gi d 1).int-1))&&(ao ((gi d 1).int-1) (((gi d 0).rows.length:Nat):Int))) then (bif (decide ((0+((gi d 1).int-1).toNat)<(gi d 0).rows.length)) then (ay (C [.l [(aM K ((gi d 0).rows.getD (0+((gi d 1).int).toNat) []))],.l [(aM K ((gi d 0).rows.getD (0+((gi d 1).int-1).toNat) []))]]) fun g1=>(bif (gi g1 0).bool then (bif ((aB (gi d 1).int)&&(ba (gi d 1).int (((gi d 0).rows.length:Nat):Int))) then (a8 ((ae (gi d 0).rows.length (gi d 0).rows.length)&&true) (bV (sg K C Z) [.l (gi d 0).rows,.i (gi d 1).int,.i (((0+((gi d 1).int).toNat):Nat):Int),.i ((((gi d 0).rows.length-((gi d 1).int).toNat):Nat):Int),.i 1]) fun h g3=>(bif ((aB (gi g3 1).int)&&(ba (gi g3 1).int (((gi g3 0).rows.length:Nat):Int))) then (bif (Nat.ble ((0+((gi g3 1).int).toNat)+((gi g3 0).rows.length-((gi g3 1).int).toNat)) (gi g3 0).rows.length) then (bif ((aB (gi g3 1).int)&&(ba (gi g3 1).int (((gi g3 0).rows.length:Nat):Int))) then some (some 0,[.l ((gi g3 0).rows.take (0+((gi g3 1).int).toNat)++bO ((gi g3 0).rows.length-((gi g3 1).int).toNat) Z++(gi g3 0).rows.drop ((0+((gi g3 1).int).toNat)+((gi g3 0).rows.length-((gi g3 1).int).toNat))),.i (((((gi g3 1).int).toNat-0):Nat):Int)]) else none) else none) else none)) else none) else (bif (au ((gi d 1).int+1)) then (bif ((ae (gi d 0).rows.length (gi d 0).rows.length)&&true) then some (none,[.l (gi d 0).rows,.i ((gi d 1).int+1)]) else none) else none))) else none) else none) else none) else none) else none) else (bif ((ae (gi d 0).rows.length (gi d 0).rows.length)&&true) then some (some 1,[.l (gi d 0).rows]) else none))
def LQ(K:List Kd)(C:List G→Option (List G))(Z:List G)(d:List G):Option (List G) :=
 (bif (ao (((gi d 0).rows.length:Nat):Int) 2) then some [.l (gi d 0).rows,.i (((gi d 0).rows.length:Nat):Int)] else (a8 ((ae (gi d 0).rows.length (gi d 0).rows.length)&&true) (bV (p8 K C Z) [.l (gi d 0).rows,.i 1]) fun h g4=>(bif ae h 0 then some [.l (gi g4 0).rows,.i (((gi g4 1).int.toNat:Nat):Int)] else some [.l (gi g4 0).rows,.i (((gi g4 0).rows.length:Nat):Int)])))
def dp{α:Type}(e:α→α→Bool):α→List α→List α
 |_,[]=>[]
 |y,x::q=>bif e x y then dp e x q else x::dp e x q
def iV{α:Type}(e:α→α→Bool):List α→List α
 | []=>[]
 |x::q=>x::dp e x q
theorem LR{α:Type}(e:α→α→Bool):∀(q:List α) (y:α),(dp e y q).length≤q.length
 | [],_=>aD _
 | x::q,y=>by
  have:=LR e q x;simp only[dp];cases e x y with
  |true=>simp; omega
  |false=>simp; omega
theorem DE{α:Type}{e:α→α→Bool}:∀{q:List α} {y z:α},z∈dp e y q→z∈q
 | x::q,y,z,h=>by
  simp only[dp]at h;cases he:e x y with
  |true=>rw[he]at h; exact c9 _ (DE h)
  | false =>
   rw[he]at h;rcases bR.1 h with rfl|h
   ·exact cO
   ·exact c9 _ (DE h)
theorem Xp{α:Type}{e:α→α→Bool}:∀{l:List α} {z:α},z∈iV e l→z∈l
 | x::q,z,h=>by
  rcases bR.1 h with rfl|h
  ·exact cO
  ·exact c9 _ (DE h)
theorem Xq{α:Type}(e:α→α→Bool):∀ l:List α,(iV e l).length≤l.length
 | []=>aD _
 |x::q=>by have:=LR e q x; simp[iV]; omega
section
variable {K:List Kd} {Z:List G} {Q:List G→Prop}
structure Kds (K:List Kd) (Q:List G→Prop):Prop where
 eta:∀ r,Q r→aM K r=r
structure zd (K:List Kd) (C:List G→Option (List G)) (Q:List G→Prop) (e:List G→List G→Bool):Prop where
 cmp:∀ r s,Q r→Q s→C [.l [r],.l [s]]=some [.t (e r s)]
 eta:∀ r,Q r→aM K r=r
variable {C:List G→Option (List G)} {ee:List G→List G→Bool}
theorem DF(hC:zd K C Q ee):∀(q kept M:List (List G)) (y:List G) (lo len k:Nat),(∀ z∈kept++M++y::q,Q z)→lo+k=kept.length+M.length+1→k+q.length=len→kept.length+M.length+q.length<100000→1≤k →
  ∃ m J,m≤q.length+1∧(kept++dp ee y q++J).length=kept.length+M.length+1+q.length∧iT (sg K C Z) m [.l (kept++M++y::q),.i (kept.length:Int),.i (lo:Int),.i (len:Int),.i (k:Int)] 0 [.l (kept++dp ee y q++J),.i ((kept++dp ee y q).length:Int)]
 | [],kept,M,y,lo,len,k,u,h1,U,V,h4=>by
  refine⟨1,M++[y],by simp,by simp[dp]; omega,.stop (aa.toEq ?_)⟩;simp only[mr]at U V;unfold sg
  (dsimp +instances only[Aa,Ab,Ac,Ad,Ae,Af,Ag])
  (repeat first|refine aa.p ?_|refine aa.n ?_)
  refine aa.some ?_;simp[dp]
 | x::q,kept,M,y,lo,len,k,u,h1,U,V,h4=>by
  simp only[cr]at U V;have v:Q x:=u x (by simp);have I:Q y:=u y (by simp);have g1:(kept++M++y::x::q).getD ((lo:Int).toNat+(k:Int).toNat) []=x:=by
   have e:kept++M++y::x::q=(kept++M++[y])++x::q:=by simp
   rw[e]; exact lg _ _ _ _ _ (by simp<;>omega)
  have g2:(kept++M++y::x::q).getD ((lo:Int).toNat+((k:Int)-1).toNat) []=y:=lg _ _ _ _ _ (by simp; omega);have hlen:(kept++M++y::x::q).length=kept.length+M.length+q.length+2:=by simp; omega
  cases he:ee x y with
  | true =>
   obtain⟨m,J,hm,W,hr⟩:=DF hC q kept (M++[y]) x lo len (k+1) (by simpa using u) (by simp; omega) (by omega) (by simp; omega) (by omega);have e:dp ee y (x::q)=dp ee x q:=by simp[dp,he]
   refine⟨m+1,J,by simp; omega,by rw[e,W]; simp; omega,.next (aa.toEq ?_) (by rw[e]; exact hr)⟩;unfold sg
   (dsimp +instances only[Aa,Ab,Ac,Ad,Ae,Af,Ag])
   simp only[hlen,g1,g2,hC.eta x v,hC.eta y I]
   (repeat first|refine aa.p ?_|refine aa.n ?_)
   refine aa.cE (hC.cmp x y v I) ?_
   (dsimp +instances only[Aa,Ab,Ac,Ad,Ae,Af,Ag])
   try simp only[he]
   (repeat first|refine aa.p ?_|refine aa.n ?_)
   refine aa.some ?_;simp
  | false =>
   obtain⟨O,B,e1,e2⟩:∃ O B,(kept++M++y::x::q).set kept.length x=O++B++x::q∧(O=kept++[x]∧B.length=M.length∧∀ z∈B,z∈M++[y]):=by
    cases M with
    |nil=>exact⟨kept++[x],[],by simp,rfl,rfl,by simp⟩
    |cons z M=>exact⟨kept++[x],M++[y],by simp,rfl,by simp,by simp; intro z d; rcases d with d|d<;>simp[d]⟩
   obtain⟨e2,N,e4⟩:=e2;subst e2;obtain⟨m,J,hm,W,hr⟩:=DF hC q (kept++[x]) B x lo len (k+1) (by
    intro z d;simp only[cZ,bR]at d;rcases d with((d|d)|d)|d|d
    ·exact u z (by simp[d])
    ·simp at d; exact d▸v
    ·have := e4 z d
     simp only[cZ,bR]at this;rcases this with h|h|h
     ·exact u z (by simp[h])
     ·exact h▸I
     ·simp at h
    ·exact d▸v
    ·exact u z (by simp[d])) (by simp[N]; omega) (by omega) (by simp[N]; omega) (by omega)
   have e:kept++dp ee y (x::q)=(kept++[x])++dp ee x q:=by simp[dp,he]
   refine⟨m+1,J,by simp; omega,by rw[e,W]; simp[N]; omega,.next (aa.toEq ?_) (by rw[e]; exact hr)⟩;have kx:x.length=K.length:=by rw[←hC.eta x v,zb]
   have hl2:((kept++[x])++B++x::q).length=kept.length+M.length+q.length+2:=by simp[N]; omega
   have e1:(kept++M++y::x::q).set (0+(kept.length:Int).toNat) x=(kept++[x])++B++x::q:=by simpa using e1
   unfold sg
   (dsimp +instances only[Aa,Ab,Ac,Ad,Ae,Af,Ag])
   simp only[hlen,g1,g2,hC.eta x v,hC.eta y I,DD kx,e1,hl2]
   (repeat first|refine aa.p ?_|refine aa.n ?_)
   refine aa.cE (hC.cmp x y v I) ?_
   (dsimp +instances only[Aa,Ab,Ac,Ad,Ae,Af,Ag])
   try simp only[he]
   (repeat first|refine aa.p ?_|refine aa.n ?_)
   refine aa.some ?_;simp
theorem LS(hC:zd K C Q ee):∀(q p:List (List G)) (y:List G),(∀ z∈p++y::q,Q z)→p.length+q.length<99999 →
  (∃ m,m≤q.length+1∧dp ee y q=q∧iT (p8 K C Z) m [.l (p++y::q),.i ((p.length:Int)+1)] 1 [.l (p++y::q)]) ∨
  ∃ m J,m≤q.length+1∧(p++y::dp ee y q++J).length=p.length+1+q.length∧iT (p8 K C Z) m [.l (p++y::q),.i ((p.length:Int)+1)] 0 [.l (p++y::dp ee y q++J),.i ((p++y::dp ee y q).length:Int)]
 | [],p,y,d,v=>by
  refine .inl ⟨1,by simp,rfl,.stop (aa.toEq ?_)⟩;simp only[mr]at v;unfold p8
  (dsimp +instances only[Aa,Ab,Ac,Ad,Ae,Af,Ag])
  (repeat first|refine aa.p ?_|refine aa.n ?_)
  exact aa.some rfl
 | x::q,p,y,d,v=>by
  simp only[cr]at v;have h:Q x:=d x (by simp);have k:Q y:=d y (by simp);have g1:(p++y::x::q).getD (0+((p.length:Int)+1).toNat) []=x:=by
   have e:p++y::x::q=(p++[y])++x::q:=by simp
   rw[e]; exact lg _ _ _ _ _ (by simp<;>omega)
  have g2:(p++y::x::q).getD (0+((p.length:Int)+1-1).toNat) []=y:=lg _ _ _ _ _ (by simp<;>omega);have hlen:(p++y::x::q).length=p.length+q.length+2:=by simp; omega
  cases he:ee x y with
  | true =>
   obtain⟨m,J,hm,B,hr⟩:=DF hC q (p++[y]) [] x (p.length+1) (q.length+1) 1 (by simpa using d) (by simp) (by omega) (by simp; omega) (by omega);have e:p++y::dp ee y (x::q)=(p++[y])++dp ee x q:=by simp[dp,he]
   have u:(((p++[y])++dp ee x q)++J).length=p.length+q.length+2:=by rw[B]; simp; omega
   have hle:((p++[y])++dp ee x q).length≤p.length+q.length+2:=by rw[←u]; simp
   have I:iT (sg K C Z) m [.l (p++y::x::q),.i ((p.length:Int)+1),.i ((0+((p.length:Int)+1).toNat:Nat):Int),.i ((p.length+q.length+2-((p.length:Int)+1).toNat:Nat):Int),.i 1] 0 [.l ((p++[y])++dp ee x q++J),.i (((p++[y])++dp ee x q).length:Int)]:=by
    have M:(((p++[y]).length:Nat):Int)=(p.length:Int)+1:=by simp
    have a2:((p.length+1:Nat):Int)=((0+((p.length:Int)+1).toNat:Nat):Int):=by omega
    have a3:((q.length+1:Nat):Int)=((p.length+q.length+2-((p.length:Int)+1).toNat:Nat):Int):=by omega
    rw[M,a2,a3]at hr;simpa using hr
   refine .inr ⟨1,bO (p.length+q.length+2-((p++[y])++dp ee x q).length) Z,by simp,by rw[e,dY,wL]; simp at hle⊢; omega,.stop (aa.toEq ?_)⟩;rw[e];generalize hw:(p++[y])++dp ee x q=w at *;unfold p8
   (dsimp +instances only[Aa,Ab,Ac,Ad,Ae,Af,Ag])
   simp only[hlen,g1,g2,hC.eta x h,hC.eta y k]
   (repeat first|refine aa.p ?_|refine aa.n ?_)
   refine aa.cE (hC.cmp x y h k) ?_
   (dsimp +instances only[Aa,Ab,Ac,Ad,Ae,Af,Ag])
   try simp only[he]
   (repeat first|refine aa.p ?_|refine aa.n ?_)
   refine aa.loop (P:=fun x g=>g=_) ⟨m,0,_,I,by omega,rfl⟩ (by(first|rfl|assumption|(simp only[au,sl]<;>omega))) ?_;rintro _ _ rfl
   (dsimp +instances only[Aa,Ab,Ac,Ad,Ae,Af,Ag])
   simp only[u]
   (repeat first|refine aa.p ?_|refine aa.n ?_)
   refine aa.some ?_;have t1:List.take (0+(w.length:Int).toNat) (w++J)=w:=by simp
   have t2:List.drop (0+(w.length:Int).toNat+(p.length+q.length+2-(w.length:Int).toNat)) (w++J)=[]:=by
    apply R8; rw[u]; omega
   rw[t1,t2];simp
  | false =>
   have e:dp ee y (x::q)=x::dp ee x q:=by simp[dp,he]
   have key:p8 K C Z [.l (p++y::x::q),.i ((p.length:Int)+1)]=some (none,[.l ((p++[y])++x::q),.i ((((p++[y]).length:Nat):Int)+1)]):=by
    refine aa.toEq ?_;unfold p8
    (dsimp +instances only[Aa,Ab,Ac,Ad,Ae,Af,Ag])
    simp only[hlen,g1,g2,hC.eta x h,hC.eta y k]
    (repeat first|refine aa.p ?_|refine aa.n ?_)
    refine aa.cE (hC.cmp x y h k) ?_
    (dsimp +instances only[Aa,Ab,Ac,Ad,Ae,Af,Ag])
    try simp only[he]
    (repeat first|refine aa.p ?_|refine aa.n ?_)
    refine aa.some ?_;simp
   rcases LS hC q (p++[y]) x (by simpa using d) (by simp; omega)with⟨m,hm,N,hr⟩|⟨m,J,hm,B,hr⟩
   ·refine .inl ⟨m + 1, by simp; omega, by rw [e, N], .next key ?_⟩
    have:p++y::x::q=(p++[y])++x::q:=by simp
    rw[this]; exact hr
   ·have e' : p ++ y :: dp ee y (x :: q) = (p ++ [y]) ++ x :: dp ee x q := by rw [e]; simp
    refine .inr ⟨m+1,J,by simp; omega,by rw[e',B]; simp; omega,.next key ?_⟩;rw[e']; exact hr
theorem Xr(hC:zd K C Q ee)(rows:List (List G))(hr:∀ y∈rows,Q y)(d:rows.length<99999):aa (LQ K C Z [.l rows]) fun g=>∃ J,g=[.l (iV ee rows++J),.i ((iV ee rows).length:Int)]∧(iV ee rows++J).length=rows.length:=by
 unfold LQ
 (dsimp +instances only[Aa,Ab,Ac,Ad,Ae,Af,Ag])
 match rows,hr,d with
 | [],_,_=>exact aa.p (aa.some ⟨[],rfl,rfl⟩)
 | [x],_,_=>exact aa.p (aa.some ⟨[],rfl,rfl⟩)
 | y::x::q,hr,d =>
  simp only[cr]at d;refine aa.n ?_;rcases LS hC (x::q) [] y (by simpa using hr) (by simp; omega)with⟨m,hm,h,hr⟩|⟨m,J,hm,k,hr⟩
  ·refine aa.loop (P := fun x g => x = 1 ∧ g = _) ⟨m, 1, _, hr, by simp at hm; omega, rfl, rfl⟩ (by (first|rfl|assumption|(simp only [au,sl]<;>omega))) ?_
   rintro _ _ ⟨rfl,rfl⟩;refine aa.n (aa.some ⟨[],?_,?_⟩)
   ·(dsimp +instances only [Aa,Ab,Ac,Ad,Ae,Af,Ag])
    simp[iV,h]
   ·simp[iV,h]
  ·refine aa.loop (P := fun x g => x = 0 ∧ g = _) ⟨m, 0, _, hr, by simp at hm; omega, rfl, rfl⟩ (by (first|rfl|assumption|(simp only [au,sl]<;>omega))) ?_
   rintro _ _ ⟨rfl,rfl⟩;refine aa.p (aa.some ⟨J,?_,?_⟩)
   ·(dsimp +instances only [Aa,Ab,Ac,Ad,Ae,Af,Ag])
    simp[iV]
   ·simpa[iV,Nat.add_comm]using k
end
end Go.AL

namespace Go.AL
open Go
variable [Dr]
section
variable {K:List Kd} {Q:List G→Prop}
end
end Go.AL

namespace Go.AL
open Go
variable [Dr]
section
variable {K:List Kd} {Z:List G} {Q:List G→Prop} {C:List G→Option (List G)} {cp:G→G} {cap:G} {p:List G→Bool}
structure Prd (K:List Kd) (C:List G→Option (List G)) (cp:G→G) (cap:G) (Q:List G→Prop) (p:List G→Bool):Prop where
 cmp:∀ r,Q r→C [.l [r],cap]=some [.t (p r)]
 eta:∀ r,Q r→aM K r=r
 fix:cp cap=cap
end
section
variable {K:List Kd} {Z:List G}
end
end Go.AL

namespace Go.AL
open Go
variable [Dr]
section sort
variable {α:Type} {lt:α→α→Bool}
theorem ze(x:α):∀ p:List α,(gk lt x p).Perm (x::p)
 | []=>nu _
 | y::p=>by
  simp only[gk];cases lt x y with
  |true=>exact(List.Perm.cons y (ze x p)).trans (List.Perm.swap x y p)
  |false=>exact nu _
theorem LU:∀(r p:List α),(jr lt p r).Perm (p++r)
 | [],p=>by simp[jr]
 | x::r,p=>by
  simp only[jr];refine(LU r (gk lt x p)).trans ?_;refine(List.Perm.append_right r (ze x p)).trans ?_;simpa using(List.perm_middle (a:=x) (l₁:=p) (l₂:=r)).symm
theorem sk(l:List α):(dG lt l).Perm l:=by
 unfold dG;exact(List.reverse_perm _).trans (by simpa using LU (lt:=lt) l [])
structure fg (lt:α→α→Bool) (Q:α→Prop):Prop where
 tr:∀ a b c,Q a→Q b→Q c→lt a b=false→lt b c=false→lt a c=false
 zf:∀ a b,Q a→Q b→lt a b=true→lt b a=false
variable {Q:α→Prop}
theorem LV(k:fg lt Q){x:α}(q:Q x):∀{p:List α},(∀ y∈p,Q y)→p.Pairwise (fun a b=>lt a b=false)→(gk lt x p).Pairwise (fun a b=>lt a b=false)
 | [],_,_=>by simp[gk]
 | y::p,v,B=>by
  obtain⟨h1,J⟩:=qB.1 B;have I:=v y cO;have u:∀ z∈p,Q z:=fun z d=>v z (c9 _ d);simp only[gk];cases h:lt x y with
  | true =>
   refine qB.2 ⟨fun z d=>?_,LV k q u J⟩;rcases bR.1 ((ze x p).mem_iff.1 d)with rfl|d
   ·exact k.zf _ _ q I h
   ·exact h1 z d
  | false =>
   refine qB.2 ⟨fun z d=>?_,B⟩;rcases bR.1 d with rfl|d
   ·exact h
   ·exact k.tr x y z q I (u z d) h (h1 z d)
theorem LW(k:fg lt Q):∀{r p:List α},(∀ y∈p,Q y)→(∀ y∈r,Q y)→p.Pairwise (fun a b=>lt a b=false)→(jr lt p r).Pairwise (fun a b=>lt a b=false)
 | [],_,_,_,h=>by simpa[jr]using h
 | x::r,p,q,hr,h=>by
  simp only[jr];refine LW k (fun y d=>?_) (fun y d=>hr y (c9 _ d)) (LV k (hr x cO) q h);rcases bR.1 ((ze x p).mem_iff.1 d)with rfl|d
  ·exact hr _ cO
  ·exact q y d
theorem zg(d:fg lt Q){l:List α}(h:∀ y∈l,Q y):(dG lt l).Pairwise (fun a b=>lt b a=false):=by
 unfold dG;rw[List.pairwise_reverse];exact LW d (by simp) h List.Pairwise.nil
theorem DG:∀{l r:List α},l.Perm r→(∀ a∈l,∀ b∈l,lt a b=false→lt b a=false→a=b)→l.Pairwise (fun a b=>lt b a=false)→r.Pairwise (fun a b=>lt b a=false)→l=r
 | [],r,d,_,_,_=>d.nil_eq
 |a::l,[],d,_,_,_=>by simpa using d.length_eq
 | a::l,b::r,d,ha,h1,u=>by
  obtain⟨v,B⟩:=qB.1 h1;obtain⟨I,J⟩:=qB.1 u;have e:a=b:=by
   have hb:b∈a::l:=d.symm.subset cO;have k:a∈b::r:=d.subset cO;rcases bR.1 hb with e|q
   ·exact e.symm
   ·rcases bR.1 k with e | h
    ·exact e
    ·exact ha a cO b hb (I a h) (v b q)
  subst e;rw[DG ((List.perm_cons a).1 d) (fun x M y N=>ha x (c9 _ M) y (c9 _ N)) B J]
theorem Xs(d:fg lt Q){l r:List α}(k:l.Perm r)(q:∀ y∈l,Q y)(ha:∀ a∈l,∀ b∈l,lt a b=false→lt b a=false→a=b):dG lt l=dG lt r :=
 DG ((sk l).trans (k.trans (sk r).symm)) (fun a h b h'=>ha a ((sk l).mem_iff.1 h) b ((sk l).mem_iff.1 h')) (zg d q)
  (zg d fun y u=>q y (k.mem_iff.2 u))
end sort
theorem LX{sp:fh}{tl:List G→Option (Option Nat × List G)}{rows:List (List G)}{clock:Nat}{d:List G}{r:Option Nat × List G}(bY:ku rows clock=true)
  (h:∀ b p,p.Perm rows→sp.side d b=true∧∃ d',cG sp.st sp.aY p (sp.init d b)=some d'∧tl d'=some r):iU sp tl rows clock d=some r:=by
 unfold iU;rw[bY];refine Ld fun b p k=>?_;obtain⟨h1,d',q,u⟩:=h b p k;rw[h1,cond_true,q];exact u
end Go.AL

namespace Go.AL
open Go
variable [Dr]
section
variable {α:Type} (f:α→Int)
end
section
variable {α:Type} {e:α→α→Bool}
end
end Go.AL

namespace Go.AL
open Go
variable [Dr]
section
variable {K:List Kd} {C:List G→Option (List G)} {Q:List G→Prop} {c:List G→List G→Int}
end
end Go.AL

namespace Go.AL
open Go
variable [Dr]
section
variable {C:List G→Option (List G)} {Q:List G→Prop} {c:List G→List G→Int}
theorem fg.mono{α:Type}{lt:α→α→Bool}{Q q:α→Prop}(h:fg lt Q)(k:∀ a,q a→Q a):fg lt q :=
 ⟨fun a b d ha hb u=>h.tr a b d (k a ha) (k b hb) (k d u),fun a b ha hb=>h.zf a b (k a ha) (k b hb)⟩
def sm(C:List G→Option (List G))(Q:List G→Prop)(c:List G→List G→Int):Prop:=∀ r s,Q r→Q s→∃ v,C [.l [r],.l [s]]=some [.i v]∧(v<0↔c r s<0)
end
end Go.AL

namespace Go.AL
open Go Go.Proofs
variable [Dr]
variable {C:List G→Option (List G)} {Q:List G→Prop} {c:List G→List G→Int}
theorem LY(hC:sm C Q c){r s:List G}(hr:Q r)(d:Q s):decide (vj C r s<0)=bZ c r s:=by
 obtain⟨v,h,k⟩:=hC r s hr d;unfold vj bZ;rw[h,eW];show decide (v<0)=_
 rw[lx,decide_eq_true_eq,decide_eq_true_eq];exact k
theorem p9(hC:sm C Q c){rows:List (List G)}(hr:∀ y∈rows,Q y)(h0:rows≠[])(i j:Nat):ltOf (lS C rows) i j=bZ c (fy rows i) (fy rows j) :=
 LY hC (hr _ (vk h0 i)) (hr _ (vk h0 j))
theorem Xt(hC:sm C Q c)(k:fg (bZ c) Q){rows:List (List G)}(hr:∀ y∈rows,Q y)(h0:rows≠[])(u:rows.length<100000):pY C rows:=by
 have d:=fun i=>hr _ (vk h0 i);refine⟨fun r h s h'=>by obtain⟨v,e,_⟩:=hC r s (hr r h) (hr s h'); exact⟨v,e⟩,⟨fun x=>?_,fun x y z=>?_,fun x y z=>?_⟩,by omega⟩
 ·rw [p9 hC hr h0]
  cases h:bZ c (fy rows x) (fy rows x)with
  |false=>rfl
  |true=>rw[k.zf _ _ (d x) (d x) h]at h; cases h
 ·rw [p9 hC hr h0, p9 hC hr h0, p9 hC hr h0]
  intro h1 q;cases h:bZ c (fy rows x) (fy rows z)with
  |true=>rfl
  | false =>
   have:=k.tr _ _ _ (d x) (d z) (d y) h (k.zf _ _ (d y) (d z) q);rw[this]at h1;cases h1
 ·rw [p9 hC hr h0, p9 hC hr h0, p9 hC hr h0]
  exact k.tr _ _ _ (d x) (d y) (d z)
theorem Xu(hC:sm C Q c)(k:fg (bZ c) Q)(rows:List (List G))(hr:∀ y∈rows,Q y)(q:rows.length<100000) :
  ∃ out,sc C [.l rows]=some [.l out]∧out.Perm rows∧out.Pairwise fun a b=>bZ c b a=false:=by
 unfold sc;have e:(gi [G.l rows] 0).rows=rows:=rfl;rw[e];by_cases h0:rows=[]
 ·rw [if_pos h0, h0]
  exact⟨[],rfl,nu _,List.Pairwise.nil⟩
 ·have bY := Xt hC k hr h0 q
  rw[if_neg h0,if_pos bY];have d:=Lz bY;refine⟨_,rfl,d,?_⟩;refine ahD ?_ (W8 bY);intro a b h1 u h;rw[←LY hC (hr b (d.mem_iff.1 u)) (hr a (d.mem_iff.1 h1)),decide_eq_false_iff_not];exact h
theorem Xv(hC:sm C Q c)(k:fg (bZ c) Q)(rows:List (List G))(hr:∀ y∈rows,Q y)(q:rows.length<100000)(ha:∀ a∈rows,∀ b∈rows,bZ c a b=false→bZ c b a=false→a=b) :
  sc C [.l rows]=some [.l (dG (bZ c) rows)]:=by
 obtain⟨out,h,d,u⟩:=Xu hC k rows hr q;rw[h,DG (d.trans (sk (lt:=bZ c) rows).symm) (fun a h1 b v=>ha a (d.mem_iff.1 h1) b (d.mem_iff.1 v)) u (zg k hr)]
end Go.AL

namespace Go.AL
open Go
variable [Dr]
noncomputable abbrev vn(r:List G):Int:=(gi r 0).int
noncomputable abbrev p_(r:List G):Int:=(gi r 1).int
def Xw(r:List G):Prop:=r=[.i (vn r),.i (p_ r)]∧vn r<p_ r
def LZ(l:List (List G))(n:Int):Prop:=∃ r∈l,vn r≤n∧n<p_ r
def Xx(l:List (List G)):Prop:=(∀ r∈l,Xw r)∧l.Pairwise fun r s=>p_ r<vn s
/-! ### Rows put d -/
/-! ### Rows d others -/
structure ahq (out:List (List G)) (a b:Int) (os:List (List G)) (ps:List (List G)) (f:Int):Prop where
 low:a≤f
 at_:f=a∨∃ o∈os,f=p_ o
 past:∀ o∈os,p_ o≤f∨b≤vn o
 mem:∀ n,LZ ps n↔a≤n∧n<f∧n<b∧¬ LZ os n
 can:Xx (out++ps)
 gap:∀ s∈out++ps,p_ s<f
 many:ps.length≤os.length
end Go.AL
