/-
 What is proved here: rules by which lifted functions are shown to give what they should. No program in sight; no condition.
-/
import Derived.Test.YtiljbnkkhbennaaGreatDoorMD
import Derived.Test.YtiljbnkkhbennaaGreatDoorMH
set_option linter.all false
open Bool renaming and_eq_true→az,eq_iff_iff→mI
open List renaming length_cons→cn,getElem?_eq_getElem→bf,getD_eq_getElem?_getD→bz,mem_cons→bN,mem_cons_self→cU,mem_cons_of_mem→dw,length_nil→lN,pairwise_cons→pt
open List.Pairwise renaming imp_of_mem→amN
open List.Perm renaming refl→pq
open Nat renaming beq→ab
namespace Go.AL
open Go
variable [Dr]
def aa{β:Type}(x:Option β)(Q:β→Prop):Prop:=∃ r,x=some r∧Q r
def gN(st:List G→Option (Option Nat × List G))(d:List G)(Q:Nat→List G→Prop):Prop:=∃ n x d',l7 st n d x d'∧n≤1000000∧Q x d'
namespace aa
variable {β:Type} {Q:β→Prop}
theorem some{r:β}(h:Q r):aa (some r) Q:=⟨r,rfl,h⟩
theorem pos{b:Bool}{x y:Option β}(h:b=true)(d:aa x Q):aa (bif b then x else y) Q:=by subst h; exact d
theorem neg{b:Bool}{x y:Option β}(h:b=false)(d:aa y Q):aa (bif b then x else y) Q:=by subst h; exact d
theorem test{b:Bool}{x y:Option β}(d:b=true→aa x Q)(k:b=false→aa y Q):aa (bif b then x else y) Q:=by
 cases b with
 |true=>exact d rfl
 |false=>exact k rfl
theorem call{t:Option (List G)}{k:List G→Option β}{P:List G→Prop}(h:aa t P)(hk:∀ g,P g→aa (k g) Q):aa (ar t k) Q:=by
 obtain⟨r,h,d⟩:=h;subst h;exact hk r d
theorem nt{c:Bool}{t:Option (List G)}{k:List G→Option β}{P:List G→Prop}(h:aa t P)(d:c=true)(hk:∀ g,P g→aa (k g) Q):aa (iF (c&&t.isSome) t k) Q:=by
 obtain⟨r,h,q⟩:=h;subst h d;exact hk r q
theorem loop{c:Bool}{st:List G→Option (Option Nat × List G)}{d:List G}{k:Nat→List G→Option β}{P:Nat→List G→Prop}(h:gN st d P)(q:c=true)(hk:∀ x g,P x g→aa (k x g) Q):aa (aO c (bX st d) k) Q:=by
 obtain⟨n,x,d',h,hn,B⟩:=h;rw[h.ZR hn];subst q;exact hk x d' B
theorem tail{c:Bool}{t:Option (Option Nat × List G)}{k:Nat→List G→Option β}{P:Nat→List G→Prop}(h:aa t fun o=>∃ x,o.1=Option.some x∧P x o.2)(B:c=true)(hk:∀ x g,P x g→aa (k x g) Q) :
  aa (aO c (cf t) k) Q:=by
 obtain⟨⟨o,d⟩,rfl,x,q,I⟩:=h;simp only at q;subst q B;exact hk x d I
theorem mono{x:Option β}{P:β→Prop}(h:aa x P)(d:∀ r,P r→Q r):aa x Q:=by
 obtain⟨r,h,k⟩:=h;exact⟨r,h,d r k⟩
theorem eq{x:Option β}{r:β}(h:x=Option.some r):aa x (fun g=>g=r):=⟨r,h,rfl⟩
theorem toEq{x:Option β}{r:β}(h:aa x (fun g=>g=r)):x=Option.some r:=by
 obtain⟨r',h,rfl⟩:=h;exact h
end aa
theorem gN.stop{st:List G→Option (Option Nat × List G)}{d d':List G}{x:Nat}{Q:Nat→List G→Prop}(h:st d=some (some x,d'))(k:Q x d'):gN st d Q:=⟨1,x,d',.stop h,by omega,k⟩
def bq(st:List G→Option (Option Nat × List G))(d:List G)(m:Nat)(Q:Nat→List G→Prop):Prop:=∃ n x d',l7 st n d x d'∧n≤m∧Q x d'
theorem bq.stop{st:List G→Option (Option Nat × List G)}{d d':List G}{x m:Nat}{Q:Nat→List G→Prop}(h:st d=some (some x,d'))(k:Q x d'):bq st d (m+1) Q:=⟨1,x,d',.stop h,by omega,k⟩
theorem bq.next{st:List G→Option (Option Nat × List G)}{d d1:List G}{m:Nat}{Q:Nat→List G→Prop}(h:st d=some (none,d1))(hr:bq st d1 m Q):bq st d (m+1) Q:=by
 obtain⟨n,x,d',h1,q,k⟩:=hr;exact⟨n+1,x,d',.next h h1,by omega,k⟩
theorem bq.to{st:List G→Option (Option Nat × List G)}{d:List G}{m:Nat}{Q:Nat→List G→Prop}(h:bq st d m Q)(hm:m≤1000000):gN st d Q:=by
 obtain⟨n,x,d',h1,q,k⟩:=h;exact⟨n,x,d',h1,by omega,k⟩
theorem gN.mono{st:List G→Option (Option Nat × List G)}{d:List G}{P Q:Nat→List G→Prop}(h:gN st d P)(k:∀ x g,P x g→Q x g):gN st d Q:=by
 obtain⟨n,x,d',h1,q,B⟩:=h;exact⟨n,x,d',h1,q,k _ _ B⟩
theorem bq.mono{st:List G→Option (Option Nat × List G)}{d:List G}{m:Nat}{P Q:Nat→List G→Prop}(h:bq st d m P)(k:∀ x g,P x g→Q x g):bq st d m Q:=by
 obtain⟨n,x,d',h1,q,B⟩:=h;exact⟨n,x,d',h1,q,k _ _ B⟩
theorem aaK{p:Prop}{i:Decidable p}:(@decide p i=true)↔p:=by simp
theorem aaL{p:Prop}{i:Decidable p}:(@decide p i=false)↔¬ p:=by simp
theorem aaM{a b:Nat}:ab a b=true↔a=b:=⟨Nat.eq_of_beq_eq_true,fun h=>h▸Nat.beq_refl a⟩
theorem Aa(a:G)(l:List G):gi (a::l) 0=a:=rfl
theorem Ab(a:G)(l:List G)(i:Nat):gi (a::l) (i+1)=gi l i:=rfl
theorem Ac(r:List G)(l:List (List G)):(G.l (r::l)).row=r:=rfl
theorem Ad(l:List (List G)):(G.l l).rows=l:=rfl
theorem Ae(n:Int):(G.i n).int=n:=rfl
theorem Af(s:ByteArray):(G.s s).str=s:=rfl
theorem Ag(b:Bool):(G.t b).bool=b:=rfl
theorem sl:(∀ a b:Int,ao a b=decide (a<b))∧(∀ a b:Int,bx a b=decide (a≤b))∧(∀ n:Int,aJ n=decide (0≤n))∧(∀ b:Bool,(b&&true)=b)∧(∀ b:Bool,(true&&b)=b) ∧
  (∀ a b:Bool,((a&&b)=true)=(a=true∧b=true))∧(∀ a b:Bool,((a&&b)=false)=(a=false∨b=false))∧(∀(p:Prop) (i:Decidable p),(@decide p i=true)=p)∧(∀(p:Prop) (i:Decidable p),(@decide p i=false)=¬ p) ∧
  (∀ b:Bool,((!b)=true)=(b=false))∧(∀ b:Bool,((!b)=false)=(b=true))∧(∀ a b:Int,((a==b)=true)=(a=b))∧(∀ a b:Int,((a==b)=false)=¬ (a=b))∧(∀ a b:Int,((a != b)=true)=¬ (a=b))∧(∀ a b:Int,((a != b)=false)=(a=b)) ∧
  (∀(α:Type) (a b:α),(a≠b)=¬ (a=b))∧(∀ a b:Nat,(ab a b=true)=(a=b))∧(∀ a b:Nat,(Nat.ble a b=true)=(a≤b))∧(∀ a b:Nat,(Nat.blt a b=true)=(a<b)) ∧
  (∀(l:List (List G)) (i:Nat) (x:List G),(l.set i x).length=l.length)∧(∀(α:Type) (l r:List α),(l++r).length=l.length+r.length)∧(∀(n:Nat) (x:List G),(List.replicate n x).length=n) ∧
  (∀(α:Type) (x:α) (l:List α),(x::l).length=l.length+1)∧(∀ α:Type,([]:List α).length=0)∧(∀(l:List (List G)) (n:Nat),(l.take n).length=min n l.length)∧(∀(l:List (List G)) (n:Nat),(l.drop n).length=l.length-n) ∧
  (∀ n:Nat,((n:Int)).toNat=n)∧(∀ p:Prop,(True∧p)=p)∧(∀ p:Prop,(p∧True)=p)∧(∀ a b:Bool,((a==b)=true)=(a=b)) :=
 ⟨dD, eV, jW, Bool.and_true, Bool.true_and, az, fun a b => by cases a <;> cases b <;> simp, fun _ _ => propext aaK, fun _ _ => propext aaL, fun b => by cases b <;> simp, fun b => by cases b <;> simp,
  fun a b=>by simp,fun a b=>by simp,fun a b=>by simp,fun a b=>by simp,fun _ a b=>rfl,fun a b=>propext aaM,fun a b=>by simp,fun a b=>by simp,fun l i x=>List.length_set,fun _ l r=>List.length_append,fun n x=>List.length_replicate,
  fun _ x l=>rfl,fun _=>rfl,fun l n=>List.length_take,fun l n=>List.length_drop,fun n=>Int.toNat_natCast n,fun p=>true_and p,fun p=>and_true p,fun a b=>by cases a<;>cases b<;>simp⟩
theorem aa.p{β:Type}{Q:β→Prop}{b:Bool}{x y:Option β}(d:aa x Q)(h:b=true:=by first|rfl|assumption|(simp only[aw,sl]<;>omega)):aa (bif b then x else y) Q:=aa.pos h d
theorem aa.n{β:Type}{Q:β→Prop}{b:Bool}{x y:Option β}(d:aa y Q)(h:b=false:=by first|rfl|assumption|(simp only[aw,sl]<;>omega)):aa (bif b then x else y) Q:=aa.neg h d
theorem aa.cE{β:Type}{Q:β→Prop}{t:Option (List G)}{r:List G}{k:List G→Option β}(h:t=Option.some r)(hk:aa (k r) Q):aa (ar t k) Q:=aa.call (aa.eq h) fun _ e=>by subst e; exact hk

end Go.AL

namespace Go.AL
open Go
variable [Dr]
theorem F8{σ:Type}{st:List G→Option (Option Nat × List G)}(mk:σ→Nat→List G)(n:Nat)(fin:σ→Nat × List G)(I:σ→Nat→Prop)(E:Nat→List G→Prop)
  (q:∀ s i,I s i→i<n→aa (st (mk s i)) fun o=>(∃ s',o=(none,mk s' (i+1))∧I s' (i+1))∨∃ c g,o=(some c,g)∧E c g)
  (B:∀ s,I s n→aa (st (mk s n)) fun o=>o=(some (fin s).1,(fin s).2)) :
  ∀(k:Nat) (s:σ) (i:Nat),i+k=n→I s i→bq st (mk s i) (k+1) fun c g=>(∃ s',I s' n∧c=(fin s').1∧g=(fin s').2)∨E c g
 | 0,s,i,hi,d=>by
  have e:i=n:=hi;subst e;obtain⟨o,h,rfl⟩:=B s d;exact bq.stop h (.inl ⟨s,d,rfl,rfl⟩)
 | k+1,s,i,hi,d=>by
  obtain⟨o,h,⟨s',rfl,J⟩|⟨c,g,rfl,M⟩⟩:=q s i d (by omega)
  ·exact bq.next h (F8 mk n fin I E q B k s' (i+1) (by omega) J)
  ·exact bq.stop h (.inr M)
theorem rS{rows:List (List G)}{i:Nat}(h:i<rows.length):rows.getD i []∈rows:=by
 rw[bz,bf h];exact List.getElem_mem h
theorem Oz{rows:List (List G)}{i:Nat}(h:i<rows.length):rows.take (i+1)=rows.take i++[rows.getD i []]:=by
 rw[List.take_add_one,bz,bf h];rfl
theorem uh{σ:Type}{st:List G→Option (Option Nat × List G)}(mk:σ→Nat→List G)(rows:List (List G))(fin:σ→Nat × List G)(I:σ→Nat→Prop)(E:Nat→List G→Prop)(s:σ)
  (hlen:rows.length<999999) (h0:I s 0)
  (d:∀ s i x,I s i→i<rows.length→rows.getD i []=x→x∈rows→rows.take (i+1)=rows.take i++[x]→aa (st (mk s i)) fun o=>(∃ s',o=(none,mk s' (i+1))∧I s' (i+1))∨∃ c g,o=(some c,g)∧E c g)
  (k:∀ s,I s rows.length→aa (st (mk s rows.length)) fun o=>o=(some (fin s).1,(fin s).2)) :
  gN st (mk s 0) fun c g=>(∃ s',I s' rows.length∧c=(fin s').1∧g=(fin s').2)∨E c g :=
 (F8 mk rows.length fin I E (fun s i q hi=>d s i _ q hi rfl (rS hi) (Oz hi)) k rows.length s 0 (by omega) h0).to (by omega)
theorem Bv{σ:Type}{st:List G→Option (Option Nat × List G)}(mk:σ→Nat→List G)(rows:List (List G))(fin:σ→Nat × List G)(I:σ→Nat→Prop)(s:σ)
  (hlen:rows.length<999999) (h0:I s 0)
  (k:∀ s i x,I s i→i<rows.length→rows.getD i []=x→x∈rows→rows.take (i+1)=rows.take i++[x]→aa (st (mk s i)) fun o=>∃ s',o=(none,mk s' (i+1))∧I s' (i+1))
  (q:∀ s,I s rows.length→aa (st (mk s rows.length)) fun o=>o=(some (fin s).1,(fin s).2)) :
  gN st (mk s 0) fun c g=>∃ s',I s' rows.length∧c=(fin s').1∧g=(fin s').2 :=
 (uh mk rows fin I (fun _ _=>False) s hlen h0 (fun s i x a b c d e=>(k s i x a b c d e).mono fun _ h=>.inl h) q).mono fun _ _ h=>h.elim id False.elim
end Go.AL

namespace Go.AL
open Go
variable [Dr]
theorem xk{α:Type}[BEq α][LawfulBEq α](a b:α):(a==b)=(b==a):=by
 rw[mI];simp only[beq_iff_eq];exact eq_comm
theorem aaN{k:Kd}{a b:G}:oB k a b=oB k b a:=by
 cases k
 ·exact xk _ _
 ·exact xk _ _
 ·exact xk _ _
 ·rfl
theorem aaO{k:Kd}{a b c:G}(h1:oB k a b=true)(d:oB k b c=true):oB k a c=true:=by
 cases k<;>simp only[oB,beq_iff_eq]at *<;>first|exact h1.trans d|cases h1
theorem rT:∀{K:List Kd} {a b:List G},aI K a b=aI K b a
 | [],_,_=>rfl
 |k::K,a,b=>by simp only[aI,aaN (a:=a.headD default),rT (K:=K) (a:=a.tail)]
theorem rU:∀{K:List Kd} {a b c:List G},aI K a b=true→aI K b c=true→aI K a c=true
 | [],_,_,_,_,_=>rfl
 | k::K,a,b,c,h1,d=>by
  simp only[aI,az]at *;exact⟨aaO h1.1 d.1,rU h1.2 d.2⟩
theorem OA{K:List Kd}{a b c:List G}(h:aI K a b=true):aI K a c=aI K b c:=by
 rw[mI];constructor
 ·exact fun d=>rU (by rw[rT]; exact h) d
 ·exact fun d=>rU h d
theorem xl{K:List Kd}{a b c:List G}(h:aI K a b=true):aI K c a=aI K c b:=by
 rw[rT,OA h,rT]
theorem oO(ks:List Kd)(key:List G):∀(rows:List (List G)) (i:Nat),bW ks key rows i=(bW ks key rows 0).map fun p=>(p.1+i,p.2)
 | [],i=>rfl
 | r::rs,i=>by
  simp only[bW];cases aI ks key (gi r 0).row with
  |true=>simp
  | false =>
   simp only[cond_false];rw[oO ks key rs (i+1),oO ks key rs (0+1),Option.map_map];congr 1
   funext p
   simp;omega
theorem xm(ks:List Kd)(key z:List G):bZ ks [] key z=z:=rfl
theorem ui(ks:List Kd)(r:List G)(rs:List (List G))(key z:List G):bZ ks (r::rs) key z=bif aI ks key (gi r 0).row then (gi r 1).row else bZ ks rs key z:=by
 unfold bZ;simp only[bW];cases aI ks key (gi r 0).row with
 |true=>rfl
 | false =>
  simp only[cond_false];rw[oO ks key rs (0+1)];cases bW ks key rs 0<;>rfl
theorem OB(ks:List Kd)(key:List G):du ks [] key=false:=rfl
theorem nu(ks:List Kd)(r:List G)(rs:List (List G))(key:List G):du ks (r::rs) key=(aI ks key (gi r 0).row||du ks rs key):=by
 unfold du;simp only[bW];cases aI ks key (gi r 0).row with
 |true=>rfl
 | false =>
  simp only[cond_false];rw[oO ks key rs (0+1)];cases bW ks key rs 0<;>rfl
theorem OC(ks:List Kd)(key val:List G)(c:Nat):dv ks [] key val c=[[.l [key],.l [val],.i c]]:=rfl
theorem OD(ks:List Kd)(r:List G)(rs:List (List G))(key val:List G)(c:Nat) :
  dv ks (r::rs) key val c=bif aI ks key (gi r 0).row then [.l [key],.l [val],.i (gi r 2).int]::rs else r::dv ks rs key val c:=by
 unfold dv;simp only[bW];cases aI ks key (gi r 0).row with
 |true=>rfl
 | false =>
  simp only[cond_false];rw[oO ks key rs (0+1)];cases bW ks key rs 0<;>rfl
theorem oP(ks:List Kd)(k v key z:List G)(c:Nat):∀ rows:List (List G),bZ ks (dv ks rows k v c) key z=bif aI ks key k then v else bZ ks rows key z
 | []=>by simp only[OC,ui,xm]; rfl
 | r::rs=>by
  rw[OD,ui];cases h:aI ks k (gi r 0).row with
  | true =>
   simp only[cond_true,ui];have e:aI ks key (gi r 0).row=aI ks key k:=(xl h).symm;rw[e];cases d:aI ks key k with
   |true=>simp only[Aa,Ac,d,cond_true]; rfl
   |false=>simp only[Aa,Ac,d,cond_false]
  | false =>
   simp only[cond_false,ui,oP ks k v key z c rs];cases d:aI ks key (gi r 0).row with
   |false=>rfl
   | true =>
    cases q:aI ks key k with
    |false=>rfl
    | true =>
     have:aI ks k (gi r 0).row=true:=rU (by rw[rT]; exact q) d;rw[this]at h;cases h
theorem Bw(ks:List Kd)(k v key:List G)(c:Nat):∀ rows:List (List G),du ks (dv ks rows k v c) key=(aI ks key k||du ks rows key)
 | []=>by simp only[OC,nu,OB]; rfl
 | r::rs=>by
  rw[OD,nu];cases h:aI ks k (gi r 0).row with
  | true =>
   simp only[cond_true,nu];have e:aI ks key (gi r 0).row=aI ks key k:=(xl h).symm;rw[e];simp only[Aa,Ac];cases aI ks key k<;>simp
  | false =>
   simp only[cond_false,nu,Bw ks k v key c rs];cases aI ks key (gi r 0).row<;>simp
end Go.AL

namespace Go.AL
open Go
variable [Dr]
def xn(K:List Kd)(C:List G→Option (List G))(d:List G):Option (Option Nat × List G) :=
 (bif (ao (gi d 1).int (gi d 4).int) then (bif ((aJ (gi d 4).int)&&(ao (gi d 4).int (((gi d 0).rows.length:Nat):Int))) then (bif (decide ((0+((gi d 4).int).toNat)<(gi d 0).rows.length)) then (bif (aw ((gi d 4).int-1)) then (bif ((aJ ((gi d 4).int-1))&&(ao ((gi d 4).int-1) (((gi d 0).rows.length:Nat):Int))) then (bif (decide ((0+((gi d 4).int-1).toNat)<(gi d 0).rows.length)) then (ar (C [.l [(aU K ((gi d 0).rows.getD (0+((gi d 4).int).toNat) []))],.l [(aU K ((gi d 0).rows.getD (0+((gi d 4).int-1).toNat) []))]]) fun g1=>(bif (ao (gi g1 0).int 0) then (bif (aw ((gi d 4).int-1)) then (bif (aw ((gi d 4).int-1)) then (bif ((aJ ((gi d 4).int-1))&&(ao ((gi d 4).int-1) (((gi d 0).rows.length:Nat):Int))) then (bif (decide ((0+((gi d 4).int-1).toNat)<(gi d 0).rows.length)) then (bif ((aJ (gi d 4).int)&&(ao (gi d 4).int (((gi d 0).rows.length:Nat):Int))) then (bif (decide ((0+((gi d 4).int).toNat)<(gi d 0).rows.length)) then (bif ((aJ (gi d 4).int)&&(ao (gi d 4).int (((gi d 0).rows.length:Nat):Int))) then (bif (decide ((0+((gi d 4).int).toNat)<(gi d 0).rows.length)) then (bif ((aJ ((gi d 4).int-1))&&(ao ((gi d 4).int-1) (((gi d 0).rows.length:Nat):Int))) then (bif (decide ((0+((gi d 4).int-1).toNat)<((gi d 0).rows.set (0+((gi d 4).int).toNat) (dR K ((gi d 0).rows.getD (0+((gi d 4).int).toNat) []) 0 (aU K ((gi d 0).rows.getD (0+((gi d 4).int-1).toNat) [])))).length)) then (bif (aw ((gi d 4).int-1)) then (bif ((ab (gi d 0).rows.length (((gi d 0).rows.set (0+((gi d 4).int).toNat) (dR K ((gi d 0).rows.getD (0+((gi d 4).int).toNat) []) 0 (aU K ((gi d 0).rows.getD (0+((gi d 4).int-1).toNat) [])))).set (0+((gi d 4).int-1).toNat) (dR K (((gi d 0).rows.set (0+((gi d 4).int).toNat) (dR K ((gi d 0).rows.getD (0+((gi d 4).int).toNat) []) 0 (aU K ((gi d 0).rows.getD (0+((gi d 4).int-1).toNat) [])))).getD (0+((gi d 4).int-1).toNat) []) 0 (aU K ((gi d 0).rows.getD (0+((gi d 4).int).toNat) [])))).length)&&true) then some (none,[.l (((gi d 0).rows.set (0+((gi d 4).int).toNat) (dR K ((gi d 0).rows.getD (0+((gi d 4).int).toNat) []) 0 (aU K ((gi d 0).rows.getD (0+((gi d 4).int-1).toNat) [])))).set (0+((gi d 4).int-1).toNat) (dR K (((gi d 0).rows.set (0+((gi d 4).int).toNat) (dR K ((gi d 0).rows.getD (0+((gi d 4).int).toNat) []) 0 (aU K ((gi d 0).rows.getD (0+((gi d 4).int-1).toNat) [])))).getD (0+((gi d 4).int-1).toNat) []) 0 (aU K ((gi d 0).rows.getD (0+((gi d 4).int).toNat) [])))),.i (gi d 1).int,.i (gi d 2).int,.i (gi d 3).int,.i ((gi d 4).int-1)]) else none) else none) else none) else none) else none) else none) else none) else none) else none) else none) else none) else none) else (bif ((ab (gi d 0).rows.length (gi d 0).rows.length)&&true) then some (some 0,[.l (gi d 0).rows,.i (gi d 1).int,.i (gi d 2).int,.i (gi d 3).int]) else none))) else none) else none) else none) else none) else none) else (bif ((ab (gi d 0).rows.length (gi d 0).rows.length)&&true) then some (some 0,[.l (gi d 0).rows,.i (gi d 1).int,.i (gi d 2).int,.i (gi d 3).int]) else none))
def uj(K:List Kd)(C:List G→Option (List G))(d:List G):Option (Option Nat × List G) :=
 (bif (ao (gi d 3).int (gi d 2).int) then (aO ((ab (gi d 0).rows.length (gi d 0).rows.length)&&true) (bX (xn K C) [.l (gi d 0).rows,.i (gi d 1).int,.i (gi d 2).int,.i (gi d 3).int,.i (gi d 3).int]) fun k g2=>(bif (aw ((gi g2 3).int+1)) then (bif ((ab (gi g2 0).rows.length (gi g2 0).rows.length)&&true) then some (none,[.l (gi g2 0).rows,.i (gi g2 1).int,.i (gi g2 2).int,.i ((gi g2 3).int+1)]) else none) else none)) else some (some 0,[.l (gi d 0).rows]))
def nv(K:List Kd)(C:List G→Option (List G))(d:List G):Option (List G) :=
 (bif (aw ((gi d 1).int+1)) then (aO ((ab (gi d 0).rows.length (gi d 0).rows.length)&&true) (bX (uj K C) [.l (gi d 0).rows,.i (gi d 1).int,.i (gi d 2).int,.i ((gi d 1).int+1)]) fun k g3=>some [.l (gi g3 0).rows]) else none)
def rV(K:List Kd)(C:List G→Option (List G))(d:List G):Option (Option Nat × List G) :=
 (bif (bx (gi d 4).int (gi d 1).int) then (iF (((ab (gi d 0).rows.length (gi d 0).rows.length)&&true)&&((nv K C) [.l (gi d 0).rows,.i (gi d 3).int,.i (gi d 4).int]).isSome) ((nv K C) [.l (gi d 0).rows,.i (gi d 3).int,.i (gi d 4).int]) fun g1=>(bif (aw ((gi d 4).int+(gi d 2).int)) then (bif ((ab (gi d 0).rows.length (gi g1 0).rows.length)&&true) then some (none,[.l (gi g1 0).rows,.i (gi d 1).int,.i (gi d 2).int,.i (gi d 4).int,.i ((gi d 4).int+(gi d 2).int)]) else none) else none)) else (bif ((ab (gi d 0).rows.length (gi d 0).rows.length)&&true) then some (some 0,[.l (gi d 0).rows,.i (gi d 1).int,.i (gi d 2).int,.i (gi d 3).int]) else none))
def aaP(K:List Kd)(C:List G→Option (List G))(d:List G):Option (Option Nat × List G) :=
 (bif (bx (gi d 4).int (gi d 1).int) then (bif (aw ((gi d 3).int+(gi d 2).int)) then none else none) else (bif ((ab (gi d 0).rows.length (gi d 0).rows.length)&&true) then some (some 0,[.l (gi d 0).rows,.i (gi d 1).int,.i (gi d 2).int,.i (gi d 3).int]) else none))
def F9(K:List Kd)(C:List G→Option (List G))(d:List G):Option (Option Nat × List G) :=
 (bif (ao (gi d 2).int (gi d 1).int) then (bif (aw (2*(gi d 2).int)) then (aO ((ab (gi d 0).rows.length (gi d 0).rows.length)&&true) (bX (aaP K C) [.l (gi d 0).rows,.i (gi d 1).int,.i (gi d 2).int,.i 0,.i (2*(gi d 2).int)]) fun k g4=>(bif (aw ((gi g4 3).int+(gi g4 2).int)) then (bif (ao ((gi g4 3).int+(gi g4 2).int) (gi g4 1).int) then none else (bif (aw ((gi g4 2).int*2)) then (bif ((ab (gi g4 0).rows.length (gi g4 0).rows.length)&&true) then some (none,[.l (gi g4 0).rows,.i (gi g4 1).int,.i ((gi g4 2).int*2)]) else none) else none)) else none)) else none) else some (some 0,[.l (gi d 0).rows]))
def Bx(K:List Kd)(C:List G→Option (List G))(d:List G):Option (List G) :=
 (aO ((ab (gi d 0).rows.length (gi d 0).rows.length)&&true) (bX (rV K C) [.l (gi d 0).rows,.i (gi d 1).int,.i 20,.i 0,.i 20]) fun k g2=>(iF (((ab (gi g2 0).rows.length (gi g2 0).rows.length)&&true)&&((nv K C) [.l (gi g2 0).rows,.i (gi g2 3).int,.i (gi g2 1).int]).isSome) ((nv K C) [.l (gi g2 0).rows,.i (gi g2 3).int,.i (gi g2 1).int]) fun g3=>(aO ((ab (gi g2 0).rows.length (gi g3 0).rows.length)&&true) (bX (F9 K C) [.l (gi g3 0).rows,.i (gi g2 1).int,.i (gi g2 2).int]) fun q g5=>some [.l (gi g5 0).rows])))
def OE(K:List Kd)(C:List G→Option (List G))(d:List G):Option (List G) :=
 (iF (((ab (gi d 0).rows.length (gi d 0).rows.length)&&true)&&((Bx K C) [.l (gi d 0).rows,.i (((gi d 0).rows.length:Nat):Int)]).isSome) ((Bx K C) [.l (gi d 0).rows,.i (((gi d 0).rows.length:Nat):Int)]) fun g1=>some [.l (gi g1 0).rows])
theorem nw{α:Type}(l:List α)(x:α)(q:List α)(z:α)(n:Nat)(h:n=l.length):(l++x::q).getD n z=x:=by subst h; simp
theorem By{α:Type}(l:List α)(x y:α)(q:List α)(n:Nat)(h:n=l.length):(l++x::q).set n y=l++y::q:=by subst h; simp
def fL{α:Type}(lt:α→α→Bool)(x:α):List α→List α
 | []=>[x]
 |y::p=>bif lt x y then y::fL lt x p else x::y::p
def iH{α:Type}(lt:α→α→Bool):List α→List α→List α
 |p,[]=>p
 |p,x::r=>iH lt (fL lt x p) r
def eu{α:Type}(lt:α→α→Bool)(l:List α):List α:=(iH lt [] l).reverse
theorem Bz{α:Type}(lt:α→α→Bool)(x:α):∀ p,(fL lt x p).length=p.length+1
 | []=>rfl
 | y::p=>by
  simp only[fL];cases lt x y with
  |true=>simp[Bz lt x p]
  |false=>simp
theorem F_{α:Type}{Q:α→Prop}{lt:α→α→Bool}{x:α}(k:Q x):∀{p:List α},(∀ y∈p,Q y)→∀ y∈fL lt x p,Q y
 | [],_,y,d=>by simp[fL]at d; exact d▸k
 | z::p,q,y,d=>by
  simp only[fL]at d;cases B:lt x z with
  | true =>
   rw[B]at d;rcases bN.1 d with rfl|d
   ·exact q _ cU
   ·exact F_ k (fun y d=>q y (dw _ d)) y d
  | false =>
   rw[B]at d;rcases bN.1 d with rfl|d
   ·exact k
   ·exact q y d
theorem OF{α:Type}(lt:α→α→Bool):∀(p r:List α),(iH lt p r).length=p.length+r.length
 |p,[]=>rfl
 |p,x::r=>by simp only[iH,OF lt,Bz,cn]; omega
theorem OG{α:Type}{Q:α→Prop}{lt:α→α→Bool}:∀{r p:List α},(∀ y∈p,Q y)→(∀ y∈r,Q y)→∀ y∈iH lt p r,Q y
 | [],_,d,_=>d
 | x::r,p,d,hr=>by
  simp only[iH];exact OG (F_ (hr x cU) d) fun y k=>hr y (dw _ k)
theorem BA{α:Type}(lt:α→α→Bool)(l:List α):(eu lt l).length=l.length:=by simp[eu,OF]
theorem aaQ{α:Type}{Q:α→Prop}{lt:α→α→Bool}{l:List α}(h:∀ y∈l,Q y):∀ y∈eu lt l,Q y:=by
 intro y d;exact OG (p:=[]) (by simp) h y (by simpa[eu]using d)
theorem Ga:∀(K:List Kd) (r:List G),(aU K r).length=K.length
 | [],_=>rfl
 |k::K,r=>by simp[aU,Ga K]
theorem OH{K:List Kd}{r gs:List G}(h:gs.length=K.length):dR K r 0 gs=gs:=by
 simp[dR,h,ED,List.drop_eq_nil_of_le]
section
variable {K:List Kd} {C:List G→Option (List G)} {Q:List G→Prop} {c:List G→List G→Int}
structure oQ (K:List Kd) (C:List G→Option (List G)) (Q:List G→Prop) (c:List G→List G→Int):Prop where
 cmp:∀ r s,Q r→Q s→C [.l [r],.l [s]]=some [.i (c r s)]
 eta:∀ r,Q r→aU K r=r
def bM(c:List G→List G→Int)(r s:List G):Bool:=ao (c r s) 0
theorem OI(hC:oQ K C Q c):∀(p q:List (List G)) (x:List G) (b i:Int) (j:Nat),(∀ y∈p,Q y)→Q x→p.length<1000000→j=p.length →
  ∃ m,m≤p.length+1∧l7 (xn K C) m [.l (p.reverse++x::q),.i 0,.i b,.i i,.i (j:Int)] 0 [.l ((fL (bM c) x p).reverse++q),.i 0,.i b,.i i]
 | [],q,x,b,i,j,_,_,_,d=>by
  simp only[lN]at d;subst d;refine⟨1,by simp,.stop (aa.toEq ?_)⟩;unfold xn
  (dsimp +instances only[Aa,Ab,Ac,Ad,Ae,Af,Ag])
  refine aa.n (aa.p (aa.some ?_));rfl
 | y::p,q,x,b,i,j,M,k,V,d=>by
  have I:=M y cU;have N:(y::p).reverse++x::q=(p.reverse++[y])++x::q:=by simp
  have W:(y::p).reverse++x::q=p.reverse++y::x::q:=by simp
  simp only[cn]at V d;have g1:((y::p).reverse++x::q).getD (0+(j:Int).toNat) []=x:=by rw[N]; exact nw _ _ _ _ _ (by simp[d])
  have g2:((y::p).reverse++x::q).getD (0+((j:Int)-1).toNat) []=y:=by rw[W]; exact nw _ _ _ _ _ (by simp[d])
  have hlen:((y::p).reverse++x::q).length=p.length+q.length+2:=by simp; omega
  have J:=hC.cmp x y k I;cases B:bM c x y with
  | false =>
   refine⟨1,by simp,.stop (aa.toEq ?_)⟩;unfold xn
   (dsimp +instances only[Aa,Ab,Ac,Ad,Ae,Af,Ag])
   simp only[hlen,g1,g2,hC.eta x k,hC.eta y I];refine aa.p (aa.p (aa.p (aa.p (aa.p (aa.p (aa.call (aa.eq J) ?_))))));rintro _ rfl
   (dsimp +instances only[Aa,Ab,Ac,Ad,Ae,Af,Ag])
   refine aa.neg B (aa.p (aa.some ?_));simp[fL,B]
  | true =>
   obtain⟨m,hm,hr⟩:=OI hC p (y::q) x b i (j-1) (fun z hz=>M z (dw _ hz)) k (by omega) (by omega);refine⟨m+1,by simp; omega,.next (aa.toEq ?_) (by
    have e:(fL (bM c) x (y::p)).reverse++q=(fL (bM c) x p).reverse++y::q:=by simp[fL,B]
    rw[e]; exact hr)⟩
   have s1:((y::p).reverse++x::q).set (0+(j:Int).toNat) y=p.reverse++y::y::q:=by
    rw[N,By _ _ _ _ _ (by simp[d])]; simp
   have s2:(p.reverse++y::y::q).set (0+((j:Int)-1).toNat) x=p.reverse++x::y::q:=By _ _ _ _ _ (by simp[d]);have O:(p.reverse++y::y::q).length=p.length+q.length+2:=by simp; omega
   have U:(p.reverse++x::y::q).length=p.length+q.length+2:=by simp; omega
   have ky:y.length=K.length:=by rw[←hC.eta y I,Ga]
   have kx:x.length=K.length:=by rw[←hC.eta x k,Ga]
   unfold xn
   (dsimp +instances only[Aa,Ab,Ac,Ad,Ae,Af,Ag])
   simp only[hlen,g1,g2,hC.eta x k,hC.eta y I,OH ky,OH kx,s1,s2,O,U];refine aa.p (aa.p (aa.p (aa.p (aa.p (aa.p (aa.call (aa.eq J) ?_))))));rintro _ rfl
   (dsimp +instances only[Aa,Ab,Ac,Ad,Ae,Af,Ag])
   refine aa.pos B ?_;refine aa.p (aa.p (aa.p (aa.p (aa.p (aa.p (aa.p (aa.p (aa.p (aa.p (aa.p (aa.p (aa.some ?_))))))))))));congr;omega
theorem OJ(hC:oQ K C Q c):∀(r p:List (List G)) (i n:Nat),(∀ y∈p,Q y)→(∀ y∈r,Q y)→i=p.length→n=p.length+r.length→n<100000 →
  ∃ m,m≤r.length+1∧l7 (uj K C) m [.l (p.reverse++r),.i 0,.i (n:Int),.i (i:Int)] 0 [.l (iH (bM c) p r).reverse]
 | [],p,i,n,_,_,hi,hn,d=>by
  refine⟨1,by simp,.stop (aa.toEq ?_)⟩;simp only[lN]at hn;unfold uj
  (dsimp +instances only[Aa,Ab,Ac,Ad,Ae,Af,Ag])
  refine aa.n (aa.some ?_);simp[iH]
 | x::r,p,i,n,k,hr,hi,hn,d=>by
  simp only[cn]at hn;obtain⟨m1,I,h1⟩:=OI hC p r x (n:Int) (i:Int) i k (hr x cU) (by omega) hi;obtain⟨m,hm,q⟩:=OJ hC r (fL (bM c) x p) (i+1) n (F_ (hr x cU) k) (fun y B=>hr y (dw _ B)) (by rw[Bz,hi]) (by rw[Bz]; omega) d;refine⟨m+1,by simp; omega,.next (aa.toEq ?_) q⟩;unfold uj
  (dsimp +instances only[Aa,Ab,Ac,Ad,Ae,Af,Ag])
  refine aa.p (aa.loop (P:=fun x g=>g=_) ⟨m1,0,_,h1,by omega,rfl⟩ (by(first|rfl|assumption|(simp only[aw,sl]<;>omega))) ?_);rintro _ _ rfl
  (dsimp +instances only[Aa,Ab,Ac,Ad,Ae,Af,Ag])
  refine aa.p (aa.p (aa.some ?_));rfl
theorem aaR(hC:oQ K C Q c)(rows:List (List G))(hr:∀ y∈rows,Q y)(hn:rows.length<100000):nv K C [.l rows,.i 0,.i (rows.length:Int)]=some [.l (eu (bM c) rows)]:=by
 refine aa.toEq ?_;unfold nv
 (dsimp +instances only[Aa,Ab,Ac,Ad,Ae,Af,Ag])
 refine aa.p ?_;cases rows with
 | nil =>
  refine aa.loop (P:=fun x g=>g=[.l []]) ⟨1,0,_,.stop (aa.toEq (?_:aa _ (fun g=>g=(some 0,[G.l []])))),by omega,rfl⟩ (by(first|rfl|assumption|(simp only[aw,sl]<;>omega))) ?_
  ·unfold uj
   (dsimp +instances only[Aa,Ab,Ac,Ad,Ae,Af,Ag])
   exact aa.n (aa.some rfl)
  ·rintro _ _ rfl
   exact aa.some rfl
 | cons x r =>
  simp only[cn]at hn;obtain⟨m,hm,h⟩:=OJ hC r [x] 1 (r.length+1) (by simpa using hr x cU) (fun y d=>hr y (dw _ d)) rfl (by simp; omega) (by omega);refine aa.loop (P:=fun y g=>g=_) ⟨m,0,_,h,by omega,rfl⟩ (by(first|rfl|assumption|(simp only[aw,sl]<;>omega))) ?_;rintro _ _ rfl;exact aa.some rfl
theorem aaS(rows:List (List G))(a b:Nat)(h:b≤a)(hn:a<100000):nv K C [.l rows,.i (a:Int),.i (b:Int)]=some [.l rows]:=by
 refine aa.toEq ?_;unfold nv
 (dsimp +instances only[Aa,Ab,Ac,Ad,Ae,Af,Ag])
 refine aa.p ?_;refine aa.loop (P:=fun x g=>g=[.l rows]) ⟨1,0,_,.stop (aa.toEq (?_:aa _ (fun g=>g=(some 0,[G.l rows])))),by omega,rfl⟩ (by(first|rfl|assumption|(simp only[aw,sl]<;>omega))) ?_
 ·unfold uj
  (dsimp +instances only[Aa,Ab,Ac,Ad,Ae,Af,Ag])
  exact aa.n (aa.some rfl)
 ·rintro _ _ rfl
  exact aa.some rfl
theorem aaT(hC:oQ K C Q c)(rows:List (List G))(hr:∀ y∈rows,Q y)(hn:rows.length≤20):Bx K C [.l rows,.i (rows.length:Int)]=some [.l (eu (bM c) rows)]:=by
 refine aa.toEq ?_;unfold Bx
 (dsimp +instances only[Aa,Ab,Ac,Ad,Ae,Af,Ag])
 have d:=aaR hC rows hr (by omega);have hlen:=BA (bM c) rows;have q:∀ rows':List (List G),rows'.length=rows.length→gN (F9 K C) [.l rows',.i (rows.length:Int),.i 20] fun _ g=>g=[.l rows']:=by
  intro rows' J;refine gN.stop (x:=0) (aa.toEq ?_) rfl;unfold F9
  (dsimp +instances only[Aa,Ab,Ac,Ad,Ae,Af,Ag])
  exact aa.n (aa.some rfl)
 by_cases k:rows.length=20
 ·have h1:rV K C [.l rows,.i (rows.length:Int),.i 20,.i 0,.i 20]=some (none,[.l (eu (bM c) rows),.i (rows.length:Int),.i 20,.i 20,.i 40]):=by
   refine aa.toEq ?_;unfold rV
   (dsimp +instances only[Aa,Ab,Ac,Ad,Ae,Af,Ag])
   have d:nv K C [.l rows,.i 0,.i 20]=some [.l (eu (bM c) rows)]:=by rw[k]at d; exact d
   refine aa.p (aa.nt (aa.eq d) (by(first|rfl|assumption|(simp only[aw,sl]<;>omega))) ?_);rintro _ rfl
   (dsimp +instances only[Aa,Ab,Ac,Ad,Ae,Af,Ag])
   exact aa.p (aa.p (aa.some rfl))
  have B:rV K C [.l (eu (bM c) rows),.i (rows.length:Int),.i 20,.i 20,.i 40]=some (some 0,[.l (eu (bM c) rows),.i (rows.length:Int),.i 20,.i 20]):=by
   refine aa.toEq ?_;unfold rV
   (dsimp +instances only[Aa,Ab,Ac,Ad,Ae,Af,Ag])
   exact aa.n (aa.p (aa.some rfl))
  refine aa.loop (P:=fun x g=>g=_) ⟨2,0,_,.next h1 (.stop B),by omega,rfl⟩ (by(first|rfl|assumption|(simp only[aw,sl]<;>omega))) ?_;rintro _ _ rfl
  (dsimp +instances only[Aa,Ab,Ac,Ad,Ae,Af,Ag])
  have I:nv K C [.l (eu (bM c) rows),.i 20,.i (rows.length:Int)]=some [.l (eu (bM c) rows)]:=by
   rw[k]; exact aaS _ 20 20 (by omega) (by omega)
  refine aa.nt (aa.eq I) (by(first|rfl|assumption|(simp only[aw,sl]<;>omega))) ?_;rintro _ rfl
  (dsimp +instances only[Aa,Ab,Ac,Ad,Ae,Af,Ag])
  refine aa.loop (q _ hlen) (by(first|rfl|assumption|(simp only[aw,sl]<;>omega))) ?_;rintro _ _ rfl;exact aa.some rfl
 ·have h1:rV K C [.l rows,.i (rows.length:Int),.i 20,.i 0,.i 20]=some (some 0,[.l rows,.i (rows.length:Int),.i 20,.i 0]):=by
   refine aa.toEq ?_;unfold rV
   (dsimp +instances only[Aa,Ab,Ac,Ad,Ae,Af,Ag])
   exact aa.n (aa.p (aa.some rfl))
  refine aa.loop (P:=fun x g=>g=_) ⟨1,0,_,.stop h1,by omega,rfl⟩ (by(first|rfl|assumption|(simp only[aw,sl]<;>omega))) ?_;rintro _ _ rfl
  (dsimp +instances only[Aa,Ab,Ac,Ad,Ae,Af,Ag])
  refine aa.nt (aa.eq d) (by(first|rfl|assumption|(simp only[aw,sl]<;>omega))) ?_;rintro _ rfl
  (dsimp +instances only[Aa,Ab,Ac,Ad,Ae,Af,Ag])
  refine aa.loop (q _ hlen) (by(first|rfl|assumption|(simp only[aw,sl]<;>omega))) ?_;rintro _ _ rfl;exact aa.some rfl
theorem aaU(hC:oQ K C Q c)(rows:List (List G))(hr:∀ y∈rows,Q y)(hn:rows.length≤20):OE K C [.l rows]=some [.l (eu (bM c) rows)]:=by
 refine aa.toEq ?_;unfold OE
 (dsimp +instances only[Aa,Ab,Ac,Ad,Ae,Af,Ag])
 refine aa.nt (aa.eq (aaT hC rows hr hn)) (by(first|rfl|assumption|(simp only[aw,sl]<;>omega))) ?_;rintro _ rfl;exact aa.some rfl
end
end Go.AL

namespace Go.AL
open Go
variable [Dr]
section
variable {K:List Kd} {Z:List G} {Q:List G→Prop}
structure Kds (K:List Kd) (Q:List G→Prop):Prop where
 eta:∀ r,Q r→aU K r=r
structure Eqv (K:List Kd) (C:List G→Option (List G)) (Q:List G→Prop) (e:List G→List G→Bool):Prop where
 cmp:∀ r s,Q r→Q s→C [.l [r],.l [s]]=some [.t (e r s)]
 eta:∀ r,Q r→aU K r=r
variable {C:List G→Option (List G)} {ee:List G→List G→Bool}
end
end Go.AL

namespace Go.AL
open Go
variable [Dr]
section
variable {K:List Kd} {Q:List G→Prop}
end
end Go.AL

namespace Go.AL
open Go
variable [Dr]
section
variable {K:List Kd} {Z:List G} {Q:List G→Prop} {C:List G→Option (List G)} {cp:G→G} {cap:G} {p:List G→Bool}
structure Prd (K:List Kd) (C:List G→Option (List G)) (cp:G→G) (cap:G) (Q:List G→Prop) (p:List G→Bool):Prop where
 cmp:∀ r,Q r→C [.l [r],cap]=some [.t (p r)]
 eta:∀ r,Q r→aU K r=r
 fix:cp cap=cap
end
section
variable {K:List Kd} {Z:List G}
def parts (ps:List (List (List G))):List (List G):=ps.map fun p=>[.l p]
end
end Go.AL

namespace Go.AL
open Go
variable [Dr]
section sort
variable {α:Type} {lt:α→α→Bool}
theorem BB(x:α):∀ p:List α,(fL lt x p).Perm (x::p)
 | []=>pq _
 | y::p=>by
  simp only[fL];cases lt x y with
  |true=>exact(List.Perm.cons y (BB x p)).trans (List.Perm.swap x y p)
  |false=>exact pq _
theorem OK:∀(r p:List α),(iH lt p r).Perm (p++r)
 | [],p=>by simp[iH]
 | x::r,p=>by
  simp only[iH];refine(OK r (fL lt x p)).trans ?_;refine(List.Perm.append_right r (BB x p)).trans ?_;simpa using(List.perm_middle (a:=x) (l₁:=p) (l₂:=r)).symm
theorem ny(l:List α):(eu lt l).Perm l:=by
 unfold eu;exact(List.reverse_perm _).trans (by simpa using OK (lt:=lt) l [])
structure fk (lt:α→α→Bool) (Q:α→Prop):Prop where
 tr:∀ a b c,Q a→Q b→Q c→lt a b=false→lt b c=false→lt a c=false
 BC:∀ a b,Q a→Q b→lt a b=true→lt b a=false
variable {Q:α→Prop}
theorem OL(q:fk lt Q){x:α}(B:Q x):∀{p:List α},(∀ y∈p,Q y)→p.Pairwise (fun a b=>lt a b=false)→(fL lt x p).Pairwise (fun a b=>lt a b=false)
 | [],_,_=>by simp[fL]
 | y::p,J,M=>by
  obtain⟨h1,O⟩:=pt.1 M;have N:=J y cU;have I:∀ z∈p,Q z:=fun z d=>J z (dw _ d);simp only[fL];cases k:lt x y with
  | true =>
   refine pt.2 ⟨fun z d=>?_,OL q B I O⟩;rcases bN.1 ((BB x p).mem_iff.1 d)with rfl|d
   ·exact q.BC _ _ B N k
   ·exact h1 z d
  | false =>
   refine pt.2 ⟨fun z d=>?_,M⟩;rcases bN.1 d with rfl|d
   ·exact k
   ·exact q.tr x y z B N (I z d) k (h1 z d)
theorem OM(q:fk lt Q):∀{r p:List α},(∀ y∈p,Q y)→(∀ y∈r,Q y)→p.Pairwise (fun a b=>lt a b=false)→(iH lt p r).Pairwise (fun a b=>lt a b=false)
 | [],_,_,_,k=>by simpa[iH]using k
 | x::r,p,B,hr,k=>by
  simp only[iH];refine OM q (fun y d=>?_) (fun y d=>hr y (dw _ d)) (OL q (hr x cU) B k);rcases bN.1 ((BB x p).mem_iff.1 d)with rfl|d
  ·exact hr _ cU
  ·exact B y d
theorem xo(d:fk lt Q){l:List α}(k:∀ y∈l,Q y):(eu lt l).Pairwise (fun a b=>lt b a=false):=by
 unfold eu;rw[List.pairwise_reverse];exact OM d (by simp) k List.Pairwise.nil
theorem Gb:∀{l r:List α},l.Perm r→(∀ a∈l,∀ b∈l,lt a b=false→lt b a=false→a=b)→l.Pairwise (fun a b=>lt b a=false)→r.Pairwise (fun a b=>lt b a=false)→l=r
 | [],r,d,_,_,_=>d.nil_eq
 |a::l,[],d,_,_,_=>by simpa using d.length_eq
 | a::l,b::r,d,ha,h1,I=>by
  obtain⟨J,M⟩:=pt.1 h1;obtain⟨N,O⟩:=pt.1 I;have e:a=b:=by
   have hb:b∈a::l:=d.symm.subset cU;have q:a∈b::r:=d.subset cU;rcases bN.1 hb with e|B
   ·exact e.symm
   ·rcases bN.1 q with e | k
    ·exact e
    ·exact ha a cU b hb (N a k) (J b B)
  subst e;rw[Gb ((List.perm_cons a).1 d) (fun x U y V=>ha x (dw _ U) y (dw _ V)) M O]
theorem aaV(d:fk lt Q){l r:List α}(k:l.Perm r)(q:∀ y∈l,Q y)(ha:∀ a∈l,∀ b∈l,lt a b=false→lt b a=false→a=b):eu lt l=eu lt r :=
 Gb ((ny l).trans (k.trans (ny r).symm)) (fun a h b h'=>ha a ((ny l).mem_iff.1 h) b ((ny l).mem_iff.1 h')) (xo d q)
  (xo d fun y B=>q y (k.mem_iff.2 B))
end sort
theorem ON{sp:fK}{tl:List G→Option (Option Nat × List G)}{rows:List (List G)}{clock:Nat}{d:List G}{r:Option Nat × List G}(bF:ls rows clock=true)
  (h:∀ b p,p.Perm rows→sp.side d b=true∧∃ d',cO sp.st sp.a7 p (sp.init d b)=some d'∧tl d'=some r):jG sp tl rows clock d=some r:=by
 unfold jG;rw[bF];refine N3 fun b p k=>?_;obtain⟨h1,d',q,B⟩:=h b p k;rw[h1,cond_true,q];exact B
end Go.AL

namespace Go.AL
open Go
variable [Dr]
section
variable {α:Type} (f:α→Int)
end
section
variable {α:Type} {e:α→α→Bool}
end
end Go.AL

namespace Go.AL
open Go
variable [Dr]
section
variable {K:List Kd} {C:List G→Option (List G)} {Q:List G→Prop} {c:List G→List G→Int}
end
end Go.AL

namespace Go.AL
open Go
variable [Dr]
section
variable {C:List G→Option (List G)} {Q:List G→Prop} {c:List G→List G→Int}
theorem fk.mono{α:Type}{lt:α→α→Bool}{Q q:α→Prop}(h:fk lt Q)(k:∀ a,q a→Q a):fk lt q :=
 ⟨fun a b d ha hb B=>h.tr a b d (k a ha) (k b hb) (k d B),fun a b ha hb=>h.BC a b (k a ha) (k b hb)⟩
theorem Gc{α β:Type}{f:α→β}:∀{l:List α},l.Pairwise (fun a b=>f a≠f b)→∀ a∈l,∀ b∈l,f a=f b→a=b
 | [],_,a,ha,_,_,_=>by cases ha
 | x::l,h,a,ha,b,hb,e=>by
  obtain⟨h1,I⟩:=pt.1 h;rcases bN.1 ha with B|q
  ·rcases bN.1 hb with k | d
   ·rw[B,k]
   ·exact(h1 b d (B▸e)).elim
  ·rcases bN.1 hb with k | d
   ·exact(h1 a q (k▸e.symm)).elim
   ·exact Gc I a q b d e
def rW(C:List G→Option (List G))(Q:List G→Prop)(c:List G→List G→Int):Prop:=∀ r s,Q r→Q s→∃ v,C [.l [r],.l [s]]=some [.i v]∧(v<0↔c r s<0)
theorem oQ.sgn{K:List Kd}(h:oQ K C Q c):rW C Q c:=fun r s hr d=>⟨_,h.cmp r s hr d,Iff.rfl⟩
end
end Go.AL

namespace Go.AL
open Go Go.Proofs
variable [Dr]
variable {C:List G→Option (List G)} {Q:List G→Prop} {c:List G→List G→Int}
theorem OO(hC:rW C Q c){r s:List G}(hr:Q r)(d:Q s):decide (xf C r s<0)=bM c r s:=by
 obtain⟨v,h,k⟩:=hC r s hr d;unfold xf bM;rw[h,dD];show decide (v<0)=_
 rw[mI,decide_eq_true_eq,decide_eq_true_eq];exact k
theorem rX(hC:rW C Q c){rows:List (List G)}(hr:∀ y∈rows,Q y)(h0:rows≠[])(i j:Nat):ltOf (nr C rows) i j=bM c (fW rows i) (fW rows j) :=
 OO hC (hr _ (xg h0 i)) (hr _ (xg h0 j))
theorem aaX(hC:rW C Q c)(k:fk (bM c) Q){rows:List (List G)}(hr:∀ y∈rows,Q y)(h0:rows≠[])(hn:rows.length<100000):rP C rows:=by
 have d:=fun i=>hr _ (xg h0 i);refine⟨fun r h s h'=>by obtain⟨v,e,_⟩:=hC r s (hr r h) (hr s h'); exact⟨v,e⟩,⟨fun x=>?_,fun x y z=>?_,fun x y z=>?_⟩,by omega⟩
 ·rw [rX hC hr h0]
  cases h:bM c (fW rows x) (fW rows x)with
  |false=>rfl
  |true=>rw[k.BC _ _ (d x) (d x) h]at h; cases h
 ·rw [rX hC hr h0, rX hC hr h0, rX hC hr h0]
  intro h1 q;cases h:bM c (fW rows x) (fW rows z)with
  |true=>rfl
  | false =>
   have:=k.tr _ _ _ (d x) (d z) (d y) h (k.BC _ _ (d y) (d z) q);rw[this]at h1;cases h1
 ·rw [rX hC hr h0, rX hC hr h0, rX hC hr h0]
  exact k.tr _ _ _ (d x) (d y) (d z)
theorem aaY(hC:rW C Q c)(k:fk (bM c) Q)(rows:List (List G))(hr:∀ y∈rows,Q y)(hn:rows.length<100000) :
  ∃ out,rR C [.l rows]=some [.l out]∧out.Perm rows∧out.Pairwise fun a b=>bM c b a=false:=by
 unfold rR;have e:(gi [G.l rows] 0).rows=rows:=rfl;rw[e];by_cases h0:rows=[]
 ·rw [if_pos h0, h0]
  exact⟨[],rfl,pq _,List.Pairwise.nil⟩
 ·have bF := aaX hC k hr h0 hn
  rw[if_neg h0,if_pos bF];have d:=Ou bF;refine⟨_,rfl,d,?_⟩;refine amN ?_ (aaC bF);intro a b h1 q h;rw[←OO hC (hr b (d.mem_iff.1 q)) (hr a (d.mem_iff.1 h1)),decide_eq_false_iff_not];exact h
theorem OP(hC:rW C Q c)(k:fk (bM c) Q)(rows:List (List G))(hr:∀ y∈rows,Q y)(hn:rows.length<100000)(ha:∀ a∈rows,∀ b∈rows,bM c a b=false→bM c b a=false→a=b) :
  rR C [.l rows]=some [.l (eu (bM c) rows)]:=by
 obtain⟨out,h,d,q⟩:=aaY hC k rows hr hn;rw[h,Gb (d.trans (ny (lt:=bM c) rows).symm) (fun a h1 b B=>ha a (d.mem_iff.1 h1) b (d.mem_iff.1 B)) q (xo k hr)]
end Go.AL

namespace Go.AL
open Go
variable [Dr]
noncomputable abbrev xp(r:List G):Int:=(gi r 0).int
noncomputable abbrev rY(r:List G):Int:=(gi r 1).int
def IsR(r:List G):Prop:=r=[.i (xp r),.i (rY r)]∧xp r<rY r
def OQ(l:List (List G))(n:Int):Prop:=∃ r∈l,xp r≤n∧n<rY r
def aa0(l:List (List G)):Prop:=(∀ r∈l,IsR r)∧l.Pairwise fun r s=>rY r<xp s
structure amA (out:List (List G)) (a b:Int) (os:List (List G)) (ps:List (List G)) (f:Int):Prop where
 low:a≤f
 at_:f=a∨∃ o∈os,f=rY o
 past:∀ o∈os,rY o≤f∨b≤xp o
 mem:∀ n,OQ ps n↔a≤n∧n<f∧n<b∧¬ OQ os n
 can:aa0 (out++ps)
 gap:∀ s∈out++ps,rY s<f
 many:ps.length≤os.length
end Go.AL
