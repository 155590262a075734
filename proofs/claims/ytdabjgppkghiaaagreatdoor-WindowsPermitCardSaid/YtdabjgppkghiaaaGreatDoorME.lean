/-
 What is proved here: rules by which lifted functions are shown to give what they should. No program in sight; no condition.
-/
import Derived.Test.YtdabjgppkghiaaaGreatDoorMD
import Derived.Test.YtdabjgppkghiaaaGreatDoorMH
set_option linter.all false
open Int renaming le_refl→p6
open List renaming length_cons→dZ,getElem?_eq_getElem→bC,getD_eq_getElem?_getD→cD,mem_cons→bN,mem_append→bQ,mem_cons_self→cW,mem_cons_of_mem→da,mem_append_left→kA,mem_singleton→gL,length_nil→tv
open List.Pairwise renaming imp_of_mem→X9
open List.Perm renaming refl→pZ
open Nat renaming beq→ah
namespace Go.AL
open Go
variable [Dr]
def aa{β:Type}(x:Option β)(Q:β→Prop):Prop:=∃ r,x=some r∧Q r
def gH(st:List G→Option (Option Nat × List G))(d:List G)(Q:Nat→List G→Prop):Prop:=∃ n x d',jF st n d x d'∧n≤1000000∧Q x d'
namespace aa
variable {β:Type} {Q:β→Prop}
theorem some{r:β}(h:Q r):aa (some r) Q:=⟨r,rfl,h⟩
theorem pos{b:Bool}{x y:Option β}(h:b=true)(a:aa x Q):aa (bif b then x else y) Q:=by subst h; exact a
theorem neg{b:Bool}{x y:Option β}(h:b=false)(a:aa y Q):aa (bif b then x else y) Q:=by subst h; exact a
theorem test{b:Bool}{x y:Option β}(a:b=true→aa x Q)(d:b=false→aa y Q):aa (bif b then x else y) Q:=by
 cases b with
 |true=>exact a rfl
 |false=>exact d rfl
theorem call{t:Option (List G)}{k:List G→Option β}{P:List G→Prop}(h:aa t P)(hk:∀ g,P g→aa (k g) Q):aa (aA t k) Q:=by
 obtain⟨r,h,a⟩:=h;subst h;exact hk r a
theorem nE{c:Bool}{t:Option (List G)}{k:List G→Option β}{P:List G→Prop}(h:aa t P)(a:c=true)(hk:∀ g,P g→aa (k g) Q):aa (hG (c&&t.isSome) t k) Q:=by
 obtain⟨r,h,b⟩:=h;subst h a;exact hk r b
theorem loop{c:Bool}{st:List G→Option (Option Nat × List G)}{d:List G}{k:Nat→List G→Option β}{P:Nat→List G→Prop}(h:gH st d P)(a:c=true)(hk:∀ x g,P x g→aa (k x g) Q):aa (bD c (cf st d) k) Q:=by
 obtain⟨n,x,d',h,b,i⟩:=h;rw[h.O6 b];subst a;exact hk x d' i
theorem tail{c:Bool}{t:Option (Option Nat × List G)}{k:Nat→List G→Option β}{P:Nat→List G→Prop}(h:aa t fun o=>∃ x,o.1=Option.some x∧P x o.2)(b:c=true)(hk:∀ x g,P x g→aa (k x g) Q) :
  aa (bD c (dR t) k) Q:=by
 obtain⟨⟨o,d⟩,rfl,x,a,i⟩:=h;simp only at a;subst a b;exact hk x d i
theorem mono{x:Option β}{P:β→Prop}(h:aa x P)(a:∀ r,P r→Q r):aa x Q:=by
 obtain⟨r,h,b⟩:=h;exact⟨r,h,a r b⟩
theorem eq{x:Option β}{r:β}(h:x=Option.some r):aa x (fun g=>g=r):=⟨r,h,rfl⟩
theorem toEq{x:Option β}{r:β}(h:aa x (fun g=>g=r)):x=Option.some r:=by
 obtain⟨r',h,rfl⟩:=h;exact h
end aa
theorem gH.stop{st:List G→Option (Option Nat × List G)}{d d':List G}{x:Nat}{Q:Nat→List G→Prop}(h:st d=some (some x,d'))(a:Q x d'):gH st d Q:=⟨1,x,d',.stop h,by omega,a⟩
def dI(st:List G→Option (Option Nat × List G))(d:List G)(m:Nat)(Q:Nat→List G→Prop):Prop:=∃ n x d',jF st n d x d'∧n≤m∧Q x d'
theorem dI.stop{st:List G→Option (Option Nat × List G)}{d d':List G}{x m:Nat}{Q:Nat→List G→Prop}(h:st d=some (some x,d'))(a:Q x d'):dI st d (m+1) Q:=⟨1,x,d',.stop h,by omega,a⟩
theorem dI.next{st:List G→Option (Option Nat × List G)}{d d1:List G}{m:Nat}{Q:Nat→List G→Prop}(h:st d=some (none,d1))(hr:dI st d1 m Q):dI st d (m+1) Q:=by
 obtain⟨n,x,d',h1,b,a⟩:=hr;exact⟨n+1,x,d',.next h h1,by omega,a⟩
theorem dI.to{st:List G→Option (Option Nat × List G)}{d:List G}{m:Nat}{Q:Nat→List G→Prop}(h:dI st d m Q)(hm:m≤1000000):gH st d Q:=by
 obtain⟨n,x,d',h1,b,a⟩:=h;exact⟨n,x,d',h1,by omega,a⟩
theorem gH.mono{st:List G→Option (Option Nat × List G)}{d:List G}{P Q:Nat→List G→Prop}(h:gH st d P)(a:∀ x g,P x g→Q x g):gH st d Q:=by
 obtain⟨n,x,d',h1,b,i⟩:=h;exact⟨n,x,d',h1,b,a _ _ i⟩
theorem dI.mono{st:List G→Option (Option Nat × List G)}{d:List G}{m:Nat}{P Q:Nat→List G→Prop}(h:dI st d m P)(a:∀ x g,P x g→Q x g):dI st d m Q:=by
 obtain⟨n,x,d',h1,b,i⟩:=h;exact⟨n,x,d',h1,b,a _ _ i⟩
theorem Qf{p:Prop}{i:Decidable p}:(@decide p i=true)↔p:=by simp
theorem Qg{p:Prop}{i:Decidable p}:(@decide p i=false)↔¬ p:=by simp
theorem Qh{a b:Nat}:ah a b=true↔a=b:=⟨Nat.eq_of_beq_eq_true,fun h=>h▸Nat.beq_refl a⟩
theorem Aa(a:G)(l:List G):gi (a::l) 0=a:=rfl
theorem Ab(a:G)(l:List G)(i:Nat):gi (a::l) (i+1)=gi l i:=rfl
theorem Ac(r:List G)(l:List (List G)):(G.l (r::l)).row=r:=rfl
theorem Ad(l:List (List G)):(G.l l).rows=l:=rfl
theorem Ae(n:Int):(G.i n).int=n:=rfl
theorem Af(s:ByteArray):(G.s s).str=s:=rfl
theorem Ag(b:Bool):(G.t b).bool=b:=rfl
theorem sl:(∀ a b:Int,au a b=decide (a<b))∧(∀ a b:Int,aZ a b=decide (a≤b))∧(∀ n:Int,aO n=decide (0≤n))∧(∀ b:Bool,(b&&true)=b)∧(∀ b:Bool,(true&&b)=b) ∧
  (∀ a b:Bool,((a&&b)=true)=(a=true∧b=true))∧(∀ a b:Bool,((a&&b)=false)=(a=false∨b=false))∧(∀(p:Prop) (i:Decidable p),(@decide p i=true)=p)∧(∀(p:Prop) (i:Decidable p),(@decide p i=false)=¬ p) ∧
  (∀ b:Bool,((!b)=true)=(b=false))∧(∀ b:Bool,((!b)=false)=(b=true))∧(∀ a b:Int,((a==b)=true)=(a=b))∧(∀ a b:Int,((a==b)=false)=¬ (a=b))∧(∀ a b:Int,((a != b)=true)=¬ (a=b))∧(∀ a b:Int,((a != b)=false)=(a=b)) ∧
  (∀(α:Type) (a b:α),(a≠b)=¬ (a=b))∧(∀ a b:Nat,(ah a b=true)=(a=b))∧(∀ a b:Nat,(Nat.ble a b=true)=(a≤b))∧(∀ a b:Nat,(Nat.blt a b=true)=(a<b)) ∧
  (∀(l:List (List G)) (i:Nat) (x:List G),(l.set i x).length=l.length)∧(∀(α:Type) (l r:List α),(l++r).length=l.length+r.length)∧(∀(n:Nat) (x:List G),(List.replicate n x).length=n) ∧
  (∀(α:Type) (x:α) (l:List α),(x::l).length=l.length+1)∧(∀ α:Type,([]:List α).length=0)∧(∀(l:List (List G)) (n:Nat),(l.take n).length=min n l.length)∧(∀(l:List (List G)) (n:Nat),(l.drop n).length=l.length-n) ∧
  (∀ n:Nat,((n:Int)).toNat=n)∧(∀ p:Prop,(True∧p)=p)∧(∀ p:Prop,(p∧True)=p)∧(∀ a b:Bool,((a==b)=true)=(a=b)) :=
 ⟨eu, dp, jy, Bool.and_true, Bool.true_and, Bool.and_eq_true, fun a b => by cases a <;> cases b <;> simp, fun _ _ => propext Qf, fun _ _ => propext Qg, fun b => by cases b <;> simp, fun b => by cases b <;> simp,
  fun a b=>by simp,fun a b=>by simp,fun a b=>by simp,fun a b=>by simp,fun _ a b=>rfl,fun a b=>propext Qh,fun a b=>by simp,fun a b=>by simp,fun l i x=>List.length_set,fun _ l r=>List.length_append,fun n x=>List.length_replicate,
  fun _ x l=>rfl,fun _=>rfl,fun l n=>List.length_take,fun l n=>List.length_drop,fun n=>Int.toNat_natCast n,fun p=>true_and p,fun p=>and_true p,fun a b=>by cases a<;>cases b<;>simp⟩
theorem aa.p{β:Type}{Q:β→Prop}{b:Bool}{x y:Option β}(a:aa x Q)(h:b=true:=by first|rfl|assumption|(simp only[ar,sl]<;>omega)):aa (bif b then x else y) Q:=aa.pos h a
theorem aa.n{β:Type}{Q:β→Prop}{b:Bool}{x y:Option β}(a:aa y Q)(h:b=false:=by first|rfl|assumption|(simp only[ar,sl]<;>omega)):aa (bif b then x else y) Q:=aa.neg h a
theorem aa.cE{β:Type}{Q:β→Prop}{t:Option (List G)}{r:List G}{k:List G→Option β}(h:t=Option.some r)(hk:aa (k r) Q):aa (aA t k) Q:=aa.call (aa.eq h) fun _ e=>by subst e; exact hk

end Go.AL

namespace Go.AL
open Go
variable [Dr]
theorem rX{σ:Type}{st:List G→Option (Option Nat × List G)}(mk:σ→Nat→List G)(n:Nat)(fin:σ→Nat × List G)(I:σ→Nat→Prop)(E:Nat→List G→Prop)
  (b:∀ s i,I s i→i<n→aa (st (mk s i)) fun o=>(∃ s',o=(none,mk s' (i+1))∧I s' (i+1))∨∃ c g,o=(some c,g)∧E c g)
  (d:∀ s,I s n→aa (st (mk s n)) fun o=>o=(some (fin s).1,(fin s).2)) :
  ∀(k:Nat) (s:σ) (i:Nat),i+k=n→I s i→dI st (mk s i) (k+1) fun c g=>(∃ s',I s' n∧c=(fin s').1∧g=(fin s').2)∨E c g
 | 0,s,i,hi,a=>by
  have e:i=n:=hi;subst e;obtain⟨o,h,rfl⟩:=d s a;exact dI.stop h (.inl ⟨s,a,rfl,rfl⟩)
 | k+1,s,i,hi,a=>by
  obtain⟨o,h,⟨s',rfl,l⟩|⟨c,g,rfl,q⟩⟩:=b s i a (by omega)
  ·exact dI.next h (rX mk n fin I E b d k s' (i+1) (by omega) l)
  ·exact dI.stop h (.inr q)
theorem k_{rows:List (List G)}{i:Nat}(h:i<rows.length):rows.getD i []∈rows:=by
 rw[cD,bC h];exact List.getElem_mem h
theorem Qi{rows:List (List G)}{i:Nat}(h:i<rows.length):rows.take (i+1)=rows.take i++[rows.getD i []]:=by
 rw[List.take_add_one,cD,bC h];rfl
theorem GN{σ:Type}{st:List G→Option (Option Nat × List G)}(mk:σ→Nat→List G)(rows:List (List G))(fin:σ→Nat × List G)(I:σ→Nat→Prop)(E:Nat→List G→Prop)(s:σ)
  (hlen:rows.length<999999) (h0:I s 0)
  (a:∀ s i x,I s i→i<rows.length→rows.getD i []=x→x∈rows→rows.take (i+1)=rows.take i++[x]→aa (st (mk s i)) fun o=>(∃ s',o=(none,mk s' (i+1))∧I s' (i+1))∨∃ c g,o=(some c,g)∧E c g)
  (b:∀ s,I s rows.length→aa (st (mk s rows.length)) fun o=>o=(some (fin s).1,(fin s).2)) :
  gH st (mk s 0) fun c g=>(∃ s',I s' rows.length∧c=(fin s').1∧g=(fin s').2)∨E c g :=
 (rX mk rows.length fin I E (fun s i d hi=>a s i _ d hi rfl (k_ hi) (Qi hi)) b rows.length s 0 (by omega) h0).to (by omega)
theorem Am{σ:Type}{st:List G→Option (Option Nat × List G)}(mk:σ→Nat→List G)(rows:List (List G))(fin:σ→Nat × List G)(I:σ→Nat→Prop)(s:σ)
  (hlen:rows.length<999999) (h0:I s 0)
  (k:∀ s i x,I s i→i<rows.length→rows.getD i []=x→x∈rows→rows.take (i+1)=rows.take i++[x]→aa (st (mk s i)) fun o=>∃ s',o=(none,mk s' (i+1))∧I s' (i+1))
  (l:∀ s,I s rows.length→aa (st (mk s rows.length)) fun o=>o=(some (fin s).1,(fin s).2)) :
  gH st (mk s 0) fun c g=>∃ s',I s' rows.length∧c=(fin s').1∧g=(fin s').2 :=
 (GN mk rows fin I (fun _ _=>False) s hlen h0 (fun s i x a b c d e=>(k s i x a b c d e).mono fun _ h=>.inl h) l).mono fun _ _ h=>h.elim id False.elim
end Go.AL

namespace Go.AL
open Go
variable [Dr]
theorem vZ(ks:List Kd)(key:List G):∀(rows:List (List G)) (i:Nat),cA ks key rows i=(cA ks key rows 0).map fun p=>(p.1+i,p.2)
 | [],i=>rfl
 | r::rs,i=>by
  simp only[cA];cases gS ks key (gi r 0).row with
  |true=>simp
  | false =>
   simp only[cond_false];rw[vZ ks key rs (i+1),vZ ks key rs (0+1),Option.map_map];congr 1
   funext p
   simp;omega
theorem Qj(ks:List Kd)(key:List G):gf ks [] key=false:=rfl
theorem GO(ks:List Kd)(r:List G)(rs:List (List G))(key:List G):gf ks (r::rs) key=(gS ks key (gi r 0).row||gf ks rs key):=by
 unfold gf;simp only[cA];cases gS ks key (gi r 0).row with
 |true=>rfl
 | false =>
  simp only[cond_false];rw[vZ ks key rs (0+1)];cases cA ks key rs 0<;>rfl
theorem Qk(ks:List Kd)(key val:List G)(c:Nat):fB ks [] key val c=[[.l [key],.l [val],.i c]]:=rfl
theorem Ql(ks:List Kd)(r:List G)(rs:List (List G))(key val:List G)(c:Nat) :
  fB ks (r::rs) key val c=bif gS ks key (gi r 0).row then [.l [key],.l [val],.i (gi r 2).int]::rs else r::fB ks rs key val c:=by
 unfold fB;simp only[cA];cases gS ks key (gi r 0).row with
 |true=>rfl
 | false =>
  simp only[cond_false];rw[vZ ks key rs (0+1)];cases cA ks key rs 0<;>rfl
end Go.AL

namespace Go.AL
open Go
variable [Dr]
def rY(K:List Kd)(C:List G→Option (List G))(d:List G):Option (Option Nat × List G) :=
 (bif (au (gi d 1).int (gi d 4).int) then (bif ((aO (gi d 4).int)&&(au (gi d 4).int (((gi d 0).rows.length:Nat):Int))) then (bif (decide ((0+((gi d 4).int).toNat)<(gi d 0).rows.length)) then (bif (ar ((gi d 4).int-1)) then (bif ((aO ((gi d 4).int-1))&&(au ((gi d 4).int-1) (((gi d 0).rows.length:Nat):Int))) then (bif (decide ((0+((gi d 4).int-1).toNat)<(gi d 0).rows.length)) then (aA (C [.l [(bM K ((gi d 0).rows.getD (0+((gi d 4).int).toNat) []))],.l [(bM K ((gi d 0).rows.getD (0+((gi d 4).int-1).toNat) []))]]) fun g1=>(bif (au (gi g1 0).int 0) then (bif (ar ((gi d 4).int-1)) then (bif (ar ((gi d 4).int-1)) then (bif ((aO ((gi d 4).int-1))&&(au ((gi d 4).int-1) (((gi d 0).rows.length:Nat):Int))) then (bif (decide ((0+((gi d 4).int-1).toNat)<(gi d 0).rows.length)) then (bif ((aO (gi d 4).int)&&(au (gi d 4).int (((gi d 0).rows.length:Nat):Int))) then (bif (decide ((0+((gi d 4).int).toNat)<(gi d 0).rows.length)) then (bif ((aO (gi d 4).int)&&(au (gi d 4).int (((gi d 0).rows.length:Nat):Int))) then (bif (decide ((0+((gi d 4).int).toNat)<(gi d 0).rows.length)) then (bif ((aO ((gi d 4).int-1))&&(au ((gi d 4).int-1) (((gi d 0).rows.length:Nat):Int))) then (bif (decide ((0+((gi d 4).int-1).toNat)<((gi d 0).rows.set (0+((gi d 4).int).toNat) (bT K ((gi d 0).rows.getD (0+((gi d 4).int).toNat) []) 0 (bM K ((gi d 0).rows.getD (0+((gi d 4).int-1).toNat) [])))).length)) then (bif (ar ((gi d 4).int-1)) then (bif ((ah (gi d 0).rows.length (((gi d 0).rows.set (0+((gi d 4).int).toNat) (bT K ((gi d 0).rows.getD (0+((gi d 4).int).toNat) []) 0 (bM K ((gi d 0).rows.getD (0+((gi d 4).int-1).toNat) [])))).set (0+((gi d 4).int-1).toNat) (bT K (((gi d 0).rows.set (0+((gi d 4).int).toNat) (bT K ((gi d 0).rows.getD (0+((gi d 4).int).toNat) []) 0 (bM K ((gi d 0).rows.getD (0+((gi d 4).int-1).toNat) [])))).getD (0+((gi d 4).int-1).toNat) []) 0 (bM K ((gi d 0).rows.getD (0+((gi d 4).int).toNat) [])))).length)&&true) then some (none,[.l (((gi d 0).rows.set (0+((gi d 4).int).toNat) (bT K ((gi d 0).rows.getD (0+((gi d 4).int).toNat) []) 0 (bM K ((gi d 0).rows.getD (0+((gi d 4).int-1).toNat) [])))).set (0+((gi d 4).int-1).toNat) (bT K (((gi d 0).rows.set (0+((gi d 4).int).toNat) (bT K ((gi d 0).rows.getD (0+((gi d 4).int).toNat) []) 0 (bM K ((gi d 0).rows.getD (0+((gi d 4).int-1).toNat) [])))).getD (0+((gi d 4).int-1).toNat) []) 0 (bM K ((gi d 0).rows.getD (0+((gi d 4).int).toNat) [])))),.i (gi d 1).int,.i (gi d 2).int,.i (gi d 3).int,.i ((gi d 4).int-1)]) else none) else none) else none) else none) else none) else none) else none) else none) else none) else none) else none) else none) else (bif ((ah (gi d 0).rows.length (gi d 0).rows.length)&&true) then some (some 0,[.l (gi d 0).rows,.i (gi d 1).int,.i (gi d 2).int,.i (gi d 3).int]) else none))) else none) else none) else none) else none) else none) else (bif ((ah (gi d 0).rows.length (gi d 0).rows.length)&&true) then some (some 0,[.l (gi d 0).rows,.i (gi d 1).int,.i (gi d 2).int,.i (gi d 3).int]) else none))
def po(K:List Kd)(C:List G→Option (List G))(d:List G):Option (Option Nat × List G) :=
 (bif (au (gi d 3).int (gi d 2).int) then (bD ((ah (gi d 0).rows.length (gi d 0).rows.length)&&true) (cf (rY K C) [.l (gi d 0).rows,.i (gi d 1).int,.i (gi d 2).int,.i (gi d 3).int,.i (gi d 3).int]) fun a g2=>(bif (ar ((gi g2 3).int+1)) then (bif ((ah (gi g2 0).rows.length (gi g2 0).rows.length)&&true) then some (none,[.l (gi g2 0).rows,.i (gi g2 1).int,.i (gi g2 2).int,.i ((gi g2 3).int+1)]) else none) else none)) else some (some 0,[.l (gi d 0).rows]))
def ke(K:List Kd)(C:List G→Option (List G))(d:List G):Option (List G) :=
 (bif (ar ((gi d 1).int+1)) then (bD ((ah (gi d 0).rows.length (gi d 0).rows.length)&&true) (cf (po K C) [.l (gi d 0).rows,.i (gi d 1).int,.i (gi d 2).int,.i ((gi d 1).int+1)]) fun a g3=>some [.l (gi g3 0).rows]) else none)
def nF(K:List Kd)(C:List G→Option (List G))(d:List G):Option (Option Nat × List G) :=
 (bif (aZ (gi d 4).int (gi d 1).int) then (hG (((ah (gi d 0).rows.length (gi d 0).rows.length)&&true)&&((ke K C) [.l (gi d 0).rows,.i (gi d 3).int,.i (gi d 4).int]).isSome) ((ke K C) [.l (gi d 0).rows,.i (gi d 3).int,.i (gi d 4).int]) fun g1=>(bif (ar ((gi d 4).int+(gi d 2).int)) then (bif ((ah (gi d 0).rows.length (gi g1 0).rows.length)&&true) then some (none,[.l (gi g1 0).rows,.i (gi d 1).int,.i (gi d 2).int,.i (gi d 4).int,.i ((gi d 4).int+(gi d 2).int)]) else none) else none)) else (bif ((ah (gi d 0).rows.length (gi d 0).rows.length)&&true) then some (some 0,[.l (gi d 0).rows,.i (gi d 1).int,.i (gi d 2).int,.i (gi d 3).int]) else none))
def Qm(K:List Kd)(C:List G→Option (List G))(d:List G):Option (Option Nat × List G) :=
 (bif (aZ (gi d 4).int (gi d 1).int) then (bif (ar ((gi d 3).int+(gi d 2).int)) then none else none) else (bif ((ah (gi d 0).rows.length (gi d 0).rows.length)&&true) then some (some 0,[.l (gi d 0).rows,.i (gi d 1).int,.i (gi d 2).int,.i (gi d 3).int]) else none))
def An(K:List Kd)(C:List G→Option (List G))(d:List G):Option (Option Nat × List G) :=
 (bif (au (gi d 2).int (gi d 1).int) then (bif (ar (2*(gi d 2).int)) then (bD ((ah (gi d 0).rows.length (gi d 0).rows.length)&&true) (cf (Qm K C) [.l (gi d 0).rows,.i (gi d 1).int,.i (gi d 2).int,.i 0,.i (2*(gi d 2).int)]) fun a g4=>(bif (ar ((gi g4 3).int+(gi g4 2).int)) then (bif (au ((gi g4 3).int+(gi g4 2).int) (gi g4 1).int) then none else (bif (ar ((gi g4 2).int*2)) then (bif ((ah (gi g4 0).rows.length (gi g4 0).rows.length)&&true) then some (none,[.l (gi g4 0).rows,.i (gi g4 1).int,.i ((gi g4 2).int*2)]) else none) else none)) else none)) else none) else some (some 0,[.l (gi d 0).rows]))
def v7(K:List Kd)(C:List G→Option (List G))(d:List G):Option (List G) :=
 (bD ((ah (gi d 0).rows.length (gi d 0).rows.length)&&true) (cf (nF K C) [.l (gi d 0).rows,.i (gi d 1).int,.i 20,.i 0,.i 20]) fun a g2=>(hG (((ah (gi g2 0).rows.length (gi g2 0).rows.length)&&true)&&((ke K C) [.l (gi g2 0).rows,.i (gi g2 3).int,.i (gi g2 1).int]).isSome) ((ke K C) [.l (gi g2 0).rows,.i (gi g2 3).int,.i (gi g2 1).int]) fun g3=>(bD ((ah (gi g2 0).rows.length (gi g3 0).rows.length)&&true) (cf (An K C) [.l (gi g3 0).rows,.i (gi g2 1).int,.i (gi g2 2).int]) fun b g5=>some [.l (gi g5 0).rows])))
def GP(K:List Kd)(C:List G→Option (List G))(d:List G):Option (List G) :=
 (hG (((ah (gi d 0).rows.length (gi d 0).rows.length)&&true)&&((v7 K C) [.l (gi d 0).rows,.i (((gi d 0).rows.length:Nat):Int)]).isSome) ((v7 K C) [.l (gi d 0).rows,.i (((gi d 0).rows.length:Nat):Int)]) fun g1=>some [.l (gi g1 0).rows])
theorem Ao{α:Type}(l:List α)(x:α)(q:List α)(z:α)(n:Nat)(h:n=l.length):(l++x::q).getD n z=x:=by subst h; simp
theorem GQ{α:Type}(l:List α)(x y:α)(q:List α)(n:Nat)(h:n=l.length):(l++x::q).set n y=l++y::q:=by subst h; simp
def iG{α:Type}(lt:α→α→Bool)(x:α):List α→List α
 | []=>[x]
 |y::p=>bif lt x y then y::iG lt x p else x::y::p
def mo{α:Type}(lt:α→α→Bool):List α→List α→List α
 |p,[]=>p
 |p,x::r=>mo lt (iG lt x p) r
def h_{α:Type}(lt:α→α→Bool)(l:List α):List α:=(mo lt [] l).reverse
theorem v8{α:Type}(lt:α→α→Bool)(x:α):∀ p,(iG lt x p).length=p.length+1
 | []=>rfl
 | y::p=>by
  simp only[iG];cases lt x y with
  |true=>simp[v8 lt x p]
  |false=>simp
theorem Ap{α:Type}{Q:α→Prop}{lt:α→α→Bool}{x:α}(b:Q x):∀{p:List α},(∀ y∈p,Q y)→∀ y∈iG lt x p,Q y
 | [],_,y,a=>by simp[iG]at a; exact a▸b
 | z::p,d,y,a=>by
  simp only[iG]at a;cases g:lt x z with
  | true =>
   rw[g]at a;rcases bN.1 a with rfl|a
   ·exact d _ cW
   ·exact Ap b (fun y a=>d y (da _ a)) y a
  | false =>
   rw[g]at a;rcases bN.1 a with rfl|a
   ·exact b
   ·exact d y a
theorem GR{α:Type}(lt:α→α→Bool):∀(p r:List α),(mo lt p r).length=p.length+r.length
 |p,[]=>rfl
 |p,x::r=>by simp only[mo,GR lt,v8,dZ]; omega
theorem GS{α:Type}{Q:α→Prop}{lt:α→α→Bool}:∀{r p:List α},(∀ y∈p,Q y)→(∀ y∈r,Q y)→∀ y∈mo lt p r,Q y
 | [],_,a,_=>a
 | x::r,p,a,hr=>by
  simp only[mo];exact GS (Ap (hr x cW) a) fun y b=>hr y (da _ b)
theorem GU{α:Type}(lt:α→α→Bool)(l:List α):(h_ lt l).length=l.length:=by simp[h_,GR]
theorem Qn{α:Type}{Q:α→Prop}{lt:α→α→Bool}{l:List α}(h:∀ y∈l,Q y):∀ y∈h_ lt l,Q y:=by
 intro y a;exact GS (p:=[]) (by simp) h y (by simpa[h_]using a)
theorem Aq:∀(K:List Kd) (r:List G),(bM K r).length=K.length
 | [],_=>rfl
 |k::K,r=>by simp[bM,Aq K]
theorem GV{K:List Kd}{r gs:List G}(h:gs.length=K.length):bT K r 0 gs=gs:=by
 simp[bT,h,yD,List.drop_eq_nil_of_le]
section
variable {K:List Kd} {C:List G→Option (List G)} {Q:List G→Prop} {c:List G→List G→Int}
structure pq (K:List Kd) (C:List G→Option (List G)) (Q:List G→Prop) (c:List G→List G→Int):Prop where
 cmp:∀ r s,Q r→Q s→C [.l [r],.l [s]]=some [.i (c r s)]
 eta:∀ r,Q r→bM K r=r
def c5(c:List G→List G→Int)(r s:List G):Bool:=au (c r s) 0
theorem GW(a:pq K C Q c):∀(p q:List (List G)) (x:List G) (b i:Int) (j:Nat),(∀ y∈p,Q y)→Q x→p.length<1000000→j=p.length →
  ∃ m,m≤p.length+1∧jF (rY K C) m [.l (p.reverse++x::q),.i 0,.i b,.i i,.i (j:Int)] 0 [.l ((iG (c5 c) x p).reverse++q),.i 0,.i b,.i i]
 | [],q,x,b,i,j,_,_,_,d=>by
  simp only[tv]at d;subst d;refine⟨1,by simp,.stop (aa.toEq ?_)⟩;unfold rY
  (dsimp +instances only[Aa,Ab,Ac,Ad,Ae,Af,Ag])
  refine aa.n (aa.p (aa.some ?_));rfl
 | y::p,q,x,b,i,j,t,g,A,d=>by
  have k:=t y cW;have u:(y::p).reverse++x::q=(p.reverse++[y])++x::q:=by simp
  have B:(y::p).reverse++x::q=p.reverse++y::x::q:=by simp
  simp only[dZ]at A d;have g1:((y::p).reverse++x::q).getD (0+(j:Int).toNat) []=x:=by rw[u]; exact Ao _ _ _ _ _ (by simp[d])
  have g2:((y::p).reverse++x::q).getD (0+((j:Int)-1).toNat) []=y:=by rw[B]; exact Ao _ _ _ _ _ (by simp[d])
  have hlen:((y::p).reverse++x::q).length=p.length+q.length+2:=by simp; omega
  have r:=a.cmp x y g k;cases h:c5 c x y with
  | false =>
   refine⟨1,by simp,.stop (aa.toEq ?_)⟩;unfold rY
   (dsimp +instances only[Aa,Ab,Ac,Ad,Ae,Af,Ag])
   simp only[hlen,g1,g2,a.eta x g,a.eta y k];refine aa.p (aa.p (aa.p (aa.p (aa.p (aa.p (aa.call (aa.eq r) ?_))))));rintro _ rfl
   (dsimp +instances only[Aa,Ab,Ac,Ad,Ae,Af,Ag])
   refine aa.neg h (aa.p (aa.some ?_));simp[iG,h]
  | true =>
   obtain⟨m,hm,hr⟩:=GW a p (y::q) x b i (j-1) (fun z D=>t z (da _ D)) g (by omega) (by omega);refine⟨m+1,by simp; omega,.next (aa.toEq ?_) (by
    have e:(iG (c5 c) x (y::p)).reverse++q=(iG (c5 c) x p).reverse++y::q:=by simp[iG,h]
    rw[e]; exact hr)⟩
   have s1:((y::p).reverse++x::q).set (0+(j:Int).toNat) y=p.reverse++y::y::q:=by
    rw[u,GQ _ _ _ _ _ (by simp[d])]; simp
   have s2:(p.reverse++y::y::q).set (0+((j:Int)-1).toNat) x=p.reverse++x::y::q:=GQ _ _ _ _ _ (by simp[d]);have v:(p.reverse++y::y::q).length=p.length+q.length+2:=by simp; omega
   have w:(p.reverse++x::y::q).length=p.length+q.length+2:=by simp; omega
   have I:y.length=K.length:=by rw[←a.eta y k,Aq]
   have J:x.length=K.length:=by rw[←a.eta x g,Aq]
   unfold rY
   (dsimp +instances only[Aa,Ab,Ac,Ad,Ae,Af,Ag])
   simp only[hlen,g1,g2,a.eta x g,a.eta y k,GV I,GV J,s1,s2,v,w];refine aa.p (aa.p (aa.p (aa.p (aa.p (aa.p (aa.call (aa.eq r) ?_))))));rintro _ rfl
   (dsimp +instances only[Aa,Ab,Ac,Ad,Ae,Af,Ag])
   refine aa.pos h ?_;refine aa.p (aa.p (aa.p (aa.p (aa.p (aa.p (aa.p (aa.p (aa.p (aa.p (aa.p (aa.p (aa.some ?_))))))))))));congr;omega
theorem GX(b:pq K C Q c):∀(r p:List (List G)) (i n:Nat),(∀ y∈p,Q y)→(∀ y∈r,Q y)→i=p.length→n=p.length+r.length→n<100000 →
  ∃ m,m≤r.length+1∧jF (po K C) m [.l (p.reverse++r),.i 0,.i (n:Int),.i (i:Int)] 0 [.l (mo (c5 c) p r).reverse]
 | [],p,i,n,_,_,hi,a,hs=>by
  refine⟨1,by simp,.stop (aa.toEq ?_)⟩;simp only[tv]at a;unfold po
  (dsimp +instances only[Aa,Ab,Ac,Ad,Ae,Af,Ag])
  refine aa.n (aa.some ?_);simp[mo]
 | x::r,p,i,n,d,hr,hi,a,hs=>by
  simp only[dZ]at a;obtain⟨m1,q,h1⟩:=GW b p r x (n:Int) (i:Int) i d (hr x cW) (by omega) hi;obtain⟨m,hm,h⟩:=GX b r (iG (c5 c) x p) (i+1) n (Ap (hr x cW) d) (fun y k=>hr y (da _ k)) (by rw[v8,hi]) (by rw[v8]; omega) hs;refine⟨m+1,by simp; omega,.next (aa.toEq ?_) h⟩;unfold po
  (dsimp +instances only[Aa,Ab,Ac,Ad,Ae,Af,Ag])
  refine aa.p (aa.loop (P:=fun x g=>g=_) ⟨m1,0,_,h1,by omega,rfl⟩ (by(first|rfl|assumption|(simp only[ar,sl]<;>omega))) ?_);rintro _ _ rfl
  (dsimp +instances only[Aa,Ab,Ac,Ad,Ae,Af,Ag])
  refine aa.p (aa.p (aa.some ?_));rfl
theorem Qo(a:pq K C Q c)(rows:List (List G))(hr:∀ y∈rows,Q y)(b:rows.length<100000):ke K C [.l rows,.i 0,.i (rows.length:Int)]=some [.l (h_ (c5 c) rows)]:=by
 refine aa.toEq ?_;unfold ke
 (dsimp +instances only[Aa,Ab,Ac,Ad,Ae,Af,Ag])
 refine aa.p ?_;cases rows with
 | nil =>
  refine aa.loop (P:=fun x g=>g=[.l []]) ⟨1,0,_,.stop (aa.toEq (?_:aa _ (fun g=>g=(some 0,[G.l []])))),by omega,rfl⟩ (by(first|rfl|assumption|(simp only[ar,sl]<;>omega))) ?_
  ·unfold po
   (dsimp +instances only[Aa,Ab,Ac,Ad,Ae,Af,Ag])
   exact aa.n (aa.some rfl)
  ·rintro _ _ rfl
   exact aa.some rfl
 | cons x r =>
  simp only[dZ]at b;obtain⟨m,hm,h⟩:=GX a r [x] 1 (r.length+1) (by simpa using hr x cW) (fun y d=>hr y (da _ d)) rfl (by simp; omega) (by omega);refine aa.loop (P:=fun y g=>g=_) ⟨m,0,_,h,by omega,rfl⟩ (by(first|rfl|assumption|(simp only[ar,sl]<;>omega))) ?_;rintro _ _ rfl;exact aa.some rfl
theorem Qp(rows:List (List G))(a b:Nat)(h:b≤a)(d:a<100000):ke K C [.l rows,.i (a:Int),.i (b:Int)]=some [.l rows]:=by
 refine aa.toEq ?_;unfold ke
 (dsimp +instances only[Aa,Ab,Ac,Ad,Ae,Af,Ag])
 refine aa.p ?_;refine aa.loop (P:=fun x g=>g=[.l rows]) ⟨1,0,_,.stop (aa.toEq (?_:aa _ (fun g=>g=(some 0,[G.l rows])))),by omega,rfl⟩ (by(first|rfl|assumption|(simp only[ar,sl]<;>omega))) ?_
 ·unfold po
  (dsimp +instances only[Aa,Ab,Ac,Ad,Ae,Af,Ag])
  exact aa.n (aa.some rfl)
 ·rintro _ _ rfl
  exact aa.some rfl
theorem Qq(h:pq K C Q c)(rows:List (List G))(hr:∀ y∈rows,Q y)(r:rows.length≤20):v7 K C [.l rows,.i (rows.length:Int)]=some [.l (h_ (c5 c) rows)]:=by
 refine aa.toEq ?_;unfold v7
 (dsimp +instances only[Aa,Ab,Ac,Ad,Ae,Af,Ag])
 have a:=Qo h rows hr (by omega);have hlen:=GU (c5 c) rows;have d:∀ rows':List (List G),rows'.length=rows.length→gH (An K C) [.l rows',.i (rows.length:Int),.i 20] fun _ g=>g=[.l rows']:=by
  intro rows' t;refine gH.stop (x:=0) (aa.toEq ?_) rfl;unfold An
  (dsimp +instances only[Aa,Ab,Ac,Ad,Ae,Af,Ag])
  exact aa.n (aa.some rfl)
 by_cases b:rows.length=20
 ·have h1:nF K C [.l rows,.i (rows.length:Int),.i 20,.i 0,.i 20]=some (none,[.l (h_ (c5 c) rows),.i (rows.length:Int),.i 20,.i 20,.i 40]):=by
   refine aa.toEq ?_;unfold nF
   (dsimp +instances only[Aa,Ab,Ac,Ad,Ae,Af,Ag])
   have a:ke K C [.l rows,.i 0,.i 20]=some [.l (h_ (c5 c) rows)]:=by rw[b]at a; exact a
   refine aa.p (aa.nE (aa.eq a) (by(first|rfl|assumption|(simp only[ar,sl]<;>omega))) ?_);rintro _ rfl
   (dsimp +instances only[Aa,Ab,Ac,Ad,Ae,Af,Ag])
   exact aa.p (aa.p (aa.some rfl))
  have k:nF K C [.l (h_ (c5 c) rows),.i (rows.length:Int),.i 20,.i 20,.i 40]=some (some 0,[.l (h_ (c5 c) rows),.i (rows.length:Int),.i 20,.i 20]):=by
   refine aa.toEq ?_;unfold nF
   (dsimp +instances only[Aa,Ab,Ac,Ad,Ae,Af,Ag])
   exact aa.n (aa.p (aa.some rfl))
  refine aa.loop (P:=fun x g=>g=_) ⟨2,0,_,.next h1 (.stop k),by omega,rfl⟩ (by(first|rfl|assumption|(simp only[ar,sl]<;>omega))) ?_;rintro _ _ rfl
  (dsimp +instances only[Aa,Ab,Ac,Ad,Ae,Af,Ag])
  have q:ke K C [.l (h_ (c5 c) rows),.i 20,.i (rows.length:Int)]=some [.l (h_ (c5 c) rows)]:=by
   rw[b]; exact Qp _ 20 20 (by omega) (by omega)
  refine aa.nE (aa.eq q) (by(first|rfl|assumption|(simp only[ar,sl]<;>omega))) ?_;rintro _ rfl
  (dsimp +instances only[Aa,Ab,Ac,Ad,Ae,Af,Ag])
  refine aa.loop (d _ hlen) (by(first|rfl|assumption|(simp only[ar,sl]<;>omega))) ?_;rintro _ _ rfl;exact aa.some rfl
 ·have h1:nF K C [.l rows,.i (rows.length:Int),.i 20,.i 0,.i 20]=some (some 0,[.l rows,.i (rows.length:Int),.i 20,.i 0]):=by
   refine aa.toEq ?_;unfold nF
   (dsimp +instances only[Aa,Ab,Ac,Ad,Ae,Af,Ag])
   exact aa.n (aa.p (aa.some rfl))
  refine aa.loop (P:=fun x g=>g=_) ⟨1,0,_,.stop h1,by omega,rfl⟩ (by(first|rfl|assumption|(simp only[ar,sl]<;>omega))) ?_;rintro _ _ rfl
  (dsimp +instances only[Aa,Ab,Ac,Ad,Ae,Af,Ag])
  refine aa.nE (aa.eq a) (by(first|rfl|assumption|(simp only[ar,sl]<;>omega))) ?_;rintro _ rfl
  (dsimp +instances only[Aa,Ab,Ac,Ad,Ae,Af,Ag])
  refine aa.loop (d _ hlen) (by(first|rfl|assumption|(simp only[ar,sl]<;>omega))) ?_;rintro _ _ rfl;exact aa.some rfl
theorem Qr(a:pq K C Q c)(rows:List (List G))(hr:∀ y∈rows,Q y)(b:rows.length≤20):GP K C [.l rows]=some [.l (h_ (c5 c) rows)]:=by
 refine aa.toEq ?_;unfold GP
 (dsimp +instances only[Aa,Ab,Ac,Ad,Ae,Af,Ag])
 refine aa.nE (aa.eq (Qq a rows hr b)) (by(first|rfl|assumption|(simp only[ar,sl]<;>omega))) ?_;rintro _ rfl;exact aa.some rfl
end
end Go.AL

namespace Go.AL
open Go
variable [Dr]
section
variable {K:List Kd} {Z:List G} {Q:List G→Prop}
structure XP (K:List Kd) (Q:List G→Prop):Prop where
 eta:∀ r,Q r→bM K r=r
structure XQ (K:List Kd) (C:List G→Option (List G)) (Q:List G→Prop) (e:List G→List G→Bool):Prop where
 cmp:∀ r s,Q r→Q s→C [.l [r],.l [s]]=some [.t (e r s)]
 eta:∀ r,Q r→bM K r=r
variable {C:List G→Option (List G)} {ee:List G→List G→Bool}
end
end Go.AL

namespace Go.AL
open Go
variable [Dr]
section
variable {K:List Kd} {Q:List G→Prop}
end
end Go.AL

namespace Go.AL
open Go
variable [Dr]
section
variable {K:List Kd} {Z:List G} {Q:List G→Prop} {C:List G→Option (List G)} {cp:G→G} {cap:G} {p:List G→Bool}
structure XR (K:List Kd) (C:List G→Option (List G)) (cp:G→G) (cap:G) (Q:List G→Prop) (p:List G→Bool):Prop where
 cmp:∀ r,Q r→C [.l [r],cap]=some [.t (p r)]
 eta:∀ r,Q r→bM K r=r
 fix:cp cap=cap
end
section
variable {K:List Kd} {Z:List G}
end
end Go.AL

namespace Go.AL
open Go
variable [Dr]
section sort
variable {α:Type} {lt:α→α→Bool}
structure fF (lt:α→α→Bool) (Q:α→Prop):Prop where
 tr:∀ a b c,Q a→Q b→Q c→lt a b=false→lt b c=false→lt a c=false
 Ar:∀ a b,Q a→Q b→lt a b=true→lt b a=false
variable {Q:α→Prop}
end sort
theorem Qs{sp:dS}{tl:List G→Option (Option Nat × List G)}{rows:List (List G)}{clock:Nat}{d:List G}{r:Option Nat × List G}(a:jG rows clock=true)
  (h:∀ b p,p.Perm rows→sp.side d b=true∧∃ d',ch sp.st sp.a8 p (sp.init d b)=some d'∧tl d'=some r):hY sp tl rows clock d=some r:=by
 unfold hY;rw[a];refine Gn fun b p g=>?_;obtain⟨h1,d',i,k⟩:=h b p g;rw[h1,cond_true,i];exact k
end Go.AL

namespace Go.AL
open Go
variable [Dr]
section
variable {α:Type} (f:α→Int)
end
section
variable {α:Type} {e:α→α→Bool}
end
end Go.AL

namespace Go.AL
open Go
variable [Dr]
section
variable {K:List Kd} {C:List G→Option (List G)} {Q:List G→Prop} {c:List G→List G→Int}
end
end Go.AL

namespace Go.AL
open Go
variable [Dr]
theorem Qt{st:List G→Option (Option Nat × List G)}(mk:Nat→List G)(rows:List (List G))(p:List G→Bool)(u:rows.length<999999)
  (r:∀ i x,i<rows.length→rows.getD i []=x→x∈rows→aa (st (mk i)) fun o=>o=bif p x then (some 0,[.i (i:Int)]) else (none,mk (i+1))) (t:aa (st (mk rows.length)) fun o=>o=(some 1,[])) :
  gH st (mk 0) fun c g=>(c=0∧∃ a x d,rows=a++x::d∧(∀ y∈a,p y=false)∧p x=true∧g=[.i (a.length:Int)])∨c=1∧g=[]∧∀ y∈rows,p y=false:=by
 refine(GN (σ:=Unit) (fun _ i=>mk i) rows (fun _=>(1,[])) (fun _ i=>∀ y∈rows.take i,p y=false) (fun c g=>c=0∧∃ a x d,rows=a++x::d∧(∀ y∈a,p y=false)∧p x=true∧g=[.i (a.length:Int)]) () u (by simp) ?_ (fun _ _=>t)).mono ?_
 ·rintro _ i x k hi l hm v
  refine(r i x hi l hm).mono ?_;rintro _ rfl;cases q:p x with
  | true =>
   refine .inr ⟨0,_,rfl,rfl,rows.take i,x,rows.drop (i+1),?_,k,q,by simp; omega⟩;rw[←l,cD,bC hi];simp
  | false =>
   refine .inl ⟨(),rfl,?_⟩;rw[v];intro y b;rcases bQ.1 b with b|b
   ·exact k y b
   ·simp at b
    rw[b];exact q
 ·rintro c g (⟨_, h, rfl, rfl⟩ | h)
  ·exact .inr ⟨rfl,rfl,by simpa using h⟩
  ·exact .inl h
section
variable {C:List G→Option (List G)} {Q:List G→Prop} {c:List G→List G→Int}
theorem fF.mono{α:Type}{lt:α→α→Bool}{Q l:α→Prop}(h:fF lt Q)(g:∀ a,l a→Q a):fF lt l :=
 ⟨fun a b d i k q=>h.tr a b d (g a i) (g b k) (g d q),fun a b i k=>h.Ar a b (g a i) (g b k)⟩
def rZ(C:List G→Option (List G))(Q:List G→Prop)(c:List G→List G→Int):Prop:=∀ r s,Q r→Q s→∃ v,C [.l [r],.l [s]]=some [.i v]∧(v<0↔c r s<0)
end
end Go.AL

namespace Go.AL
open Go Go.Proofs
variable [Dr]
variable {C:List G→Option (List G)} {Q:List G→Prop} {c:List G→List G→Int}
theorem GY(a:rZ C Q c){r s:List G}(hr:Q r)(hs:Q s):decide (rT C r s<0)=c5 c r s:=by
 obtain⟨v,h,b⟩:=a r s hr hs;unfold rT c5;rw[h,eu];show decide (v<0)=_
 rw[Bool.eq_iff_iff,decide_eq_true_eq,decide_eq_true_eq];exact b
theorem nG(a:rZ C Q c){rows:List (List G)}(hr:∀ y∈rows,Q y)(h0:rows≠[])(i j:Nat):ltOf (kc C rows) i j=c5 c (eC rows i) (eC rows j) :=
 GY a (hr _ (rU h0 i)) (hr _ (rU h0 j))
theorem Qu(b:rZ C Q c)(d:fF (c5 c) Q){rows:List (List G)}(hr:∀ y∈rows,Q y)(h0:rows≠[])(k:rows.length<100000):nC C rows:=by
 have a:=fun i=>hr _ (rU h0 i);refine⟨fun r h s h'=>by obtain⟨v,e,_⟩:=b r s (hr r h) (hr s h'); exact⟨v,e⟩,⟨fun x=>?_,fun x y z=>?_,fun x y z=>?_⟩,by omega⟩
 ·rw [nG b hr h0]
  cases h:c5 c (eC rows x) (eC rows x)with
  |false=>rfl
  |true=>rw[d.Ar _ _ (a x) (a x) h]at h; cases h
 ·rw [nG b hr h0, nG b hr h0, nG b hr h0]
  intro h1 g;cases h:c5 c (eC rows x) (eC rows z)with
  |true=>rfl
  | false =>
   have:=d.tr _ _ _ (a x) (a z) (a y) h (d.Ar _ _ (a y) (a z) g);rw[this]at h1;cases h1
 ·rw [nG b hr h0, nG b hr h0, nG b hr h0]
  exact d.tr _ _ _ (a x) (a y) (a z)
theorem Qv(i:rZ C Q c)(k:fF (c5 c) Q)(rows:List (List G))(hr:∀ y∈rows,Q y)(q:rows.length<100000) :
  ∃ out,rV C [.l rows]=some [.l out]∧out.Perm rows∧out.Pairwise fun a b=>c5 c b a=false:=by
 unfold rV;have e:(gi [G.l rows] 0).rows=rows:=rfl;rw[e];by_cases h0:rows=[]
 ·rw [if_pos h0, h0]
  exact⟨[],rfl,pZ _,List.Pairwise.nil⟩
 ·have d := Qu i k hr h0 q
  rw[if_neg h0,if_pos d];have g:=GF d;refine⟨_,rfl,g,?_⟩;refine X9 ?_ (PZ d);intro a b h1 r h;rw[←GY i (hr b (g.mem_iff.1 r)) (hr a (g.mem_iff.1 h1)),decide_eq_false_iff_not];exact h
end Go.AL

namespace Go.AL
open Go
variable [Dr]
noncomputable abbrev a_(r:List G):Int:=(gi r 0).int
noncomputable abbrev bE(r:List G):Int:=(gi r 1).int
def kf(r:List G):Prop:=r=[.i (a_ r),.i (bE r)]∧a_ r<bE r
def cy(l:List (List G))(n:Int):Prop:=∃ r∈l,a_ r≤n∧n<bE r
def eD(l:List (List G)):Prop:=(∀ r∈l,kf r)∧l.Pairwise fun r s=>bE r<a_ s
theorem GZ{a b:Int}(h:a<b):kf [.i a,.i b]:=⟨rfl,h⟩
theorem Qw{r:List G}(h:kf r):bM [.int .i64,.int .i64] r=r:=by
 rw[h.1];rfl
theorem Qx(n:Int):¬ cy [] n:=by
 rintro⟨r,h,_⟩;cases h
theorem Qy(r:List G)(l:List (List G))(n:Int):cy (r::l) n↔(a_ r≤n∧n<bE r)∨cy l n:=by
 constructor
 ·rintro ⟨s, hs, h⟩
  rcases bN.1 hs with rfl|hs
  ·exact .inl h
  ·exact .inr ⟨s,hs,h⟩
 ·rintro (h | ⟨s, hs, h⟩)
  ·exact⟨r,cW,h⟩
  ·exact⟨s,da _ hs,h⟩
theorem r7(a b:List (List G))(n:Int):cy (a++b) n↔cy a n∨cy b n:=by
 constructor
 ·rintro ⟨s, hs, h⟩
  rcases bQ.1 hs with hs|hs
  ·exact .inl ⟨s,hs,h⟩
  ·exact .inr ⟨s,hs,h⟩
 ·rintro (⟨s, hs, h⟩ | ⟨s, hs, h⟩)
  ·exact⟨s,kA _ hs,h⟩
  ·exact⟨s,List.mem_append_right _ hs,h⟩
theorem As(r:List G)(n:Int):cy [r] n↔a_ r≤n∧n<bE r:=by
 rw[Qy];exact⟨fun h=>h.elim id fun h=>(Qx n h).elim,.inl⟩
theorem Qz{a b:List (List G)}(h:a.Perm b)(n:Int):cy a n↔cy b n :=
 ⟨fun⟨r,h1,d⟩=>⟨r,h.mem_iff.1 h1,d⟩,fun⟨r,h1,d⟩=>⟨r,h.mem_iff.2 h1,d⟩⟩
theorem G0:eD []:=⟨by simp,List.Pairwise.nil⟩
theorem G1{r:List G}{l:List (List G)}:eD (r::l)↔kf r∧(∀ s∈l,bE r<a_ s)∧eD l:=by
 unfold eD;rw[List.pairwise_cons];constructor
 ·rintro ⟨h1, a, b⟩
  exact⟨h1 r cW,a,fun s hs=>h1 s (da _ hs),b⟩
 ·rintro ⟨h1, a, b, d⟩
  refine⟨fun s hs=>?_,a,d⟩;rcases bN.1 hs with rfl|hs
  ·exact h1
  ·exact b s hs
theorem r8{r:List G}{l:List (List G)}:eD (l++[r])↔eD l∧(∀ s∈l,bE s<a_ r)∧kf r:=by
 unfold eD;rw[List.pairwise_append];constructor
 ·rintro ⟨h1, d, h, g⟩
  exact⟨⟨fun s hs=>h1 s (kA _ hs),d⟩,fun s hs=>g s hs r (by simp),h1 r (by simp)⟩
 ·rintro ⟨⟨h1, d⟩, h, g⟩
  refine⟨fun s hs=>?_,d,by simp,fun a i b k=>?_⟩
  ·rcases bQ.1 hs with hs | hs
   ·exact h1 s hs
   ·rw [gL.1 hs]
    exact g
  ·rw [gL.1 k]
   exact h a i
theorem G2{l:List (List G)}(h:eD l){r s:List G}(hr:r∈l)(hs:s∈l){n:Int}(h1:a_ r≤n)(i:n≤bE r)(k:a_ s≤n)(q:n<bE s):r=s:=by
 induction l with
 |nil=>cases hr
 | cons a l g =>
  obtain⟨t,a2,a3⟩:=G1.1 h;rcases bN.1 hr with e|d
  ·rcases bN.1 hs with e' | b
   ·rw[e,e']
   ·have := a2 s b
    rw[←e]at this;omega
  ·rcases bN.1 hs with e' | b
   ·have := a2 r d
    rw[←e']at this;omega
   ·exact g a3 d b
theorem G3{l:List (List G)}(h:eD l){r:List G}(hr:r∈l):¬ cy l (bE r)∧¬ cy l (a_ r-1):=by
 have b:=h.1 r hr;refine⟨?_,?_⟩
 ·rintro ⟨s, hs, h1, a⟩
  have e:=G2 h hr hs (n:=bE r) (by have:=b.2; omega) (p6 _) h1 a;rw[e]at a;omega
 ·rintro ⟨s, hs, h1, a⟩
  have e:=G2 h hs hr (n:=a_ r) (by omega) (by omega) (p6 _) b.2;rw[e]at h1;omega
theorem QA{l:List (List G)}(h:eD l){a b:Int}(d:a<b)(hm:∀ n,a≤n→n<b→cy l n):∃ r∈l,a_ r≤a∧b≤bE r:=by
 obtain⟨r,hr,h1,i⟩:=hm a (p6 _) d;refine⟨r,hr,h1,Int.not_lt.1 fun g=>?_⟩;exact(G3 h hr).1 (hm _ (by omega) g)
/-! ### Rows put a -/
theorem G4(init:List (List G))(b:List G):(init++[b]).length-1=init.length∧(init++[b]).getD init.length []=b∧∀ c,(init++[b]).set init.length c=init++[c]:=by
 refine⟨by simp,by simp[cD],fun c=>by simp⟩
theorem QB{init:List (List G)}{b x:List G}(h:eD (init++[b]))(a:kf x)(h1:a_ b≤a_ x)(t:a_ x≤bE b){m:Int}(hm:m=max (bE b) (bE x)) :
  eD (init++[[.i (a_ b),.i m]])∧∀ n,cy (init++[[.i (a_ b),.i m]]) n↔cy (init++[b]) n∨(a_ x≤n∧n<bE x):=by
 obtain⟨d,g,k⟩:=r8.1 h;have u:=k.2;have v:=a.2;refine⟨r8.2 ⟨d,g,GZ (by omega)⟩,fun n=>?_⟩;rw[r7,r7,As,As];have l:a_ [.i (a_ b),.i m]=a_ b:=rfl;have q:bE [.i (a_ b),.i m]=m:=rfl;rw[l,q];constructor
 ·rintro (h | h)
  ·exact .inl (.inl h)
  ·by_cases r : n < bE b
   ·exact .inl (.inr ⟨h.1,r⟩)
   ·exact .inr ⟨by omega,by omega⟩
 ·rintro ((h | h) | h)
  ·exact .inl h
  ·exact .inr ⟨h.1,by omega⟩
  ·exact .inr ⟨by omega,by omega⟩
/-! ### Rows a others -/
structure XT (out:List (List G)) (a b:Int) (os:List (List G)) (ps:List (List G)) (f:Int):Prop where
 low:a≤f
 at_:f=a∨∃ o∈os,f=bE o
 past:∀ o∈os,bE o≤f∨b≤a_ o
 mem:∀ n,cy ps n↔a≤n∧n<f∧n<b∧¬ cy os n
 can:eD (out++ps)
 XU:∀ s∈out++ps,bE s<f
 many:ps.length≤os.length
theorem QC(os:List (List G))(o:List G)(n:Int):cy (os++[o]) n↔cy os n∨(a_ o≤n∧n<bE o):=by
 rw[r7,As]
end Go.AL
