/-
 What is proved here: rules by which lifted functions are shown to give what they should. No program in sight; no condition.
-/
import Derived.Test.YtioeckojljemcaaGreatDoorMD
import Derived.Test.YtioeckojljemcaaGreatDoorMH
set_option linter.all false
namespace Go.AL
open Go
variable [Dr]
def Ret {β:Type} (x:Option β) (Q:β→Prop):Prop:=∃ r,x=some r∧Q r
def RetL (st:List G→Option (Option Nat × List G)) (d:List G) (Q:Nat→List G→Prop):Prop:=∃ n x d',Runs st n d x d'∧n≤1000000∧Q x d'
namespace Ret
variable {β:Type} {Q:β→Prop}
theorem some {r:β} (h:Q r):Ret (some r) Q:=⟨r,rfl,h⟩
theorem pos {b:Bool} {x y:Option β} (h:b=true) (hx:Ret x Q):Ret (bif b then x else y) Q:=by subst h; exact hx
theorem neg {b:Bool} {x y:Option β} (h:b=false) (hy:Ret y Q):Ret (bif b then x else y) Q:=by subst h; exact hy
theorem test {b:Bool} {x y:Option β} (hx:b=true→Ret x Q) (hy:b=false→Ret y Q):Ret (bif b then x else y) Q:=by
 cases b with
 | true=>exact hx rfl
 | false=>exact hy rfl
theorem call {t:Option (List G)} {k:List G→Option β} {P:List G→Prop} (h:Ret t P) (hk:∀ g,P g→Ret (k g) Q):Ret (callF t k) Q:=by
 obtain ⟨r,h,hp⟩:=h
 subst h
 exact hk r hp
theorem callb {c:Bool} {t:Option (List G)} {k:List G→Option β} {P:List G→Prop} (h:Ret t P) (hc:c=true) (hk:∀ g,P g→Ret (k g) Q):Ret (callB (c&&t.isSome) t k) Q:=by
 obtain ⟨r,h,hp⟩:=h
 subst h hc
 exact hk r hp
theorem loop {c:Bool} {st:List G→Option (Option Nat × List G)} {d:List G} {k:Nat→List G→Option β} {P:Nat→List G→Prop} (h:RetL st d P) (hc:c=true) (hk:∀ x g,P x g→Ret (k x g) Q):Ret (loopB c (LRun st d) k) Q:=by
 obtain ⟨n,x,d',h,hn,hp⟩:=h
 rw [h.lrun hn]
 subst hc
 exact hk x d' hp
theorem tail {c:Bool} {t:Option (Option Nat × List G)} {k:Nat→List G→Option β} {P:Nat→List G→Prop} (h:Ret t fun o=>∃ x,o.1=Option.some x∧P x o.2) (hc:c=true) (hk:∀ x g,P x g→Ret (k x g) Q) :
  Ret (loopB c (cutR t) k) Q:=by
 obtain ⟨⟨o,d⟩,rfl,x,hx,hp⟩:=h
 simp only at hx
 subst hx hc
 exact hk x d hp
theorem mono {x:Option β} {P:β→Prop} (h:Ret x P) (hpq:∀ r,P r→Q r):Ret x Q:=by
 obtain ⟨r,h,hp⟩:=h
 exact ⟨r,h,hpq r hp⟩
theorem eq {x:Option β} {r:β} (h:x=Option.some r):Ret x (fun g=>g=r):=⟨r,h,rfl⟩
theorem toEq {x:Option β} {r:β} (h:Ret x (fun g=>g=r)):x=Option.some r:=by
 obtain ⟨r',h,rfl⟩:=h
 exact h
end Ret
theorem RetL.stop {st:List G→Option (Option Nat × List G)} {d d':List G} {x:Nat} {Q:Nat→List G→Prop} (h:st d=some (some x,d')) (hq:Q x d'):RetL st d Q:=⟨1,x,d',.stop h,by omega,hq⟩
def RetN (st:List G→Option (Option Nat × List G)) (d:List G) (m:Nat) (Q:Nat→List G→Prop):Prop:=∃ n x d',Runs st n d x d'∧n≤m∧Q x d'
theorem RetN.stop {st:List G→Option (Option Nat × List G)} {d d':List G} {x m:Nat} {Q:Nat→List G→Prop} (h:st d=some (some x,d')) (hq:Q x d'):RetN st d (m+1) Q:=⟨1,x,d',.stop h,by omega,hq⟩
theorem RetN.next {st:List G→Option (Option Nat × List G)} {d d1:List G} {m:Nat} {Q:Nat→List G→Prop} (h:st d=some (none,d1)) (hr:RetN st d1 m Q):RetN st d (m+1) Q:=by
 obtain ⟨n,x,d',h1,h2,h3⟩:=hr
 exact ⟨n+1,x,d',.next h h1,by omega,h3⟩
theorem RetN.to {st:List G→Option (Option Nat × List G)} {d:List G} {m:Nat} {Q:Nat→List G→Prop} (h:RetN st d m Q) (hm:m≤1000000):RetL st d Q:=by
 obtain ⟨n,x,d',h1,h2,h3⟩:=h
 exact ⟨n,x,d',h1,by omega,h3⟩
theorem RetL.mono {st:List G→Option (Option Nat × List G)} {d:List G} {P Q:Nat→List G→Prop} (h:RetL st d P) (hq:∀ x g,P x g→Q x g):RetL st d Q:=by
 obtain ⟨n,x,d',h1,h2,h3⟩:=h
 exact ⟨n,x,d',h1,h2,hq _ _ h3⟩
theorem RetN.mono {st:List G→Option (Option Nat × List G)} {d:List G} {m:Nat} {P Q:Nat→List G→Prop} (h:RetN st d m P) (hq:∀ x g,P x g→Q x g):RetN st d m Q:=by
 obtain ⟨n,x,d',h1,h2,h3⟩:=h
 exact ⟨n,x,d',h1,h2,hq _ _ h3⟩
theorem dec_iff {p:Prop} {i:Decidable p}:(@decide p i=true)↔p:=by simp
theorem dec_not_iff {p:Prop} {i:Decidable p}:(@decide p i=false)↔¬ p:=by simp
theorem nbeq_iff {a b:Nat}:Nat.beq a b=true↔a=b:=⟨Nat.eq_of_beq_eq_true,fun h=>h▸Nat.beq_refl a⟩
theorem Aa (a:G) (l:List G):gi (a::l) 0=a:=rfl
theorem Ab (a:G) (l:List G) (i:Nat):gi (a::l) (i+1)=gi l i:=rfl
theorem Ac (r:List G) (l:List (List G)):(G.l (r::l)).row=r:=rfl
theorem Ad (l:List (List G)):(G.l l).rows=l:=rfl
theorem Ae (n:Int):(G.i n).int=n:=rfl
theorem Af (s:ByteArray):(G.s s).str=s:=rfl
theorem Ag (b:Bool):(G.t b).bool=b:=rfl
theorem sl:(∀ a b:Int,ltI a b=decide (a<b))∧(∀ a b:Int,leI a b=decide (a≤b))∧(∀ n:Int,nnI n=decide (0≤n))∧(∀ b:Bool,(b&&true)=b)∧(∀ b:Bool,(true&&b)=b) ∧
  (∀ a b:Bool,((a&&b)=true)=(a=true∧b=true))∧(∀ a b:Bool,((a&&b)=false)=(a=false∨b=false))∧(∀ (p:Prop) (i:Decidable p),(@decide p i=true)=p)∧(∀ (p:Prop) (i:Decidable p),(@decide p i=false)=¬ p) ∧
  (∀ b:Bool,((!b)=true)=(b=false))∧(∀ b:Bool,((!b)=false)=(b=true))∧(∀ a b:Int,((a==b)=true)=(a=b))∧(∀ a b:Int,((a==b)=false)=¬ (a=b))∧(∀ a b:Int,((a != b)=true)=¬ (a=b))∧(∀ a b:Int,((a != b)=false)=(a=b)) ∧
  (∀ (α:Type) (a b:α),(a≠b)=¬ (a=b))∧(∀ a b:Nat,(Nat.beq a b=true)=(a=b))∧(∀ a b:Nat,(Nat.ble a b=true)=(a≤b))∧(∀ a b:Nat,(Nat.blt a b=true)=(a<b)) ∧
  (∀ (l:List (List G)) (i:Nat) (x:List G),(l.set i x).length=l.length)∧(∀ (α:Type) (l r:List α),(l++r).length=l.length+r.length)∧(∀ (n:Nat) (x:List G),(List.replicate n x).length=n) ∧
  (∀ (α:Type) (x:α) (l:List α),(x::l).length=l.length+1)∧(∀ α:Type,([]:List α).length=0)∧(∀ (l:List (List G)) (n:Nat),(l.take n).length=min n l.length)∧(∀ (l:List (List G)) (n:Nat),(l.drop n).length=l.length-n) ∧
  (∀ n:Nat,((n:Int)).toNat=n)∧(∀ p:Prop,(True∧p)=p)∧(∀ p:Prop,(p∧True)=p)∧(∀ a b:Bool,((a==b)=true)=(a=b)) :=
 ⟨ltI_eq, leI_eq, nnI_eq, Bool.and_true, Bool.true_and, Bool.and_eq_true, fun a b => by cases a <;> cases b <;> simp, fun _ _ => propext dec_iff, fun _ _ => propext dec_not_iff, fun b => by cases b <;> simp, fun b => by cases b <;> simp,
  fun a b=>by simp,fun a b=>by simp,fun a b=>by simp,fun a b=>by simp,fun _ a b=>rfl,fun a b=>propext nbeq_iff,fun a b=>by simp,fun a b=>by simp,fun l i x=>List.length_set,fun _ l r=>List.length_append,fun n x=>List.length_replicate,
  fun _ x l=>rfl,fun _=>rfl,fun l n=>List.length_take,fun l n=>List.length_drop,fun n=>Int.toNat_natCast n,fun p=>true_and p,fun p=>and_true p,fun a b=>by cases a<;>cases b<;>simp⟩
theorem Ret.p {β:Type} {Q:β→Prop} {b:Bool} {x y:Option β} (hx:Ret x Q) (h:b=true:=by first|rfl|assumption|(simp only [inI,sl]<;>omega)):Ret (bif b then x else y) Q:=Ret.pos h hx
theorem Ret.n {β:Type} {Q:β→Prop} {b:Bool} {x y:Option β} (hy:Ret y Q) (h:b=false:=by first|rfl|assumption|(simp only [inI,sl]<;>omega)):Ret (bif b then x else y) Q:=Ret.neg h hy
theorem Ret.cE {β:Type} {Q:β→Prop} {t:Option (List G)} {r:List G} {k:List G→Option β} (h:t=Option.some r) (hk:Ret (k r) Q):Ret (callF t k) Q:=Ret.call (Ret.eq h) fun _ e=>by subst e; exact hk

end Go.AL

namespace Go.AL
open Go
variable [Dr]
theorem count_runs {σ:Type} {st:List G→Option (Option Nat × List G)} (mk:σ→Nat→List G) (n:Nat) (fin:σ→Nat × List G) (I:σ→Nat→Prop) (E:Nat→List G→Prop)
  (hstep:∀ s i,I s i→i<n→Ret (st (mk s i)) fun o=>(∃ s',o=(none,mk s' (i+1))∧I s' (i+1))∨∃ c g,o=(some c,g)∧E c g)
  (hfin:∀ s,I s n→Ret (st (mk s n)) fun o=>o=(some (fin s).1,(fin s).2)) :
  ∀ (k:Nat) (s:σ) (i:Nat),i+k=n→I s i→RetN st (mk s i) (k+1) fun c g=>(∃ s',I s' n∧c=(fin s').1∧g=(fin s').2)∨E c g
 | 0,s,i,hi,hI=>by
  have e:i=n:=hi
  subst e
  obtain ⟨o,h,rfl⟩:=hfin s hI
  exact RetN.stop h (.inl ⟨s,hI,rfl,rfl⟩)
 | k+1,s,i,hi,hI=>by
  obtain ⟨o,h,⟨s',rfl,hI'⟩ | ⟨c,g,rfl,hE⟩⟩:=hstep s i hI (by omega)
  ·exact RetN.next h (count_runs mk n fin I E hstep hfin k s' (i+1) (by omega) hI')
  ·exact RetN.stop h (.inr hE)
theorem getD_row {rows:List (List G)} {i:Nat} (h:i<rows.length):rows.getD i []∈rows:=by
 rw [List.getD_eq_getElem?_getD,List.getElem?_eq_getElem h]
 exact List.getElem_mem h
theorem take_row {rows:List (List G)} {i:Nat} (h:i<rows.length):rows.take (i+1)=rows.take i++[rows.getD i []]:=by
 rw [List.take_add_one,List.getD_eq_getElem?_getD,List.getElem?_eq_getElem h]
 rfl
theorem range_inv {σ:Type} {st:List G→Option (Option Nat × List G)} (mk:σ→Nat→List G) (rows:List (List G)) (fin:σ→Nat × List G) (I:σ→Nat→Prop) (E:Nat→List G→Prop) (s:σ)
  (hlen:rows.length<999999) (h0:I s 0)
  (hstep:∀ s i x,I s i→i<rows.length→rows.getD i []=x→x∈rows→rows.take (i+1)=rows.take i++[x]→Ret (st (mk s i)) fun o=>(∃ s',o=(none,mk s' (i+1))∧I s' (i+1))∨∃ c g,o=(some c,g)∧E c g)
  (hfin:∀ s,I s rows.length→Ret (st (mk s rows.length)) fun o=>o=(some (fin s).1,(fin s).2)) :
  RetL st (mk s 0) fun c g=>(∃ s',I s' rows.length∧c=(fin s').1∧g=(fin s').2)∨E c g :=
 (count_runs mk rows.length fin I E (fun s i hI hi=>hstep s i _ hI hi rfl (getD_row hi) (take_row hi)) hfin rows.length s 0 (by omega) h0).to (by omega)
theorem range_all {σ:Type} {st:List G→Option (Option Nat × List G)} (mk:σ→Nat→List G) (rows:List (List G)) (fin:σ→Nat × List G) (I:σ→Nat→Prop) (s:σ)
  (hlen:rows.length<999999) (h0:I s 0)
  (hstep:∀ s i x,I s i→i<rows.length→rows.getD i []=x→x∈rows→rows.take (i+1)=rows.take i++[x]→Ret (st (mk s i)) fun o=>∃ s',o=(none,mk s' (i+1))∧I s' (i+1))
  (hfin:∀ s,I s rows.length→Ret (st (mk s rows.length)) fun o=>o=(some (fin s).1,(fin s).2)) :
  RetL st (mk s 0) fun c g=>∃ s',I s' rows.length∧c=(fin s').1∧g=(fin s').2 :=
 (range_inv mk rows fin I (fun _ _=>False) s hlen h0 (fun s i x a b c d e=>(hstep s i x a b c d e).mono fun _ h=>.inl h) hfin).mono fun _ _ h=>h.elim id False.elim
end Go.AL

namespace Go.AL
open Go
variable [Dr]
theorem beq_swap {α:Type} [BEq α] [LawfulBEq α] (a b:α):(a==b)=(b==a):=by
 rw [Bool.eq_iff_iff]
 simp only [beq_iff_eq]
 exact eq_comm
theorem gEq_symm {k:Kd} {a b:G}:gEq k a b=gEq k b a:=by
 cases k
 ·exact beq_swap _ _
 ·exact beq_swap _ _
 ·exact beq_swap _ _
 ·rfl
theorem gEq_trans {k:Kd} {a b c:G} (h1:gEq k a b=true) (h2:gEq k b c=true):gEq k a c=true:=by
 cases k<;>simp only [gEq,beq_iff_eq] at *<;>first | exact h1.trans h2 | cases h1
theorem rowEq_symm:∀ {K:List Kd} {a b:List G},rowEq K a b=rowEq K b a
 | [],_,_=>rfl
 | k::K,a,b=>by simp only [rowEq,gEq_symm (a:=a.headD default),rowEq_symm (K:=K) (a:=a.tail)]
theorem rowEq_trans:∀ {K:List Kd} {a b c:List G},rowEq K a b=true→rowEq K b c=true→rowEq K a c=true
 | [],_,_,_,_,_=>rfl
 | k::K,a,b,c,h1,h2=>by
  simp only [rowEq,Bool.and_eq_true] at *
  exact ⟨gEq_trans h1.1 h2.1,rowEq_trans h1.2 h2.2⟩
theorem rowEq_congr {K:List Kd} {a b c:List G} (h:rowEq K a b=true):rowEq K a c=rowEq K b c:=by
 rw [Bool.eq_iff_iff]
 constructor
 ·exact fun h2=>rowEq_trans (by rw [rowEq_symm]; exact h) h2
 ·exact fun h2=>rowEq_trans h h2
theorem rowEq_congr' {K:List Kd} {a b c:List G} (h:rowEq K a b=true):rowEq K c a=rowEq K c b:=by
 rw [rowEq_symm,rowEq_congr h,rowEq_symm]
theorem mfind_shift (ks:List Kd) (key:List G):∀ (rows:List (List G)) (i:Nat),mfind ks key rows i=(mfind ks key rows 0).map fun p=>(p.1+i,p.2)
 | [],i=>rfl
 | r::rs,i=>by
  simp only [mfind]
  cases rowEq ks key (gi r 0).row with
  | true=>simp
  | false =>
   simp only [cond_false]
   rw [mfind_shift ks key rs (i+1),mfind_shift ks key rs (0+1),Option.map_map]
   congr 1
   funext p
   simp
   omega
theorem mget_nil (ks:List Kd) (key z:List G):mget ks [] key z=z:=rfl
theorem mget_cons (ks:List Kd) (r:List G) (rs:List (List G)) (key z:List G):mget ks (r::rs) key z=bif rowEq ks key (gi r 0).row then (gi r 1).row else mget ks rs key z:=by
 unfold mget
 simp only [mfind]
 cases rowEq ks key (gi r 0).row with
 | true=>rfl
 | false =>
  simp only [cond_false]
  rw [mfind_shift ks key rs (0+1)]
  cases mfind ks key rs 0<;>rfl
theorem mput_nil (ks:List Kd) (key val:List G) (c:Nat):mput ks [] key val c=[[.l [key],.l [val],.i c]]:=rfl
theorem mput_cons (ks:List Kd) (r:List G) (rs:List (List G)) (key val:List G) (c:Nat) :
  mput ks (r::rs) key val c=bif rowEq ks key (gi r 0).row then [.l [key],.l [val],.i (gi r 2).int]::rs else r::mput ks rs key val c:=by
 unfold mput
 simp only [mfind]
 cases rowEq ks key (gi r 0).row with
 | true=>rfl
 | false =>
  simp only [cond_false]
  rw [mfind_shift ks key rs (0+1)]
  cases mfind ks key rs 0<;>rfl
theorem mget_mput (ks:List Kd) (k v key z:List G) (c:Nat):∀ rows:List (List G),mget ks (mput ks rows k v c) key z=bif rowEq ks key k then v else mget ks rows key z
 | []=>by simp only [mput_nil,mget_cons,mget_nil]; rfl
 | r::rs=>by
  rw [mput_cons,mget_cons]
  cases h:rowEq ks k (gi r 0).row with
  | true =>
   simp only [cond_true,mget_cons]
   have e:rowEq ks key (gi r 0).row=rowEq ks key k:=(rowEq_congr' h).symm
   rw [e]
   cases h2:rowEq ks key k with
   | true=>simp only [Aa,Ac,h2,cond_true]; rfl
   | false=>simp only [Aa,Ac,h2,cond_false]
  | false =>
   simp only [cond_false,mget_cons,mget_mput ks k v key z c rs]
   cases h2:rowEq ks key (gi r 0).row with
   | false=>rfl
   | true =>
    cases h3:rowEq ks key k with
    | false=>rfl
    | true =>
     have:rowEq ks k (gi r 0).row=true:=rowEq_trans (by rw [rowEq_symm]; exact h3) h2
     rw [this] at h
     cases h
end Go.AL

namespace Go.AL
open Go
variable [Dr]
def ins4 (K:List Kd) (C:List G→Option (List G)) (d:List G):Option (Option Nat × List G) :=
 (bif (ltI (gi d 1).int (gi d 4).int) then (bif ((nnI (gi d 4).int)&&(ltI (gi d 4).int (((gi d 0).rows.length:Nat):Int))) then (bif (decide ((0+((gi d 4).int).toNat)<(gi d 0).rows.length)) then (bif (inI ((gi d 4).int-1)) then (bif ((nnI ((gi d 4).int-1))&&(ltI ((gi d 4).int-1) (((gi d 0).rows.length:Nat):Int))) then (bif (decide ((0+((gi d 4).int-1).toNat)<(gi d 0).rows.length)) then (callF (C [.l [(gEta K ((gi d 0).rows.getD (0+((gi d 4).int).toNat) []))],.l [(gEta K ((gi d 0).rows.getD (0+((gi d 4).int-1).toNat) []))]]) fun g1=>(bif (ltI (gi g1 0).int 0) then (bif (inI ((gi d 4).int-1)) then (bif (inI ((gi d 4).int-1)) then (bif ((nnI ((gi d 4).int-1))&&(ltI ((gi d 4).int-1) (((gi d 0).rows.length:Nat):Int))) then (bif (decide ((0+((gi d 4).int-1).toNat)<(gi d 0).rows.length)) then (bif ((nnI (gi d 4).int)&&(ltI (gi d 4).int (((gi d 0).rows.length:Nat):Int))) then (bif (decide ((0+((gi d 4).int).toNat)<(gi d 0).rows.length)) then (bif ((nnI (gi d 4).int)&&(ltI (gi d 4).int (((gi d 0).rows.length:Nat):Int))) then (bif (decide ((0+((gi d 4).int).toNat)<(gi d 0).rows.length)) then (bif ((nnI ((gi d 4).int-1))&&(ltI ((gi d 4).int-1) (((gi d 0).rows.length:Nat):Int))) then (bif (decide ((0+((gi d 4).int-1).toNat)<((gi d 0).rows.set (0+((gi d 4).int).toNat) (putG K ((gi d 0).rows.getD (0+((gi d 4).int).toNat) []) 0 (gEta K ((gi d 0).rows.getD (0+((gi d 4).int-1).toNat) [])))).length)) then (bif (inI ((gi d 4).int-1)) then (bif ((Nat.beq (gi d 0).rows.length (((gi d 0).rows.set (0+((gi d 4).int).toNat) (putG K ((gi d 0).rows.getD (0+((gi d 4).int).toNat) []) 0 (gEta K ((gi d 0).rows.getD (0+((gi d 4).int-1).toNat) [])))).set (0+((gi d 4).int-1).toNat) (putG K (((gi d 0).rows.set (0+((gi d 4).int).toNat) (putG K ((gi d 0).rows.getD (0+((gi d 4).int).toNat) []) 0 (gEta K ((gi d 0).rows.getD (0+((gi d 4).int-1).toNat) [])))).getD (0+((gi d 4).int-1).toNat) []) 0 (gEta K ((gi d 0).rows.getD (0+((gi d 4).int).toNat) [])))).length)&&true) then some (none,[.l (((gi d 0).rows.set (0+((gi d 4).int).toNat) (putG K ((gi d 0).rows.getD (0+((gi d 4).int).toNat) []) 0 (gEta K ((gi d 0).rows.getD (0+((gi d 4).int-1).toNat) [])))).set (0+((gi d 4).int-1).toNat) (putG K (((gi d 0).rows.set (0+((gi d 4).int).toNat) (putG K ((gi d 0).rows.getD (0+((gi d 4).int).toNat) []) 0 (gEta K ((gi d 0).rows.getD (0+((gi d 4).int-1).toNat) [])))).getD (0+((gi d 4).int-1).toNat) []) 0 (gEta K ((gi d 0).rows.getD (0+((gi d 4).int).toNat) [])))),.i (gi d 1).int,.i (gi d 2).int,.i (gi d 3).int,.i ((gi d 4).int-1)]) else none) else none) else none) else none) else none) else none) else none) else none) else none) else none) else none) else none) else (bif ((Nat.beq (gi d 0).rows.length (gi d 0).rows.length)&&true) then some (some 0,[.l (gi d 0).rows,.i (gi d 1).int,.i (gi d 2).int,.i (gi d 3).int]) else none))) else none) else none) else none) else none) else none) else (bif ((Nat.beq (gi d 0).rows.length (gi d 0).rows.length)&&true) then some (some 0,[.l (gi d 0).rows,.i (gi d 1).int,.i (gi d 2).int,.i (gi d 3).int]) else none))
def ins1 (K:List Kd) (C:List G→Option (List G)) (d:List G):Option (Option Nat × List G) :=
 (bif (ltI (gi d 3).int (gi d 2).int) then (loopB ((Nat.beq (gi d 0).rows.length (gi d 0).rows.length)&&true) (LRun (ins4 K C) [.l (gi d 0).rows,.i (gi d 1).int,.i (gi d 2).int,.i (gi d 3).int,.i (gi d 3).int]) fun cg2 g2=>(bif (inI ((gi g2 3).int+1)) then (bif ((Nat.beq (gi g2 0).rows.length (gi g2 0).rows.length)&&true) then some (none,[.l (gi g2 0).rows,.i (gi g2 1).int,.i (gi g2 2).int,.i ((gi g2 3).int+1)]) else none) else none)) else some (some 0,[.l (gi d 0).rows]))
def insF (K:List Kd) (C:List G→Option (List G)) (d:List G):Option (List G) :=
 (bif (inI ((gi d 1).int+1)) then (loopB ((Nat.beq (gi d 0).rows.length (gi d 0).rows.length)&&true) (LRun (ins1 K C) [.l (gi d 0).rows,.i (gi d 1).int,.i (gi d 2).int,.i ((gi d 1).int+1)]) fun cg3 g3=>some [.l (gi g3 0).rows]) else none)
def stab2 (K:List Kd) (C:List G→Option (List G)) (d:List G):Option (Option Nat × List G) :=
 (bif (leI (gi d 4).int (gi d 1).int) then (callB (((Nat.beq (gi d 0).rows.length (gi d 0).rows.length)&&true)&&((insF K C) [.l (gi d 0).rows,.i (gi d 3).int,.i (gi d 4).int]).isSome) ((insF K C) [.l (gi d 0).rows,.i (gi d 3).int,.i (gi d 4).int]) fun g1=>(bif (inI ((gi d 4).int+(gi d 2).int)) then (bif ((Nat.beq (gi d 0).rows.length (gi g1 0).rows.length)&&true) then some (none,[.l (gi g1 0).rows,.i (gi d 1).int,.i (gi d 2).int,.i (gi d 4).int,.i ((gi d 4).int+(gi d 2).int)]) else none) else none)) else (bif ((Nat.beq (gi d 0).rows.length (gi d 0).rows.length)&&true) then some (some 0,[.l (gi d 0).rows,.i (gi d 1).int,.i (gi d 2).int,.i (gi d 3).int]) else none))
def stab9 (K:List Kd) (C:List G→Option (List G)) (d:List G):Option (Option Nat × List G) :=
 (bif (leI (gi d 4).int (gi d 1).int) then (bif (inI ((gi d 3).int+(gi d 2).int)) then none else none) else (bif ((Nat.beq (gi d 0).rows.length (gi d 0).rows.length)&&true) then some (some 0,[.l (gi d 0).rows,.i (gi d 1).int,.i (gi d 2).int,.i (gi d 3).int]) else none))
def stab7 (K:List Kd) (C:List G→Option (List G)) (d:List G):Option (Option Nat × List G) :=
 (bif (ltI (gi d 2).int (gi d 1).int) then (bif (inI (2*(gi d 2).int)) then (loopB ((Nat.beq (gi d 0).rows.length (gi d 0).rows.length)&&true) (LRun (stab9 K C) [.l (gi d 0).rows,.i (gi d 1).int,.i (gi d 2).int,.i 0,.i (2*(gi d 2).int)]) fun cg4 g4=>(bif (inI ((gi g4 3).int+(gi g4 2).int)) then (bif (ltI ((gi g4 3).int+(gi g4 2).int) (gi g4 1).int) then none else (bif (inI ((gi g4 2).int*2)) then (bif ((Nat.beq (gi g4 0).rows.length (gi g4 0).rows.length)&&true) then some (none,[.l (gi g4 0).rows,.i (gi g4 1).int,.i ((gi g4 2).int*2)]) else none) else none)) else none)) else none) else some (some 0,[.l (gi d 0).rows]))
def stabF (K:List Kd) (C:List G→Option (List G)) (d:List G):Option (List G) :=
 (loopB ((Nat.beq (gi d 0).rows.length (gi d 0).rows.length)&&true) (LRun (stab2 K C) [.l (gi d 0).rows,.i (gi d 1).int,.i 20,.i 0,.i 20]) fun cg2 g2=>(callB (((Nat.beq (gi g2 0).rows.length (gi g2 0).rows.length)&&true)&&((insF K C) [.l (gi g2 0).rows,.i (gi g2 3).int,.i (gi g2 1).int]).isSome) ((insF K C) [.l (gi g2 0).rows,.i (gi g2 3).int,.i (gi g2 1).int]) fun g3=>(loopB ((Nat.beq (gi g2 0).rows.length (gi g3 0).rows.length)&&true) (LRun (stab7 K C) [.l (gi g3 0).rows,.i (gi g2 1).int,.i (gi g2 2).int]) fun cg5 g5=>some [.l (gi g5 0).rows])))
def sortF (K:List Kd) (C:List G→Option (List G)) (d:List G):Option (List G) :=
 (callB (((Nat.beq (gi d 0).rows.length (gi d 0).rows.length)&&true)&&((stabF K C) [.l (gi d 0).rows,.i (((gi d 0).rows.length:Nat):Int)]).isSome) ((stabF K C) [.l (gi d 0).rows,.i (((gi d 0).rows.length:Nat):Int)]) fun g1=>some [.l (gi g1 0).rows])
theorem getD_mid {α:Type} (l:List α) (x:α) (q:List α) (z:α) (n:Nat) (h:n=l.length):(l++x::q).getD n z=x:=by subst h; simp
theorem set_mid {α:Type} (l:List α) (x y:α) (q:List α) (n:Nat) (h:n=l.length):(l++x::q).set n y=l++y::q:=by subst h; simp
def insA {α:Type} (lt:α→α→Bool) (x:α):List α→List α
 | []=>[x]
 | y::p=>bif lt x y then y::insA lt x p else x::y::p
def insAll {α:Type} (lt:α→α→Bool):List α→List α→List α
 | p,[]=>p
 | p,x::r=>insAll lt (insA lt x p) r
def sortA {α:Type} (lt:α→α→Bool) (l:List α):List α:=(insAll lt [] l).reverse
theorem insA_length {α:Type} (lt:α→α→Bool) (x:α):∀ p,(insA lt x p).length=p.length+1
 | []=>rfl
 | y::p=>by
  simp only [insA]
  cases lt x y with
  | true=>simp [insA_length lt x p]
  | false=>simp
theorem insA_all {α:Type} {Q:α→Prop} {lt:α→α→Bool} {x:α} (hx:Q x):∀ {p:List α},(∀ y∈p,Q y)→∀ y∈insA lt x p,Q y
 | [],_,y,hy=>by simp [insA] at hy; exact hy▸hx
 | z::p,hp,y,hy=>by
  simp only [insA] at hy
  cases hl:lt x z with
  | true =>
   rw [hl] at hy
   rcases List.mem_cons.1 hy with rfl | hy
   ·exact hp _ List.mem_cons_self
   ·exact insA_all hx (fun y hy=>hp y (List.mem_cons_of_mem _ hy)) y hy
  | false =>
   rw [hl] at hy
   rcases List.mem_cons.1 hy with rfl | hy
   ·exact hx
   ·exact hp y hy
theorem insAll_length {α:Type} (lt:α→α→Bool):∀ (p r:List α),(insAll lt p r).length=p.length+r.length
 | p,[]=>rfl
 | p,x::r=>by simp only [insAll,insAll_length lt,insA_length,List.length_cons]; omega
theorem insAll_all {α:Type} {Q:α→Prop} {lt:α→α→Bool}:∀ {r p:List α},(∀ y∈p,Q y)→(∀ y∈r,Q y)→∀ y∈insAll lt p r,Q y
 | [],_,hp,_=>hp
 | x::r,p,hp,hr=>by
  simp only [insAll]
  exact insAll_all (insA_all (hr x List.mem_cons_self) hp) fun y hy=>hr y (List.mem_cons_of_mem _ hy)
theorem sortA_length {α:Type} (lt:α→α→Bool) (l:List α):(sortA lt l).length=l.length:=by simp [sortA,insAll_length]
theorem sortA_all {α:Type} {Q:α→Prop} {lt:α→α→Bool} {l:List α} (h:∀ y∈l,Q y):∀ y∈sortA lt l,Q y:=by
 intro y hy
 exact insAll_all (p:=[]) (by simp) h y (by simpa [sortA] using hy)
theorem gEta_length:∀ (K:List Kd) (r:List G),(gEta K r).length=K.length
 | [],_=>rfl
 | k::K,r=>by simp [gEta,gEta_length K]
theorem putG_all {K:List Kd} {r gs:List G} (h:gs.length=K.length):putG K r 0 gs=gs:=by
 simp [putG,h,gNorm_length,List.drop_eq_nil_of_le]
section
variable {K:List Kd} {C:List G→Option (List G)} {Q:List G→Prop} {c:List G→List G→Int}
structure Cmp (K:List Kd) (C:List G→Option (List G)) (Q:List G→Prop) (c:List G→List G→Int):Prop where
 cmp:∀ r s,Q r→Q s→C [.l [r],.l [s]]=some [.i (c r s)]
 eta:∀ r,Q r→gEta K r=r
def ltC (c:List G→List G→Int) (r s:List G):Bool:=ltI (c r s) 0
theorem ins4_runs (hC:Cmp K C Q c):∀ (p q:List (List G)) (x:List G) (b i:Int) (j:Nat),(∀ y∈p,Q y)→Q x→p.length<1000000→j=p.length →
  ∃ m,m≤p.length+1∧Runs (ins4 K C) m [.l (p.reverse++x::q),.i 0,.i b,.i i,.i (j:Int)] 0 [.l ((insA (ltC c) x p).reverse++q),.i 0,.i b,.i i]
 | [],q,x,b,i,j,_,_,_,hj=>by
  simp only [List.length_nil] at hj
  subst hj
  refine ⟨1,by simp,.stop (Ret.toEq ?_)⟩
  unfold ins4
  (dsimp +instances only [Aa,Ab,Ac,Ad,Ae,Af,Ag])
  refine Ret.n (Ret.p (Ret.some ?_))
  rfl
 | y::p,q,x,b,i,j,hp,hx,hl,hj=>by
  have hy:=hp y List.mem_cons_self
  have e1:(y::p).reverse++x::q=(p.reverse++[y])++x::q:=by simp
  have e2:(y::p).reverse++x::q=p.reverse++y::x::q:=by simp
  simp only [List.length_cons] at hl hj
  have g1:((y::p).reverse++x::q).getD (0+(j:Int).toNat) []=x:=by rw [e1]; exact getD_mid _ _ _ _ _ (by simp [hj])
  have g2:((y::p).reverse++x::q).getD (0+((j:Int)-1).toNat) []=y:=by rw [e2]; exact getD_mid _ _ _ _ _ (by simp [hj])
  have hlen:((y::p).reverse++x::q).length=p.length+q.length+2:=by simp; omega
  have hcmp:=hC.cmp x y hx hy
  cases hlt:ltC c x y with
  | false =>
   refine ⟨1,by simp,.stop (Ret.toEq ?_)⟩
   unfold ins4
   (dsimp +instances only [Aa,Ab,Ac,Ad,Ae,Af,Ag])
   simp only [hlen,g1,g2,hC.eta x hx,hC.eta y hy]
   refine Ret.p (Ret.p (Ret.p (Ret.p (Ret.p (Ret.p (Ret.call (Ret.eq hcmp) ?_))))))
   rintro _ rfl
   (dsimp +instances only [Aa,Ab,Ac,Ad,Ae,Af,Ag])
   refine Ret.neg hlt (Ret.p (Ret.some ?_))
   simp [insA,hlt]
  | true =>
   obtain ⟨m,hm,hr⟩:=ins4_runs hC p (y::q) x b i (j-1) (fun z hz=>hp z (List.mem_cons_of_mem _ hz)) hx (by omega) (by omega)
   refine ⟨m+1,by simp; omega,.next (Ret.toEq ?_) (by
    have e:(insA (ltC c) x (y::p)).reverse++q=(insA (ltC c) x p).reverse++y::q:=by simp [insA,hlt]
    rw [e]; exact hr)⟩
   have s1:((y::p).reverse++x::q).set (0+(j:Int).toNat) y=p.reverse++y::y::q:=by
    rw [e1,set_mid _ _ _ _ _ (by simp [hj])]; simp
   have s2:(p.reverse++y::y::q).set (0+((j:Int)-1).toNat) x=p.reverse++x::y::q:=set_mid _ _ _ _ _ (by simp [hj])
   have hl2:(p.reverse++y::y::q).length=p.length+q.length+2:=by simp; omega
   have hl3:(p.reverse++x::y::q).length=p.length+q.length+2:=by simp; omega
   have ky:y.length=K.length:=by rw [←hC.eta y hy,gEta_length]
   have kx:x.length=K.length:=by rw [←hC.eta x hx,gEta_length]
   unfold ins4
   (dsimp +instances only [Aa,Ab,Ac,Ad,Ae,Af,Ag])
   simp only [hlen,g1,g2,hC.eta x hx,hC.eta y hy,putG_all ky,putG_all kx,s1,s2,hl2,hl3]
   refine Ret.p (Ret.p (Ret.p (Ret.p (Ret.p (Ret.p (Ret.call (Ret.eq hcmp) ?_))))))
   rintro _ rfl
   (dsimp +instances only [Aa,Ab,Ac,Ad,Ae,Af,Ag])
   refine Ret.pos hlt ?_
   refine Ret.p (Ret.p (Ret.p (Ret.p (Ret.p (Ret.p (Ret.p (Ret.p (Ret.p (Ret.p (Ret.p (Ret.p (Ret.some ?_))))))))))))
   congr
   omega
theorem ins1_runs (hC:Cmp K C Q c):∀ (r p:List (List G)) (i n:Nat),(∀ y∈p,Q y)→(∀ y∈r,Q y)→i=p.length→n=p.length+r.length→n<100000 →
  ∃ m,m≤r.length+1∧Runs (ins1 K C) m [.l (p.reverse++r),.i 0,.i (n:Int),.i (i:Int)] 0 [.l (insAll (ltC c) p r).reverse]
 | [],p,i,n,_,_,hi,hn,hs=>by
  refine ⟨1,by simp,.stop (Ret.toEq ?_)⟩
  simp only [List.length_nil] at hn
  unfold ins1
  (dsimp +instances only [Aa,Ab,Ac,Ad,Ae,Af,Ag])
  refine Ret.n (Ret.some ?_)
  simp [insAll]
 | x::r,p,i,n,hp,hr,hi,hn,hs=>by
  simp only [List.length_cons] at hn
  obtain ⟨m1,hm1,h1⟩:=ins4_runs hC p r x (n:Int) (i:Int) i hp (hr x List.mem_cons_self) (by omega) hi
  obtain ⟨m,hm,h2⟩:=ins1_runs hC r (insA (ltC c) x p) (i+1) n (insA_all (hr x List.mem_cons_self) hp) (fun y hy=>hr y (List.mem_cons_of_mem _ hy)) (by rw [insA_length,hi]) (by rw [insA_length]; omega) hs
  refine ⟨m+1,by simp; omega,.next (Ret.toEq ?_) h2⟩
  unfold ins1
  (dsimp +instances only [Aa,Ab,Ac,Ad,Ae,Af,Ag])
  refine Ret.p (Ret.loop (P:=fun x g=>g=_) ⟨m1,0,_,h1,by omega,rfl⟩ (by (first|rfl|assumption|(simp only [inI,sl]<;>omega))) ?_)
  rintro _ _ rfl
  (dsimp +instances only [Aa,Ab,Ac,Ad,Ae,Af,Ag])
  refine Ret.p (Ret.p (Ret.some ?_))
  rfl
theorem insF_eq (hC:Cmp K C Q c) (rows:List (List G)) (hr:∀ y∈rows,Q y) (hn:rows.length<100000):insF K C [.l rows,.i 0,.i (rows.length:Int)]=some [.l (sortA (ltC c) rows)]:=by
 refine Ret.toEq ?_
 unfold insF
 (dsimp +instances only [Aa,Ab,Ac,Ad,Ae,Af,Ag])
 refine Ret.p ?_
 cases rows with
 | nil =>
  refine Ret.loop (P:=fun x g=>g=[.l []]) ⟨1,0,_,.stop (Ret.toEq (?_:Ret _ (fun g=>g=(some 0,[G.l []])))),by omega,rfl⟩ (by (first|rfl|assumption|(simp only [inI,sl]<;>omega))) ?_
  ·unfold ins1
   (dsimp +instances only [Aa,Ab,Ac,Ad,Ae,Af,Ag])
   exact Ret.n (Ret.some rfl)
  ·rintro _ _ rfl
   exact Ret.some rfl
 | cons x r =>
  simp only [List.length_cons] at hn
  obtain ⟨m,hm,h⟩:=ins1_runs hC r [x] 1 (r.length+1) (by simpa using hr x List.mem_cons_self) (fun y hy=>hr y (List.mem_cons_of_mem _ hy)) rfl (by simp; omega) (by omega)
  refine Ret.loop (P:=fun y g=>g=_) ⟨m,0,_,h,by omega,rfl⟩ (by (first|rfl|assumption|(simp only [inI,sl]<;>omega))) ?_
  rintro _ _ rfl
  exact Ret.some rfl
theorem insF_none (rows:List (List G)) (a b:Nat) (h:b≤a) (hn:a<100000):insF K C [.l rows,.i (a:Int),.i (b:Int)]=some [.l rows]:=by
 refine Ret.toEq ?_
 unfold insF
 (dsimp +instances only [Aa,Ab,Ac,Ad,Ae,Af,Ag])
 refine Ret.p ?_
 refine Ret.loop (P:=fun x g=>g=[.l rows]) ⟨1,0,_,.stop (Ret.toEq (?_:Ret _ (fun g=>g=(some 0,[G.l rows])))),by omega,rfl⟩ (by (first|rfl|assumption|(simp only [inI,sl]<;>omega))) ?_
 ·unfold ins1
  (dsimp +instances only [Aa,Ab,Ac,Ad,Ae,Af,Ag])
  exact Ret.n (Ret.some rfl)
 ·rintro _ _ rfl
  exact Ret.some rfl
theorem stabF_eq (hC:Cmp K C Q c) (rows:List (List G)) (hr:∀ y∈rows,Q y) (hn:rows.length≤20):stabF K C [.l rows,.i (rows.length:Int)]=some [.l (sortA (ltC c) rows)]:=by
 refine Ret.toEq ?_
 unfold stabF
 (dsimp +instances only [Aa,Ab,Ac,Ad,Ae,Af,Ag])
 have hS:=insF_eq hC rows hr (by omega)
 have hlen:=sortA_length (ltC c) rows
 have h7:∀ rows':List (List G),rows'.length=rows.length→RetL (stab7 K C) [.l rows',.i (rows.length:Int),.i 20] fun _ g=>g=[.l rows']:=by
  intro rows' hl
  refine RetL.stop (x:=0) (Ret.toEq ?_) rfl
  unfold stab7
  (dsimp +instances only [Aa,Ab,Ac,Ad,Ae,Af,Ag])
  exact Ret.n (Ret.some rfl)
 by_cases h20:rows.length=20
 ·have h1:stab2 K C [.l rows,.i (rows.length:Int),.i 20,.i 0,.i 20]=some (none,[.l (sortA (ltC c) rows),.i (rows.length:Int),.i 20,.i 20,.i 40]):=by
   refine Ret.toEq ?_
   unfold stab2
   (dsimp +instances only [Aa,Ab,Ac,Ad,Ae,Af,Ag])
   have hS:insF K C [.l rows,.i 0,.i 20]=some [.l (sortA (ltC c) rows)]:=by rw [h20] at hS; exact hS
   refine Ret.p (Ret.callb (Ret.eq hS) (by (first|rfl|assumption|(simp only [inI,sl]<;>omega))) ?_)
   rintro _ rfl
   (dsimp +instances only [Aa,Ab,Ac,Ad,Ae,Af,Ag])
   exact Ret.p (Ret.p (Ret.some rfl))
  have h2:stab2 K C [.l (sortA (ltC c) rows),.i (rows.length:Int),.i 20,.i 20,.i 40]=some (some 0,[.l (sortA (ltC c) rows),.i (rows.length:Int),.i 20,.i 20]):=by
   refine Ret.toEq ?_
   unfold stab2
   (dsimp +instances only [Aa,Ab,Ac,Ad,Ae,Af,Ag])
   exact Ret.n (Ret.p (Ret.some rfl))
  refine Ret.loop (P:=fun x g=>g=_) ⟨2,0,_,.next h1 (.stop h2),by omega,rfl⟩ (by (first|rfl|assumption|(simp only [inI,sl]<;>omega))) ?_
  rintro _ _ rfl
  (dsimp +instances only [Aa,Ab,Ac,Ad,Ae,Af,Ag])
  have hE:insF K C [.l (sortA (ltC c) rows),.i 20,.i (rows.length:Int)]=some [.l (sortA (ltC c) rows)]:=by
   rw [h20]; exact insF_none _ 20 20 (by omega) (by omega)
  refine Ret.callb (Ret.eq hE) (by (first|rfl|assumption|(simp only [inI,sl]<;>omega))) ?_
  rintro _ rfl
  (dsimp +instances only [Aa,Ab,Ac,Ad,Ae,Af,Ag])
  refine Ret.loop (h7 _ hlen) (by (first|rfl|assumption|(simp only [inI,sl]<;>omega))) ?_
  rintro _ _ rfl
  exact Ret.some rfl
 ·have h1:stab2 K C [.l rows,.i (rows.length:Int),.i 20,.i 0,.i 20]=some (some 0,[.l rows,.i (rows.length:Int),.i 20,.i 0]):=by
   refine Ret.toEq ?_
   unfold stab2
   (dsimp +instances only [Aa,Ab,Ac,Ad,Ae,Af,Ag])
   exact Ret.n (Ret.p (Ret.some rfl))
  refine Ret.loop (P:=fun x g=>g=_) ⟨1,0,_,.stop h1,by omega,rfl⟩ (by (first|rfl|assumption|(simp only [inI,sl]<;>omega))) ?_
  rintro _ _ rfl
  (dsimp +instances only [Aa,Ab,Ac,Ad,Ae,Af,Ag])
  refine Ret.callb (Ret.eq hS) (by (first|rfl|assumption|(simp only [inI,sl]<;>omega))) ?_
  rintro _ rfl
  (dsimp +instances only [Aa,Ab,Ac,Ad,Ae,Af,Ag])
  refine Ret.loop (h7 _ hlen) (by (first|rfl|assumption|(simp only [inI,sl]<;>omega))) ?_
  rintro _ _ rfl
  exact Ret.some rfl
theorem sortF_eq (hC:Cmp K C Q c) (rows:List (List G)) (hr:∀ y∈rows,Q y) (hn:rows.length≤20):sortF K C [.l rows]=some [.l (sortA (ltC c) rows)]:=by
 refine Ret.toEq ?_
 unfold sortF
 (dsimp +instances only [Aa,Ab,Ac,Ad,Ae,Af,Ag])
 refine Ret.callb (Ret.eq (stabF_eq hC rows hr hn)) (by (first|rfl|assumption|(simp only [inI,sl]<;>omega))) ?_
 rintro _ rfl
 exact Ret.some rfl
end
end Go.AL

namespace Go.AL
open Go
variable [Dr]
def cmpf9 (K:List Kd) (C:List G→Option (List G)) (Z:List G) (d:List G):Option (Option Nat × List G) :=
 (bif (ltI (gi d 4).int (((gi d 3).int.toNat:Nat):Int)) then (bif ((nnI (gi d 4).int)&&(ltI (gi d 4).int (((gi d 3).int.toNat:Nat):Int))) then (bif (decide (((gi d 2).int.toNat+((gi d 4).int).toNat)<(gi d 0).rows.length)) then (bif (inI ((gi d 4).int-1)) then (bif ((nnI ((gi d 4).int-1))&&(ltI ((gi d 4).int-1) (((gi d 3).int.toNat:Nat):Int))) then (bif (decide (((gi d 2).int.toNat+((gi d 4).int-1).toNat)<(gi d 0).rows.length)) then (callF (C [.l [(gEta K ((gi d 0).rows.getD ((gi d 2).int.toNat+((gi d 4).int).toNat) []))],.l [(gEta K ((gi d 0).rows.getD ((gi d 2).int.toNat+((gi d 4).int-1).toNat) []))]]) fun g2=>(bif (!(gi g2 0).bool) then (bif ((nnI (gi d 4).int)&&(ltI (gi d 4).int (((gi d 3).int.toNat:Nat):Int))) then (bif (decide (((gi d 2).int.toNat+((gi d 4).int).toNat)<(gi d 0).rows.length)) then (bif ((nnI (gi d 1).int)&&(ltI (gi d 1).int (((gi d 0).rows.length:Nat):Int))) then (bif (decide ((0+((gi d 1).int).toNat)<(gi d 0).rows.length)) then (bif (inI ((gi d 1).int+1)) then (bif (inI ((gi d 4).int+1)) then (bif ((Nat.beq (gi d 0).rows.length ((gi d 0).rows.set (0+((gi d 1).int).toNat) (putG K ((gi d 0).rows.getD (0+((gi d 1).int).toNat) []) 0 (gEta K ((gi d 0).rows.getD ((gi d 2).int.toNat+((gi d 4).int).toNat) [])))).length)&&true) then some (none,[.l ((gi d 0).rows.set (0+((gi d 1).int).toNat) (putG K ((gi d 0).rows.getD (0+((gi d 1).int).toNat) []) 0 (gEta K ((gi d 0).rows.getD ((gi d 2).int.toNat+((gi d 4).int).toNat) [])))),.i ((gi d 1).int+1),.i (((gi d 2).int.toNat:Nat):Int),.i (((gi d 3).int.toNat:Nat):Int),.i ((gi d 4).int+1)]) else none) else none) else none) else none) else none) else none) else none) else (bif (inI ((gi d 4).int+1)) then (bif ((Nat.beq (gi d 0).rows.length (gi d 0).rows.length)&&true) then some (none,[.l (gi d 0).rows,.i (gi d 1).int,.i (((gi d 2).int.toNat:Nat):Int),.i (((gi d 3).int.toNat:Nat):Int),.i ((gi d 4).int+1)]) else none) else none))) else none) else none) else none) else none) else none) else (bif ((Nat.beq (gi d 0).rows.length (gi d 0).rows.length)&&true) then some (some 0,[.l (gi d 0).rows,.i (gi d 1).int]) else none))
def cmpf4 (K:List Kd) (C:List G→Option (List G)) (Z:List G) (d:List G):Option (Option Nat × List G) :=
 (bif (ltI (gi d 1).int (((gi d 0).rows.length:Nat):Int)) then (bif ((nnI (gi d 1).int)&&(ltI (gi d 1).int (((gi d 0).rows.length:Nat):Int))) then (bif (decide ((0+((gi d 1).int).toNat)<(gi d 0).rows.length)) then (bif (inI ((gi d 1).int-1)) then (bif ((nnI ((gi d 1).int-1))&&(ltI ((gi d 1).int-1) (((gi d 0).rows.length:Nat):Int))) then (bif (decide ((0+((gi d 1).int-1).toNat)<(gi d 0).rows.length)) then (callF (C [.l [(gEta K ((gi d 0).rows.getD (0+((gi d 1).int).toNat) []))],.l [(gEta K ((gi d 0).rows.getD (0+((gi d 1).int-1).toNat) []))]]) fun g1=>(bif (gi g1 0).bool then (bif ((nnI (gi d 1).int)&&(leI (gi d 1).int (((gi d 0).rows.length:Nat):Int))) then (loopB ((Nat.beq (gi d 0).rows.length (gi d 0).rows.length)&&true) (LRun (cmpf9 K C Z) [.l (gi d 0).rows,.i (gi d 1).int,.i (((0+((gi d 1).int).toNat):Nat):Int),.i ((((gi d 0).rows.length-((gi d 1).int).toNat):Nat):Int),.i 1]) fun cg3 g3=>(bif ((nnI (gi g3 1).int)&&(leI (gi g3 1).int (((gi g3 0).rows.length:Nat):Int))) then (bif (Nat.ble ((0+((gi g3 1).int).toNat)+((gi g3 0).rows.length-((gi g3 1).int).toNat)) (gi g3 0).rows.length) then (bif ((nnI (gi g3 1).int)&&(leI (gi g3 1).int (((gi g3 0).rows.length:Nat):Int))) then some (some 0,[.l ((gi g3 0).rows.take (0+((gi g3 1).int).toNat)++List.replicate ((gi g3 0).rows.length-((gi g3 1).int).toNat) Z++(gi g3 0).rows.drop ((0+((gi g3 1).int).toNat)+((gi g3 0).rows.length-((gi g3 1).int).toNat))),.i (((((gi g3 1).int).toNat-0):Nat):Int)]) else none) else none) else none)) else none) else (bif (inI ((gi d 1).int+1)) then (bif ((Nat.beq (gi d 0).rows.length (gi d 0).rows.length)&&true) then some (none,[.l (gi d 0).rows,.i ((gi d 1).int+1)]) else none) else none))) else none) else none) else none) else none) else none) else (bif ((Nat.beq (gi d 0).rows.length (gi d 0).rows.length)&&true) then some (some 1,[.l (gi d 0).rows]) else none))
def cmpfF (K:List Kd) (C:List G→Option (List G)) (Z:List G) (d:List G):Option (List G) :=
 (bif (ltI (((gi d 0).rows.length:Nat):Int) 2) then some [.l (gi d 0).rows,.i (((gi d 0).rows.length:Nat):Int)] else (loopB ((Nat.beq (gi d 0).rows.length (gi d 0).rows.length)&&true) (LRun (cmpf4 K C Z) [.l (gi d 0).rows,.i 1]) fun cg4 g4=>(bif Nat.beq cg4 0 then some [.l (gi g4 0).rows,.i (((gi g4 1).int.toNat:Nat):Int)] else some [.l (gi g4 0).rows,.i (((gi g4 0).rows.length:Nat):Int)])))
def compA {α:Type} (e:α→α→Bool):α→List α→List α
 | _,[]=>[]
 | y,x::q=>bif e x y then compA e x q else x::compA e x q
def compact {α:Type} (e:α→α→Bool):List α→List α
 | []=>[]
 | x::q=>x::compA e x q
theorem compA_length {α:Type} (e:α→α→Bool):∀ (q:List α) (y:α),(compA e y q).length≤q.length
 | [],_=>Nat.le_refl _
 | x::q,y=>by
  have:=compA_length e q x
  simp only [compA]
  cases e x y with
  | true=>simp; omega
  | false=>simp; omega
theorem compA_mem {α:Type} {e:α→α→Bool}:∀ {q:List α} {y z:α},z∈compA e y q→z∈q
 | x::q,y,z,h=>by
  simp only [compA] at h
  cases he:e x y with
  | true=>rw [he] at h; exact List.mem_cons_of_mem _ (compA_mem h)
  | false =>
   rw [he] at h
   rcases List.mem_cons.1 h with rfl | h
   ·exact List.mem_cons_self
   ·exact List.mem_cons_of_mem _ (compA_mem h)
theorem compact_mem {α:Type} {e:α→α→Bool}:∀ {l:List α} {z:α},z∈compact e l→z∈l
 | x::q,z,h=>by
  rcases List.mem_cons.1 h with rfl | h
  ·exact List.mem_cons_self
  ·exact List.mem_cons_of_mem _ (compA_mem h)
theorem compact_length {α:Type} (e:α→α→Bool):∀ l:List α,(compact e l).length≤l.length
 | []=>Nat.le_refl _
 | x::q=>by have:=compA_length e q x; simp [compact]; omega
section
variable {K:List Kd} {Z:List G} {Q:List G→Prop}
structure Kds (K:List Kd) (Q:List G→Prop):Prop where
 eta:∀ r,Q r→gEta K r=r
structure Eqv (K:List Kd) (C:List G→Option (List G)) (Q:List G→Prop) (e:List G→List G→Bool):Prop where
 cmp:∀ r s,Q r→Q s→C [.l [r],.l [s]]=some [.t (e r s)]
 eta:∀ r,Q r→gEta K r=r
variable {C:List G→Option (List G)} {ee:List G→List G→Bool}
theorem cmpf9_runs (hC:Eqv K C Q ee):∀ (q kept M:List (List G)) (y:List G) (lo len k2:Nat),(∀ z∈kept++M++y::q,Q z)→lo+k2=kept.length+M.length+1→k2+q.length=len→kept.length+M.length+q.length<100000→1≤k2 →
  ∃ m J,m≤q.length+1∧(kept++compA ee y q++J).length=kept.length+M.length+1+q.length∧Runs (cmpf9 K C Z) m [.l (kept++M++y::q),.i (kept.length:Int),.i (lo:Int),.i (len:Int),.i (k2:Int)] 0 [.l (kept++compA ee y q++J),.i ((kept++compA ee y q).length:Int)]
 | [],kept,M,y,lo,len,k2,hQ,h1,h2,h3,h4=>by
  refine ⟨1,M++[y],by simp,by simp [compA]; omega,.stop (Ret.toEq ?_)⟩
  simp only [List.length_nil] at h2 h3
  unfold cmpf9
  (dsimp +instances only [Aa,Ab,Ac,Ad,Ae,Af,Ag])
  (repeat first|refine Ret.p ?_|refine Ret.n ?_)
  refine Ret.some ?_
  simp [compA]
 | x::q,kept,M,y,lo,len,k2,hQ,h1,h2,h3,h4=>by
  simp only [List.length_cons] at h2 h3
  have hx:Q x:=hQ x (by simp)
  have hy:Q y:=hQ y (by simp)
  have g1:(kept++M++y::x::q).getD ((lo:Int).toNat+(k2:Int).toNat) []=x:=by
   have e:kept++M++y::x::q=(kept++M++[y])++x::q:=by simp
   rw [e]; exact getD_mid _ _ _ _ _ (by simp<;>omega)
  have g2:(kept++M++y::x::q).getD ((lo:Int).toNat+((k2:Int)-1).toNat) []=y:=getD_mid _ _ _ _ _ (by simp; omega)
  have hlen:(kept++M++y::x::q).length=kept.length+M.length+q.length+2:=by simp; omega
  cases he:ee x y with
  | true =>
   obtain ⟨m,J,hm,hJ,hr⟩:=cmpf9_runs hC q kept (M++[y]) x lo len (k2+1) (by simpa using hQ) (by simp; omega) (by omega) (by simp; omega) (by omega)
   have e:compA ee y (x::q)=compA ee x q:=by simp [compA,he]
   refine ⟨m+1,J,by simp; omega,by rw [e,hJ]; simp; omega,.next (Ret.toEq ?_) (by rw [e]; exact hr)⟩
   unfold cmpf9
   (dsimp +instances only [Aa,Ab,Ac,Ad,Ae,Af,Ag])
   simp only [hlen,g1,g2,hC.eta x hx,hC.eta y hy]
   (repeat first|refine Ret.p ?_|refine Ret.n ?_)
   refine Ret.cE (hC.cmp x y hx hy) ?_
   (dsimp +instances only [Aa,Ab,Ac,Ad,Ae,Af,Ag])
   try simp only [he]
   (repeat first|refine Ret.p ?_|refine Ret.n ?_)
   refine Ret.some ?_
   simp
  | false =>
   obtain ⟨kept',M',e1,e2⟩:∃ kept' M',(kept++M++y::x::q).set kept.length x=kept'++M'++x::q∧(kept'=kept++[x]∧M'.length=M.length∧∀ z∈M',z∈M++[y]):=by
    cases M with
    | nil=>exact ⟨kept++[x],[],by simp,rfl,rfl,by simp⟩
    | cons z M=>exact ⟨kept++[x],M++[y],by simp,rfl,by simp,by simp; intro z hz; rcases hz with hz | hz<;>simp [hz]⟩
   obtain ⟨e2,e3,e4⟩:=e2
   subst e2
   obtain ⟨m,J,hm,hJ,hr⟩:=cmpf9_runs hC q (kept++[x]) M' x lo len (k2+1) (by
    intro z hz
    simp only [List.mem_append,List.mem_cons] at hz
    rcases hz with ((hz | hz) | hz) | hz | hz
    ·exact hQ z (by simp [hz])
    ·simp at hz; exact hz▸hx
    ·have := e4 z hz
     simp only [List.mem_append,List.mem_cons] at this
     rcases this with h | h | h
     ·exact hQ z (by simp [h])
     ·exact h▸hy
     ·simp at h
    ·exact hz▸hx
    ·exact hQ z (by simp [hz])) (by simp [e3]; omega) (by omega) (by simp [e3]; omega) (by omega)
   have e:kept++compA ee y (x::q)=(kept++[x])++compA ee x q:=by simp [compA,he]
   refine ⟨m+1,J,by simp; omega,by rw [e,hJ]; simp [e3]; omega,.next (Ret.toEq ?_) (by rw [e]; exact hr)⟩
   have kx:x.length=K.length:=by rw [←hC.eta x hx,gEta_length]
   have hl2:((kept++[x])++M'++x::q).length=kept.length+M.length+q.length+2:=by simp [e3]; omega
   have e1:(kept++M++y::x::q).set (0+(kept.length:Int).toNat) x=(kept++[x])++M'++x::q:=by simpa using e1
   unfold cmpf9
   (dsimp +instances only [Aa,Ab,Ac,Ad,Ae,Af,Ag])
   simp only [hlen,g1,g2,hC.eta x hx,hC.eta y hy,putG_all kx,e1,hl2]
   (repeat first|refine Ret.p ?_|refine Ret.n ?_)
   refine Ret.cE (hC.cmp x y hx hy) ?_
   (dsimp +instances only [Aa,Ab,Ac,Ad,Ae,Af,Ag])
   try simp only [he]
   (repeat first|refine Ret.p ?_|refine Ret.n ?_)
   refine Ret.some ?_
   simp
theorem cmpf4_runs (hC:Eqv K C Q ee):∀ (q p:List (List G)) (y:List G),(∀ z∈p++y::q,Q z)→p.length+q.length<99999 →
  (∃ m,m≤q.length+1∧compA ee y q=q∧Runs (cmpf4 K C Z) m [.l (p++y::q),.i ((p.length:Int)+1)] 1 [.l (p++y::q)]) ∨
  ∃ m J,m≤q.length+1∧(p++y::compA ee y q++J).length=p.length+1+q.length∧Runs (cmpf4 K C Z) m [.l (p++y::q),.i ((p.length:Int)+1)] 0 [.l (p++y::compA ee y q++J),.i ((p++y::compA ee y q).length:Int)]
 | [],p,y,hQ,h3=>by
  refine .inl ⟨1,by simp,rfl,.stop (Ret.toEq ?_)⟩
  simp only [List.length_nil] at h3
  unfold cmpf4
  (dsimp +instances only [Aa,Ab,Ac,Ad,Ae,Af,Ag])
  (repeat first|refine Ret.p ?_|refine Ret.n ?_)
  exact Ret.some rfl
 | x::q,p,y,hQ,h3=>by
  simp only [List.length_cons] at h3
  have hx:Q x:=hQ x (by simp)
  have hy:Q y:=hQ y (by simp)
  have g1:(p++y::x::q).getD (0+((p.length:Int)+1).toNat) []=x:=by
   have e:p++y::x::q=(p++[y])++x::q:=by simp
   rw [e]; exact getD_mid _ _ _ _ _ (by simp<;>omega)
  have g2:(p++y::x::q).getD (0+((p.length:Int)+1-1).toNat) []=y:=getD_mid _ _ _ _ _ (by simp<;>omega)
  have hlen:(p++y::x::q).length=p.length+q.length+2:=by simp; omega
  cases he:ee x y with
  | true =>
   obtain ⟨m,J,hm,hJ,hr⟩:=cmpf9_runs hC q (p++[y]) [] x (p.length+1) (q.length+1) 1 (by simpa using hQ) (by simp) (by omega) (by simp; omega) (by omega)
   have e:p++y::compA ee y (x::q)=(p++[y])++compA ee x q:=by simp [compA,he]
   have hJ':(((p++[y])++compA ee x q)++J).length=p.length+q.length+2:=by rw [hJ]; simp; omega
   have hle:((p++[y])++compA ee x q).length≤p.length+q.length+2:=by rw [←hJ']; simp
   have hr':Runs (cmpf9 K C Z) m [.l (p++y::x::q),.i ((p.length:Int)+1),.i ((0+((p.length:Int)+1).toNat:Nat):Int),.i ((p.length+q.length+2-((p.length:Int)+1).toNat:Nat):Int),.i 1] 0 [.l ((p++[y])++compA ee x q++J),.i (((p++[y])++compA ee x q).length:Int)]:=by
    have a1:(((p++[y]).length:Nat):Int)=(p.length:Int)+1:=by simp
    have a2:((p.length+1:Nat):Int)=((0+((p.length:Int)+1).toNat:Nat):Int):=by omega
    have a3:((q.length+1:Nat):Int)=((p.length+q.length+2-((p.length:Int)+1).toNat:Nat):Int):=by omega
    rw [a1,a2,a3] at hr
    simpa using hr
   refine .inr ⟨1,List.replicate (p.length+q.length+2-((p++[y])++compA ee x q).length) Z,by simp,by rw [e,List.length_append,List.length_replicate]; simp at hle ⊢; omega,.stop (Ret.toEq ?_)⟩
   rw [e]
   generalize hw:(p++[y])++compA ee x q=w at *
   unfold cmpf4
   (dsimp +instances only [Aa,Ab,Ac,Ad,Ae,Af,Ag])
   simp only [hlen,g1,g2,hC.eta x hx,hC.eta y hy]
   (repeat first|refine Ret.p ?_|refine Ret.n ?_)
   refine Ret.cE (hC.cmp x y hx hy) ?_
   (dsimp +instances only [Aa,Ab,Ac,Ad,Ae,Af,Ag])
   try simp only [he]
   (repeat first|refine Ret.p ?_|refine Ret.n ?_)
   refine Ret.loop (P:=fun x g=>g=_) ⟨m,0,_,hr',by omega,rfl⟩ (by (first|rfl|assumption|(simp only [inI,sl]<;>omega))) ?_
   rintro _ _ rfl
   (dsimp +instances only [Aa,Ab,Ac,Ad,Ae,Af,Ag])
   simp only [hJ']
   (repeat first|refine Ret.p ?_|refine Ret.n ?_)
   refine Ret.some ?_
   have t1:List.take (0+(w.length:Int).toNat) (w++J)=w:=by simp
   have t2:List.drop (0+(w.length:Int).toNat+(p.length+q.length+2-(w.length:Int).toNat)) (w++J)=[]:=by
    apply List.drop_eq_nil_of_le; rw [hJ']; omega
   rw [t1,t2]
   simp
  | false =>
   have e:compA ee y (x::q)=x::compA ee x q:=by simp [compA,he]
   have key:cmpf4 K C Z [.l (p++y::x::q),.i ((p.length:Int)+1)]=some (none,[.l ((p++[y])++x::q),.i ((((p++[y]).length:Nat):Int)+1)]):=by
    refine Ret.toEq ?_
    unfold cmpf4
    (dsimp +instances only [Aa,Ab,Ac,Ad,Ae,Af,Ag])
    simp only [hlen,g1,g2,hC.eta x hx,hC.eta y hy]
    (repeat first|refine Ret.p ?_|refine Ret.n ?_)
    refine Ret.cE (hC.cmp x y hx hy) ?_
    (dsimp +instances only [Aa,Ab,Ac,Ad,Ae,Af,Ag])
    try simp only [he]
    (repeat first|refine Ret.p ?_|refine Ret.n ?_)
    refine Ret.some ?_
    simp
   rcases cmpf4_runs hC q (p++[y]) x (by simpa using hQ) (by simp; omega) with ⟨m,hm,hc,hr⟩ | ⟨m,J,hm,hJ,hr⟩
   ·refine .inl ⟨m + 1, by simp; omega, by rw [e, hc], .next key ?_⟩
    have:p++y::x::q=(p++[y])++x::q:=by simp
    rw [this]; exact hr
   ·have e' : p ++ y :: compA ee y (x :: q) = (p ++ [y]) ++ x :: compA ee x q := by rw [e]; simp
    refine .inr ⟨m+1,J,by simp; omega,by rw [e',hJ]; simp; omega,.next key ?_⟩
    rw [e']; exact hr
theorem cmpfF_eq (hC:Eqv K C Q ee) (rows:List (List G)) (hr:∀ y∈rows,Q y) (hn:rows.length<99999):Ret (cmpfF K C Z [.l rows]) fun g=>∃ J,g=[.l (compact ee rows++J),.i ((compact ee rows).length:Int)]∧(compact ee rows++J).length=rows.length:=by
 unfold cmpfF
 (dsimp +instances only [Aa,Ab,Ac,Ad,Ae,Af,Ag])
 match rows,hr,hn with
 | [],_,_=>exact Ret.p (Ret.some ⟨[],rfl,rfl⟩)
 | [x],_,_=>exact Ret.p (Ret.some ⟨[],rfl,rfl⟩)
 | y::x::q,hr,hn =>
  simp only [List.length_cons] at hn
  refine Ret.n ?_
  rcases cmpf4_runs hC (x::q) [] y (by simpa using hr) (by simp; omega) with ⟨m,hm,hc,hr⟩ | ⟨m,J,hm,hJ,hr⟩
  ·refine Ret.loop (P := fun x g => x = 1 ∧ g = _) ⟨m, 1, _, hr, by simp at hm; omega, rfl, rfl⟩ (by (first|rfl|assumption|(simp only [inI,sl]<;>omega))) ?_
   rintro _ _ ⟨rfl,rfl⟩
   refine Ret.n (Ret.some ⟨[],?_,?_⟩)
   ·(dsimp +instances only [Aa,Ab,Ac,Ad,Ae,Af,Ag])
    simp [compact,hc]
   ·simp [compact,hc]
  ·refine Ret.loop (P := fun x g => x = 0 ∧ g = _) ⟨m, 0, _, hr, by simp at hm; omega, rfl, rfl⟩ (by (first|rfl|assumption|(simp only [inI,sl]<;>omega))) ?_
   rintro _ _ ⟨rfl,rfl⟩
   refine Ret.p (Ret.some ⟨J,?_,?_⟩)
   ·(dsimp +instances only [Aa,Ab,Ac,Ad,Ae,Af,Ag])
    simp [compact]
   ·simpa [compact,Nat.add_comm] using hJ
end
end Go.AL

namespace Go.AL
open Go
variable [Dr]
section
variable {K:List Kd} {Q:List G→Prop}
end
end Go.AL

namespace Go.AL
open Go
variable [Dr]
section
variable {K:List Kd} {Z:List G} {Q:List G→Prop} {C:List G→Option (List G)} {cp:G→G} {cap:G} {p:List G→Bool}
structure Prd (K:List Kd) (C:List G→Option (List G)) (cp:G→G) (cap:G) (Q:List G→Prop) (p:List G→Bool):Prop where
 cmp:∀ r,Q r→C [.l [r],cap]=some [.t (p r)]
 eta:∀ r,Q r→gEta K r=r
 fix:cp cap=cap
end
section
variable {K:List Kd} {Z:List G}
end
end Go.AL

namespace Go.AL
open Go
variable [Dr]
section sort
variable {α:Type} {lt:α→α→Bool}
theorem insA_perm (x:α):∀ p:List α,(insA lt x p).Perm (x::p)
 | []=>List.Perm.refl _
 | y::p=>by
  simp only [insA]
  cases lt x y with
  | true=>exact (List.Perm.cons y (insA_perm x p)).trans (List.Perm.swap x y p)
  | false=>exact List.Perm.refl _
theorem insAll_perm:∀ (r p:List α),(insAll lt p r).Perm (p++r)
 | [],p=>by simp [insAll]
 | x::r,p=>by
  simp only [insAll]
  refine (insAll_perm r (insA lt x p)).trans ?_
  refine (List.Perm.append_right r (insA_perm x p)).trans ?_
  simpa using (List.perm_middle (a:=x) (l₁:=p) (l₂:=r)).symm
theorem sortA_perm (l:List α):(sortA lt l).Perm l:=by
 unfold sortA
 exact (List.reverse_perm _).trans (by simpa using insAll_perm (lt:=lt) l [])
structure Lin (lt:α→α→Bool) (Q:α→Prop):Prop where
 tr:∀ a b c,Q a→Q b→Q c→lt a b=false→lt b c=false→lt a c=false
 asy:∀ a b,Q a→Q b→lt a b=true→lt b a=false
variable {Q:α→Prop}
theorem insA_desc (hL:Lin lt Q) {x:α} (hx:Q x):∀ {p:List α},(∀ y∈p,Q y)→p.Pairwise (fun a b=>lt a b=false)→(insA lt x p).Pairwise (fun a b=>lt a b=false)
 | [],_,_=>by simp [insA]
 | y::p,hq,hp=>by
  obtain ⟨h1,h2⟩:=List.pairwise_cons.1 hp
  have hy:=hq y List.mem_cons_self
  have hp':∀ z∈p,Q z:=fun z hz=>hq z (List.mem_cons_of_mem _ hz)
  simp only [insA]
  cases hxy:lt x y with
  | true =>
   refine List.pairwise_cons.2 ⟨fun z hz=>?_,insA_desc hL hx hp' h2⟩
   rcases List.mem_cons.1 ((insA_perm x p).mem_iff.1 hz) with rfl | hz
   ·exact hL.asy _ _ hx hy hxy
   ·exact h1 z hz
  | false =>
   refine List.pairwise_cons.2 ⟨fun z hz=>?_,hp⟩
   rcases List.mem_cons.1 hz with rfl | hz
   ·exact hxy
   ·exact hL.tr x y z hx hy (hp' z hz) hxy (h1 z hz)
theorem insAll_desc (hL:Lin lt Q):∀ {r p:List α},(∀ y∈p,Q y)→(∀ y∈r,Q y)→p.Pairwise (fun a b=>lt a b=false)→(insAll lt p r).Pairwise (fun a b=>lt a b=false)
 | [],_,_,_,hp=>by simpa [insAll] using hp
 | x::r,p,hq,hr,hp=>by
  simp only [insAll]
  refine insAll_desc hL (fun y hy=>?_) (fun y hy=>hr y (List.mem_cons_of_mem _ hy)) (insA_desc hL (hr x List.mem_cons_self) hq hp)
  rcases List.mem_cons.1 ((insA_perm x p).mem_iff.1 hy) with rfl | hy
  ·exact hr _ List.mem_cons_self
  ·exact hq y hy
theorem sortA_sorted (hL:Lin lt Q) {l:List α} (hl:∀ y∈l,Q y):(sortA lt l).Pairwise (fun a b=>lt b a=false):=by
 unfold sortA
 rw [List.pairwise_reverse]
 exact insAll_desc hL (by simp) hl List.Pairwise.nil
theorem sorted_unique:∀ {l r:List α},l.Perm r→(∀ a∈l,∀ b∈l,lt a b=false→lt b a=false→a=b)→l.Pairwise (fun a b=>lt b a=false)→r.Pairwise (fun a b=>lt b a=false)→l=r
 | [],r,hp,_,_,_=>hp.nil_eq
 | a::l,[],hp,_,_,_=>by simpa using hp.length_eq
 | a::l,b::r,hp,ha,h1,h2=>by
  obtain ⟨h3,h4⟩:=List.pairwise_cons.1 h1
  obtain ⟨h5,h6⟩:=List.pairwise_cons.1 h2
  have e:a=b:=by
   have hb:b∈a::l:=hp.symm.subset List.mem_cons_self
   have ha':a∈b::r:=hp.subset List.mem_cons_self
   rcases List.mem_cons.1 hb with e | hb'
   ·exact e.symm
   ·rcases List.mem_cons.1 ha' with e | ha''
    ·exact e
    ·exact ha a List.mem_cons_self b hb (h5 a ha'') (h3 b hb')
  subst e
  rw [sorted_unique ((List.perm_cons a).1 hp) (fun x hx y hy=>ha x (List.mem_cons_of_mem _ hx) y (List.mem_cons_of_mem _ hy)) h4 h6]
theorem sortA_unique (hL:Lin lt Q) {l r:List α} (hp:l.Perm r) (hl:∀ y∈l,Q y) (ha:∀ a∈l,∀ b∈l,lt a b=false→lt b a=false→a=b):sortA lt l=sortA lt r :=
 sorted_unique ((sortA_perm l).trans (hp.trans (sortA_perm r).symm)) (fun a h b h'=>ha a ((sortA_perm l).mem_iff.1 h) b ((sortA_perm l).mem_iff.1 h')) (sortA_sorted hL hl)
  (sortA_sorted hL fun y hy=>hl y (hp.mem_iff.2 hy))
end sort
theorem rangeR_of {sp:RSpec} {tl:List G→Option (Option Nat × List G)} {rows:List (List G)} {clock:Nat} {d:List G} {r:Option Nat × List G} (hok:okSt rows clock=true)
  (h:∀ b p,p.Perm rows→sp.side d b=true∧∃ d',foldR sp.st sp.adr p (sp.init d b)=some d'∧tl d'=some r):rangeR sp tl rows clock d=some r:=by
 unfold rangeR
 rw [hok]
 refine permB_of fun b p hp=>?_
 obtain ⟨h1,d',h2,h3⟩:=h b p hp
 rw [h1,cond_true,h2]
 exact h3
end Go.AL

namespace Go.AL
open Go
variable [Dr]
section
variable {α:Type} (f:α→Int)
end
section
variable {α:Type} {e:α→α→Bool}
end
end Go.AL

namespace Go.AL
open Go
variable [Dr]
section
variable {K:List Kd} {C:List G→Option (List G)} {Q:List G→Prop} {c:List G→List G→Int}
end
end Go.AL

namespace Go.AL
open Go
variable [Dr]
section
variable {C:List G→Option (List G)} {Q:List G→Prop} {c:List G→List G→Int}
theorem Lin.mono {α:Type} {lt:α→α→Bool} {Q Q':α→Prop} (h:Lin lt Q) (hq:∀ a,Q' a→Q a):Lin lt Q' :=
 ⟨fun a b d ha hb hd=>h.tr a b d (hq a ha) (hq b hb) (hq d hd),fun a b ha hb=>h.asy a b (hq a ha) (hq b hb)⟩
def CmpS (C:List G→Option (List G)) (Q:List G→Prop) (c:List G→List G→Int):Prop:=∀ r s,Q r→Q s→∃ v,C [.l [r],.l [s]]=some [.i v]∧(v<0↔c r s<0)
end
end Go.AL

namespace Go.AL
open Go Go.Proofs
variable [Dr]
variable {C:List G→Option (List G)} {Q:List G→Prop} {c:List G→List G→Int}
theorem cmpZ_eq (hC:CmpS C Q c) {r s:List G} (hr:Q r) (hs:Q s):decide (cmpZ C r s<0)=ltC c r s:=by
 obtain ⟨v,h,hv⟩:=hC r s hr hs
 unfold cmpZ ltC
 rw [h,ltI_eq]
 show decide (v<0)=_
 rw [Bool.eq_iff_iff,decide_eq_true_eq,decide_eq_true_eq]
 exact hv
theorem ltOf_num (hC:CmpS C Q c) {rows:List (List G)} (hr:∀ y∈rows,Q y) (h0:rows≠[]) (i j:Nat):ltOf (numC C rows) i j=ltC c (elS rows i) (elS rows j) :=
 cmpZ_eq hC (hr _ (elS_mem h0 i)) (hr _ (elS_mem h0 j))
theorem sortOK_of (hC:CmpS C Q c) (hL:Lin (ltC c) Q) {rows:List (List G)} (hr:∀ y∈rows,Q y) (h0:rows≠[]) (hn:rows.length<100000):SortOK C rows:=by
 have hq:=fun i=>hr _ (elS_mem h0 i)
 refine ⟨fun r h s h'=>by obtain ⟨v,e,_⟩:=hC r s (hr r h) (hr s h'); exact ⟨v,e⟩,⟨fun x=>?_,fun x y z=>?_,fun x y z=>?_⟩,by omega⟩
 ·rw [ltOf_num hC hr h0]
  cases h:ltC c (elS rows x) (elS rows x) with
  | false=>rfl
  | true=>rw [hL.asy _ _ (hq x) (hq x) h] at h; cases h
 ·rw [ltOf_num hC hr h0, ltOf_num hC hr h0, ltOf_num hC hr h0]
  intro h1 h2
  cases h:ltC c (elS rows x) (elS rows z) with
  | true=>rfl
  | false =>
   have:=hL.tr _ _ _ (hq x) (hq z) (hq y) h (hL.asy _ _ (hq y) (hq z) h2)
   rw [this] at h1
   cases h1
 ·rw [ltOf_num hC hr h0, ltOf_num hC hr h0, ltOf_num hC hr h0]
  exact hL.tr _ _ _ (hq x) (hq y) (hq z)
theorem sortG_some (hC:CmpS C Q c) (hL:Lin (ltC c) Q) (rows:List (List G)) (hr:∀ y∈rows,Q y) (hn:rows.length<100000) :
  ∃ out,sortG C [.l rows]=some [.l out]∧out.Perm rows∧out.Pairwise fun a b=>ltC c b a=false:=by
 unfold sortG
 have e:(gi [G.l rows] 0).rows=rows:=rfl
 rw [e]
 by_cases h0:rows=[]
 ·rw [if_pos h0, h0]
  exact ⟨[],rfl,List.Perm.refl _,List.Pairwise.nil⟩
 ·have hok := sortOK_of hC hL hr h0 hn
  rw [if_neg h0,if_pos hok]
  have hp:=sortL_perm hok
  refine ⟨_,rfl,hp,?_⟩
  refine List.Pairwise.imp_of_mem ?_ (sortL_sorted hok)
  intro a b h1 h2 h
  rw [←cmpZ_eq hC (hr b (hp.mem_iff.1 h2)) (hr a (hp.mem_iff.1 h1)),decide_eq_false_iff_not]
  exact h
theorem sortG_eq (hC:CmpS C Q c) (hL:Lin (ltC c) Q) (rows:List (List G)) (hr:∀ y∈rows,Q y) (hn:rows.length<100000) (ha:∀ a∈rows,∀ b∈rows,ltC c a b=false→ltC c b a=false→a=b) :
  sortG C [.l rows]=some [.l (sortA (ltC c) rows)]:=by
 obtain ⟨out,h,hp,hs⟩:=sortG_some hC hL rows hr hn
 rw [h,sorted_unique (hp.trans (sortA_perm (lt:=ltC c) rows).symm) (fun a h1 b h2=>ha a (hp.mem_iff.1 h1) b (hp.mem_iff.1 h2)) hs (sortA_sorted hL hr)]
end Go.AL

namespace Go.AL
open Go
variable [Dr]
noncomputable abbrev rLo (r:List G):Int:=(gi r 0).int
noncomputable abbrev rHi (r:List G):Int:=(gi r 1).int
def IsR (r:List G):Prop:=r=[.i (rLo r),.i (rHi r)]∧rLo r<rHi r
def memR (l:List (List G)) (n:Int):Prop:=∃ r∈l,rLo r≤n∧n<rHi r
def CanR (l:List (List G)):Prop:=(∀ r∈l,IsR r)∧l.Pairwise fun r s=>rHi r<rLo s
/-! ### Rows put together -/
/-! ### Rows without others -/
structure CutI (out:List (List G)) (a b:Int) (os:List (List G)) (ps:List (List G)) (f:Int):Prop where
 low:a≤f
 at_:f=a∨∃ o∈os,f=rHi o
 past:∀ o∈os,rHi o≤f∨b≤rLo o
 mem:∀ n,memR ps n↔a≤n∧n<f∧n<b∧¬ memR os n
 can:CanR (out++ps)
 gap:∀ s∈out++ps,rHi s<f
 many:ps.length≤os.length
end Go.AL
