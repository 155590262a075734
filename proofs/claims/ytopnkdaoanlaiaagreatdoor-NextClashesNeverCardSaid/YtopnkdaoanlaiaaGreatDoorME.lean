/-
 What is proved here: rules by which lifted functions are shown to give what they should. No program in sight; no condition.
-/
import Derived.Test.YtopnkdaoanlaiaaGreatDoorMD
import Derived.Test.YtopnkdaoanlaiaaGreatDoorMH
import Derived.Test.YtopnkdaoanlaiaaGreatDoorMU
import Derived.Lib.ItoaNum
import Derived.Lib.SlTrimSet
set_option linter.all false
open Bool renaming and_true→dZ,and_eq_true→aw,eq_iff_iff→j7
open List renaming length_cons→di,getElem?_eq_getElem→bE,getD_eq_getElem?_getD→cH,mem_cons→bI,mem_cons_self→cZ,mem_cons_of_mem→cU,length_nil→kY,pairwise_cons→l5
open List.Pairwise renaming imp_of_mem→ajw
open List.Perm renaming refl→sc
open Nat renaming beq→ab
namespace Go.AL
open Go
variable [Dr]
def aa{β:Type}(x:Option β)(Q:β→Prop):Prop:=∃ r,x=some r∧Q r
def fy(st:List G→Option (Option Nat × List G))(d:List G)(Q:Nat→List G→Prop):Prop:=∃ n x d',lD st n d x d'∧n≤1000000∧Q x d'
namespace aa
variable {β:Type} {Q:β→Prop}
theorem some{r:β}(h:Q r):aa (some r) Q:=⟨r,rfl,h⟩
theorem pos{b:Bool}{x y:Option β}(h:b=true)(d:aa x Q):aa (bif b then x else y) Q:=by subst h; exact d
theorem neg{b:Bool}{x y:Option β}(h:b=false)(d:aa y Q):aa (bif b then x else y) Q:=by subst h; exact d
theorem test{b:Bool}{x y:Option β}(d:b=true→aa x Q)(g:b=false→aa y Q):aa (bif b then x else y) Q:=by
 cases b with
 |true=>exact d rfl
 |false=>exact g rfl
theorem call{t:Option (List G)}{k:List G→Option β}{P:List G→Prop}(h:aa t P)(hk:∀ g,P g→aa (k g) Q):aa (ao t k) Q:=by
 obtain⟨r,h,d⟩:=h;subst h;exact hk r d
theorem nF{c:Bool}{t:Option (List G)}{k:List G→Option β}{P:List G→Prop}(h:aa t P)(hc:c=true)(hk:∀ g,P g→aa (k g) Q):aa (gI (c&&t.isSome) t k) Q:=by
 obtain⟨r,h,d⟩:=h;subst h hc;exact hk r d
theorem loop{c:Bool}{st:List G→Option (Option Nat × List G)}{d:List G}{k:Nat→List G→Option β}{P:Nat→List G→Prop}(h:fy st d P)(hc:c=true)(hk:∀ x g,P x g→aa (k x g) Q):aa (aY c (cG st d) k) Q:=by
 obtain⟨n,x,d',h,hn,q⟩:=h;rw[h.WH hn];subst hc;exact hk x d' q
theorem tail{c:Bool}{t:Option (Option Nat × List G)}{k:Nat→List G→Option β}{P:Nat→List G→Prop}(h:aa t fun o=>∃ x,o.1=Option.some x∧P x o.2)(hc:c=true)(hk:∀ x g,P x g→aa (k x g) Q) :
  aa (aY c (cY t) k) Q:=by
 obtain⟨⟨o,d⟩,rfl,x,q,A⟩:=h;simp only at q;subst q hc;exact hk x d A
theorem mono{x:Option β}{P:β→Prop}(h:aa x P)(d:∀ r,P r→Q r):aa x Q:=by
 obtain⟨r,h,g⟩:=h;exact⟨r,h,d r g⟩
theorem eq{x:Option β}{r:β}(h:x=Option.some r):aa x (fun g=>g=r):=⟨r,h,rfl⟩
theorem toEq{x:Option β}{r:β}(h:aa x (fun g=>g=r)):x=Option.some r:=by
 obtain⟨r',h,rfl⟩:=h;exact h
end aa
theorem fy.stop{st:List G→Option (Option Nat × List G)}{d d':List G}{x:Nat}{Q:Nat→List G→Prop}(h:st d=some (some x,d'))(g:Q x d'):fy st d Q:=⟨1,x,d',.stop h,by omega,g⟩
def eh(st:List G→Option (Option Nat × List G))(d:List G)(m:Nat)(Q:Nat→List G→Prop):Prop:=∃ n x d',lD st n d x d'∧n≤m∧Q x d'
theorem eh.stop{st:List G→Option (Option Nat × List G)}{d d':List G}{x m:Nat}{Q:Nat→List G→Prop}(h:st d=some (some x,d'))(g:Q x d'):eh st d (m+1) Q:=⟨1,x,d',.stop h,by omega,g⟩
theorem eh.next{st:List G→Option (Option Nat × List G)}{d d1:List G}{m:Nat}{Q:Nat→List G→Prop}(h:st d=some (none,d1))(hr:eh st d1 m Q):eh st d (m+1) Q:=by
 obtain⟨n,x,d',h1,k,g⟩:=hr;exact⟨n+1,x,d',.next h h1,by omega,g⟩
theorem eh.to{st:List G→Option (Option Nat × List G)}{d:List G}{m:Nat}{Q:Nat→List G→Prop}(h:eh st d m Q)(hm:m≤1000000):fy st d Q:=by
 obtain⟨n,x,d',h1,k,g⟩:=h;exact⟨n,x,d',h1,by omega,g⟩
theorem fy.mono{st:List G→Option (Option Nat × List G)}{d:List G}{P Q:Nat→List G→Prop}(h:fy st d P)(k:∀ x g,P x g→Q x g):fy st d Q:=by
 obtain⟨n,x,d',h1,q,A⟩:=h;exact⟨n,x,d',h1,q,k _ _ A⟩
theorem eh.mono{st:List G→Option (Option Nat × List G)}{d:List G}{m:Nat}{P Q:Nat→List G→Prop}(h:eh st d m P)(k:∀ x g,P x g→Q x g):eh st d m Q:=by
 obtain⟨n,x,d',h1,q,A⟩:=h;exact⟨n,x,d',h1,q,k _ _ A⟩
theorem XM{p:Prop}{i:Decidable p}:(@decide p i=true)↔p:=by simp
theorem XN{p:Prop}{i:Decidable p}:(@decide p i=false)↔¬ p:=by simp
theorem XO{a b:Nat}:ab a b=true↔a=b:=⟨Nat.eq_of_beq_eq_true,fun h=>h▸Nat.beq_refl a⟩
theorem Aa(a:G)(l:List G):gi (a::l) 0=a:=rfl
theorem Ab(a:G)(l:List G)(i:Nat):gi (a::l) (i+1)=gi l i:=rfl
theorem Ac(r:List G)(l:List (List G)):(G.l (r::l)).row=r:=rfl
theorem Ad(l:List (List G)):(G.l l).rows=l:=rfl
theorem Ae(n:Int):(G.i n).int=n:=rfl
theorem Af(s:ByteArray):(G.s s).str=s:=rfl
theorem Ag(b:Bool):(G.t b).bool=b:=rfl
theorem sl:(∀ a b:Int,aB a b=decide (a<b))∧(∀ a b:Int,bM a b=decide (a≤b))∧(∀ n:Int,bD n=decide (0≤n))∧(∀ b:Bool,(b&&true)=b)∧(∀ b:Bool,(true&&b)=b) ∧
  (∀ a b:Bool,((a&&b)=true)=(a=true∧b=true))∧(∀ a b:Bool,((a&&b)=false)=(a=false∨b=false))∧(∀(p:Prop) (i:Decidable p),(@decide p i=true)=p)∧(∀(p:Prop) (i:Decidable p),(@decide p i=false)=¬ p) ∧
  (∀ b:Bool,((!b)=true)=(b=false))∧(∀ b:Bool,((!b)=false)=(b=true))∧(∀ a b:Int,((a==b)=true)=(a=b))∧(∀ a b:Int,((a==b)=false)=¬ (a=b))∧(∀ a b:Int,((a != b)=true)=¬ (a=b))∧(∀ a b:Int,((a != b)=false)=(a=b)) ∧
  (∀(α:Type) (a b:α),(a≠b)=¬ (a=b))∧(∀ a b:Nat,(ab a b=true)=(a=b))∧(∀ a b:Nat,(Nat.ble a b=true)=(a≤b))∧(∀ a b:Nat,(Nat.blt a b=true)=(a<b)) ∧
  (∀(l:List (List G)) (i:Nat) (x:List G),(l.set i x).length=l.length)∧(∀(α:Type) (l r:List α),(l++r).length=l.length+r.length)∧(∀(n:Nat) (x:List G),(List.replicate n x).length=n) ∧
  (∀(α:Type) (x:α) (l:List α),(x::l).length=l.length+1)∧(∀ α:Type,([]:List α).length=0)∧(∀(l:List (List G)) (n:Nat),(l.take n).length=min n l.length)∧(∀(l:List (List G)) (n:Nat),(l.drop n).length=l.length-n) ∧
  (∀ n:Nat,((n:Int)).toNat=n)∧(∀ p:Prop,(True∧p)=p)∧(∀ p:Prop,(p∧True)=p)∧(∀ a b:Bool,((a==b)=true)=(a=b)) :=
 ⟨dT, er, ls, dZ, Bool.true_and, aw, fun a b => by cases a <;> cases b <;> simp, fun _ _ => propext XM, fun _ _ => propext XN, fun b => by cases b <;> simp, fun b => by cases b <;> simp,
  fun a b=>by simp,fun a b=>by simp,fun a b=>by simp,fun a b=>by simp,fun _ a b=>rfl,fun a b=>propext XO,fun a b=>by simp,fun a b=>by simp,fun l i x=>List.length_set,fun _ l r=>List.length_append,fun n x=>List.length_replicate,
  fun _ x l=>rfl,fun _=>rfl,fun l n=>List.length_take,fun l n=>List.length_drop,fun n=>Int.toNat_natCast n,fun p=>true_and p,fun p=>and_true p,fun a b=>by cases a<;>cases b<;>simp⟩
theorem aa.p{β:Type}{Q:β→Prop}{b:Bool}{x y:Option β}(d:aa x Q)(h:b=true:=by first|rfl|assumption|(simp only[az,sl]<;>omega)):aa (bif b then x else y) Q:=aa.pos h d
theorem aa.n{β:Type}{Q:β→Prop}{b:Bool}{x y:Option β}(d:aa y Q)(h:b=false:=by first|rfl|assumption|(simp only[az,sl]<;>omega)):aa (bif b then x else y) Q:=aa.neg h d
theorem aa.cE{β:Type}{Q:β→Prop}{t:Option (List G)}{r:List G}{k:List G→Option β}(h:t=Option.some r)(hk:aa (k r) Q):aa (ao t k) Q:=aa.call (aa.eq h) fun _ e=>by subst e; exact hk

end Go.AL

namespace Go.AL
open Go
variable [Dr]
theorem wM{σ:Type}{st:List G→Option (Option Nat × List G)}(mk:σ→Nat→List G)(n:Nat)(fin:σ→Nat × List G)(I:σ→Nat→Prop)(E:Nat→List G→Prop)
  (q:∀ s i,I s i→i<n→aa (st (mk s i)) fun o=>(∃ s',o=(none,mk s' (i+1))∧I s' (i+1))∨∃ c g,o=(some c,g)∧E c g)
  (A:∀ s,I s n→aa (st (mk s n)) fun o=>o=(some (fin s).1,(fin s).2)) :
  ∀(k:Nat) (s:σ) (i:Nat),i+k=n→I s i→eh st (mk s i) (k+1) fun c g=>(∃ s',I s' n∧c=(fin s').1∧g=(fin s').2)∨E c g
 | 0,s,i,hi,d=>by
  have e:i=n:=hi;subst e;obtain⟨o,h,rfl⟩:=A s d;exact eh.stop h (.inl ⟨s,d,rfl,rfl⟩)
 | k+1,s,i,hi,d=>by
  obtain⟨o,h,⟨s',rfl,B⟩|⟨c,g,rfl,F⟩⟩:=q s i d (by omega)
  ·exact eh.next h (wM mk n fin I E q A k s' (i+1) (by omega) B)
  ·exact eh.stop h (.inr F)
theorem nG{rows:List (List G)}{i:Nat}(h:i<rows.length):rows.getD i []∈rows:=by
 rw[cH,bE h];exact List.getElem_mem h
theorem MI{rows:List (List G)}{i:Nat}(h:i<rows.length):rows.take (i+1)=rows.take i++[rows.getD i []]:=by
 rw[List.take_add_one,cH,bE h];rfl
theorem pF{σ:Type}{st:List G→Option (Option Nat × List G)}(mk:σ→Nat→List G)(rows:List (List G))(fin:σ→Nat × List G)(I:σ→Nat→Prop)(E:Nat→List G→Prop)(s:σ)
  (hlen:rows.length<999999) (h0:I s 0)
  (d:∀ s i x,I s i→i<rows.length→rows.getD i []=x→x∈rows→rows.take (i+1)=rows.take i++[x]→aa (st (mk s i)) fun o=>(∃ s',o=(none,mk s' (i+1))∧I s' (i+1))∨∃ c g,o=(some c,g)∧E c g)
  (k:∀ s,I s rows.length→aa (st (mk s rows.length)) fun o=>o=(some (fin s).1,(fin s).2)) :
  fy st (mk s 0) fun c g=>(∃ s',I s' rows.length∧c=(fin s').1∧g=(fin s').2)∨E c g :=
 (wM mk rows.length fin I E (fun s i q hi=>d s i _ q hi rfl (nG hi) (MI hi)) k rows.length s 0 (by omega) h0).to (by omega)
theorem qZ{σ:Type}{st:List G→Option (Option Nat × List G)}(mk:σ→Nat→List G)(rows:List (List G))(fin:σ→Nat × List G)(I:σ→Nat→Prop)(s:σ)
  (hlen:rows.length<999999) (h0:I s 0)
  (k:∀ s i x,I s i→i<rows.length→rows.getD i []=x→x∈rows→rows.take (i+1)=rows.take i++[x]→aa (st (mk s i)) fun o=>∃ s',o=(none,mk s' (i+1))∧I s' (i+1))
  (q:∀ s,I s rows.length→aa (st (mk s rows.length)) fun o=>o=(some (fin s).1,(fin s).2)) :
  fy st (mk s 0) fun c g=>∃ s',I s' rows.length∧c=(fin s').1∧g=(fin s').2 :=
 (pF mk rows fin I (fun _ _=>False) s hlen h0 (fun s i x a b c d e=>(k s i x a b c d e).mono fun _ h=>.inl h) q).mono fun _ _ h=>h.elim id False.elim
end Go.AL

namespace Go.AL
open Go
variable [Dr]
theorem wN{α:Type}[BEq α][LawfulBEq α](a b:α):(a==b)=(b==a):=by
 rw[j7];simp only[beq_iff_eq];exact eq_comm
theorem XP{k:Kd}{a b:G}:lu k a b=lu k b a:=by
 cases k
 ·exact wN _ _
 ·exact wN _ _
 ·exact wN _ _
 ·rfl
theorem XQ{k:Kd}{a b c:G}(h1:lu k a b=true)(d:lu k b c=true):lu k a c=true:=by
 cases k<;>simp only[lu,beq_iff_eq]at *<;>first|exact h1.trans d|cases h1
theorem kH:∀{K:List Kd} {a b:List G},aF K a b=aF K b a
 | [],_,_=>rfl
 |k::K,a,b=>by simp only[aF,XP (a:=a.headD default),kH (K:=K) (a:=a.tail)]
theorem nH:∀{K:List Kd} {a b c:List G},aF K a b=true→aF K b c=true→aF K a c=true
 | [],_,_,_,_,_=>rfl
 | k::K,a,b,c,h1,d=>by
  simp only[aF,aw]at *;exact⟨XQ h1.1 d.1,nH h1.2 d.2⟩
theorem XR{K:List Kd}{a b c:List G}(h:aF K a b=true):aF K a c=aF K b c:=by
 rw[j7];constructor
 ·exact fun d=>nH (by rw[kH]; exact h) d
 ·exact fun d=>nH h d
theorem MJ{K:List Kd}{a b c:List G}(h:aF K a b=true):aF K c a=aF K c b:=by
 rw[kH,XR h,kH]
theorem tF(ks:List Kd)(key:List G):∀(rows:List (List G)) (i:Nat),dy ks key rows i=(dy ks key rows 0).map fun p=>(p.1+i,p.2)
 | [],i=>rfl
 | r::rs,i=>by
  simp only[dy];cases aF ks key (gi r 0).row with
  |true=>simp
  | false =>
   simp only[cond_false];rw[tF ks key rs (i+1),tF ks key rs (0+1),Option.map_map];congr 1
   funext p
   simp;omega
theorem AX(ks:List Kd)(key z:List G):ch ks [] key z=z:=rfl
theorem wO(ks:List Kd)(r:List G)(rs:List (List G))(key z:List G):ch ks (r::rs) key z=bif aF ks key (gi r 0).row then (gi r 1).row else ch ks rs key z:=by
 unfold ch;simp only[dy];cases aF ks key (gi r 0).row with
 |true=>rfl
 | false =>
  simp only[cond_false];rw[tF ks key rs (0+1)];cases dy ks key rs 0<;>rfl
theorem lK(ks:List Kd)(key:List G):bg ks [] key=false:=rfl
theorem mF(ks:List Kd)(r:List G)(rs:List (List G))(key:List G):bg ks (r::rs) key=(aF ks key (gi r 0).row||bg ks rs key):=by
 unfold bg;simp only[dy];cases aF ks key (gi r 0).row with
 |true=>rfl
 | false =>
  simp only[cond_false];rw[tF ks key rs (0+1)];cases dy ks key rs 0<;>rfl
theorem tG(ks:List Kd)(key val:List G)(c:Nat):cu ks [] key val c=[[.l [key],.l [val],.i c]]:=rfl
theorem tH(ks:List Kd)(r:List G)(rs:List (List G))(key val:List G)(c:Nat) :
  cu ks (r::rs) key val c=bif aF ks key (gi r 0).row then [.l [key],.l [val],.i (gi r 2).int]::rs else r::cu ks rs key val c:=by
 unfold cu;simp only[dy];cases aF ks key (gi r 0).row with
 |true=>rfl
 | false =>
  simp only[cond_false];rw[tF ks key rs (0+1)];cases dy ks key rs 0<;>rfl
theorem nI(ks:List Kd)(k v key z:List G)(c:Nat):∀ rows:List (List G),ch ks (cu ks rows k v c) key z=bif aF ks key k then v else ch ks rows key z
 | []=>by simp only[tG,wO,AX]; rfl
 | r::rs=>by
  rw[tH,wO];cases h:aF ks k (gi r 0).row with
  | true =>
   simp only[cond_true,wO];have e:aF ks key (gi r 0).row=aF ks key k:=(MJ h).symm;rw[e];cases d:aF ks key k with
   |true=>simp only[Aa,Ac,d,cond_true]; rfl
   |false=>simp only[Aa,Ac,d,cond_false]
  | false =>
   simp only[cond_false,wO,nI ks k v key z c rs];cases d:aF ks key (gi r 0).row with
   |false=>rfl
   | true =>
    cases g:aF ks key k with
    |false=>rfl
    | true =>
     have:aF ks k (gi r 0).row=true:=nH (by rw[kH]; exact g) d;rw[this]at h;cases h
theorem pG(ks:List Kd)(k v key:List G)(c:Nat):∀ rows:List (List G),bg ks (cu ks rows k v c) key=(aF ks key k||bg ks rows key)
 | []=>by simp only[tG,mF,lK]; rfl
 | r::rs=>by
  rw[tH,mF];cases h:aF ks k (gi r 0).row with
  | true =>
   simp only[cond_true,mF];have e:aF ks key (gi r 0).row=aF ks key k:=(MJ h).symm;rw[e];simp only[Aa,Ac];cases aF ks key k<;>simp
  | false =>
   simp only[cond_false,mF,pG ks k v key c rs];cases aF ks key (gi r 0).row<;>simp
end Go.AL

namespace Go.AL
open Go
variable [Dr]
def wP(K:List Kd)(C:List G→Option (List G))(d:List G):Option (Option Nat × List G) :=
 (bif (aB (gi d 1).int (gi d 4).int) then (bif ((bD (gi d 4).int)&&(aB (gi d 4).int (((gi d 0).rows.length:Nat):Int))) then (bif (decide ((0+((gi d 4).int).toNat)<(gi d 0).rows.length)) then (bif (az ((gi d 4).int-1)) then (bif ((bD ((gi d 4).int-1))&&(aB ((gi d 4).int-1) (((gi d 0).rows.length:Nat):Int))) then (bif (decide ((0+((gi d 4).int-1).toNat)<(gi d 0).rows.length)) then (ao (C [.l [(bh K ((gi d 0).rows.getD (0+((gi d 4).int).toNat) []))],.l [(bh K ((gi d 0).rows.getD (0+((gi d 4).int-1).toNat) []))]]) fun g1=>(bif (aB (gi g1 0).int 0) then (bif (az ((gi d 4).int-1)) then (bif (az ((gi d 4).int-1)) then (bif ((bD ((gi d 4).int-1))&&(aB ((gi d 4).int-1) (((gi d 0).rows.length:Nat):Int))) then (bif (decide ((0+((gi d 4).int-1).toNat)<(gi d 0).rows.length)) then (bif ((bD (gi d 4).int)&&(aB (gi d 4).int (((gi d 0).rows.length:Nat):Int))) then (bif (decide ((0+((gi d 4).int).toNat)<(gi d 0).rows.length)) then (bif ((bD (gi d 4).int)&&(aB (gi d 4).int (((gi d 0).rows.length:Nat):Int))) then (bif (decide ((0+((gi d 4).int).toNat)<(gi d 0).rows.length)) then (bif ((bD ((gi d 4).int-1))&&(aB ((gi d 4).int-1) (((gi d 0).rows.length:Nat):Int))) then (bif (decide ((0+((gi d 4).int-1).toNat)<((gi d 0).rows.set (0+((gi d 4).int).toNat) (fh K ((gi d 0).rows.getD (0+((gi d 4).int).toNat) []) 0 (bh K ((gi d 0).rows.getD (0+((gi d 4).int-1).toNat) [])))).length)) then (bif (az ((gi d 4).int-1)) then (bif ((ab (gi d 0).rows.length (((gi d 0).rows.set (0+((gi d 4).int).toNat) (fh K ((gi d 0).rows.getD (0+((gi d 4).int).toNat) []) 0 (bh K ((gi d 0).rows.getD (0+((gi d 4).int-1).toNat) [])))).set (0+((gi d 4).int-1).toNat) (fh K (((gi d 0).rows.set (0+((gi d 4).int).toNat) (fh K ((gi d 0).rows.getD (0+((gi d 4).int).toNat) []) 0 (bh K ((gi d 0).rows.getD (0+((gi d 4).int-1).toNat) [])))).getD (0+((gi d 4).int-1).toNat) []) 0 (bh K ((gi d 0).rows.getD (0+((gi d 4).int).toNat) [])))).length)&&true) then some (none,[.l (((gi d 0).rows.set (0+((gi d 4).int).toNat) (fh K ((gi d 0).rows.getD (0+((gi d 4).int).toNat) []) 0 (bh K ((gi d 0).rows.getD (0+((gi d 4).int-1).toNat) [])))).set (0+((gi d 4).int-1).toNat) (fh K (((gi d 0).rows.set (0+((gi d 4).int).toNat) (fh K ((gi d 0).rows.getD (0+((gi d 4).int).toNat) []) 0 (bh K ((gi d 0).rows.getD (0+((gi d 4).int-1).toNat) [])))).getD (0+((gi d 4).int-1).toNat) []) 0 (bh K ((gi d 0).rows.getD (0+((gi d 4).int).toNat) [])))),.i (gi d 1).int,.i (gi d 2).int,.i (gi d 3).int,.i ((gi d 4).int-1)]) else none) else none) else none) else none) else none) else none) else none) else none) else none) else none) else none) else none) else (bif ((ab (gi d 0).rows.length (gi d 0).rows.length)&&true) then some (some 0,[.l (gi d 0).rows,.i (gi d 1).int,.i (gi d 2).int,.i (gi d 3).int]) else none))) else none) else none) else none) else none) else none) else (bif ((ab (gi d 0).rows.length (gi d 0).rows.length)&&true) then some (some 0,[.l (gi d 0).rows,.i (gi d 1).int,.i (gi d 2).int,.i (gi d 3).int]) else none))
def tJ(K:List Kd)(C:List G→Option (List G))(d:List G):Option (Option Nat × List G) :=
 (bif (aB (gi d 3).int (gi d 2).int) then (aY ((ab (gi d 0).rows.length (gi d 0).rows.length)&&true) (cG (wP K C) [.l (gi d 0).rows,.i (gi d 1).int,.i (gi d 2).int,.i (gi d 3).int,.i (gi d 3).int]) fun g g2=>(bif (az ((gi g2 3).int+1)) then (bif ((ab (gi g2 0).rows.length (gi g2 0).rows.length)&&true) then some (none,[.l (gi g2 0).rows,.i (gi g2 1).int,.i (gi g2 2).int,.i ((gi g2 3).int+1)]) else none) else none)) else some (some 0,[.l (gi d 0).rows]))
def mG(K:List Kd)(C:List G→Option (List G))(d:List G):Option (List G) :=
 (bif (az ((gi d 1).int+1)) then (aY ((ab (gi d 0).rows.length (gi d 0).rows.length)&&true) (cG (tJ K C) [.l (gi d 0).rows,.i (gi d 1).int,.i (gi d 2).int,.i ((gi d 1).int+1)]) fun g g3=>some [.l (gi g3 0).rows]) else none)
def q_(K:List Kd)(C:List G→Option (List G))(d:List G):Option (Option Nat × List G) :=
 (bif (bM (gi d 4).int (gi d 1).int) then (gI (((ab (gi d 0).rows.length (gi d 0).rows.length)&&true)&&((mG K C) [.l (gi d 0).rows,.i (gi d 3).int,.i (gi d 4).int]).isSome) ((mG K C) [.l (gi d 0).rows,.i (gi d 3).int,.i (gi d 4).int]) fun g1=>(bif (az ((gi d 4).int+(gi d 2).int)) then (bif ((ab (gi d 0).rows.length (gi g1 0).rows.length)&&true) then some (none,[.l (gi g1 0).rows,.i (gi d 1).int,.i (gi d 2).int,.i (gi d 4).int,.i ((gi d 4).int+(gi d 2).int)]) else none) else none)) else (bif ((ab (gi d 0).rows.length (gi d 0).rows.length)&&true) then some (some 0,[.l (gi d 0).rows,.i (gi d 1).int,.i (gi d 2).int,.i (gi d 3).int]) else none))
def XT(K:List Kd)(C:List G→Option (List G))(d:List G):Option (Option Nat × List G) :=
 (bif (bM (gi d 4).int (gi d 1).int) then (bif (az ((gi d 3).int+(gi d 2).int)) then none else none) else (bif ((ab (gi d 0).rows.length (gi d 0).rows.length)&&true) then some (some 0,[.l (gi d 0).rows,.i (gi d 1).int,.i (gi d 2).int,.i (gi d 3).int]) else none))
def Fj(K:List Kd)(C:List G→Option (List G))(d:List G):Option (Option Nat × List G) :=
 (bif (aB (gi d 2).int (gi d 1).int) then (bif (az (2*(gi d 2).int)) then (aY ((ab (gi d 0).rows.length (gi d 0).rows.length)&&true) (cG (XT K C) [.l (gi d 0).rows,.i (gi d 1).int,.i (gi d 2).int,.i 0,.i (2*(gi d 2).int)]) fun g g4=>(bif (az ((gi g4 3).int+(gi g4 2).int)) then (bif (aB ((gi g4 3).int+(gi g4 2).int) (gi g4 1).int) then none else (bif (az ((gi g4 2).int*2)) then (bif ((ab (gi g4 0).rows.length (gi g4 0).rows.length)&&true) then some (none,[.l (gi g4 0).rows,.i (gi g4 1).int,.i ((gi g4 2).int*2)]) else none) else none)) else none)) else none) else some (some 0,[.l (gi d 0).rows]))
def AY(K:List Kd)(C:List G→Option (List G))(d:List G):Option (List G) :=
 (aY ((ab (gi d 0).rows.length (gi d 0).rows.length)&&true) (cG (q_ K C) [.l (gi d 0).rows,.i (gi d 1).int,.i 20,.i 0,.i 20]) fun g g2=>(gI (((ab (gi g2 0).rows.length (gi g2 0).rows.length)&&true)&&((mG K C) [.l (gi g2 0).rows,.i (gi g2 3).int,.i (gi g2 1).int]).isSome) ((mG K C) [.l (gi g2 0).rows,.i (gi g2 3).int,.i (gi g2 1).int]) fun g3=>(aY ((ab (gi g2 0).rows.length (gi g3 0).rows.length)&&true) (cG (Fj K C) [.l (gi g3 0).rows,.i (gi g2 1).int,.i (gi g2 2).int]) fun k g5=>some [.l (gi g5 0).rows])))
def MK(K:List Kd)(C:List G→Option (List G))(d:List G):Option (List G) :=
 (gI (((ab (gi d 0).rows.length (gi d 0).rows.length)&&true)&&((AY K C) [.l (gi d 0).rows,.i (((gi d 0).rows.length:Nat):Int)]).isSome) ((AY K C) [.l (gi d 0).rows,.i (((gi d 0).rows.length:Nat):Int)]) fun g1=>some [.l (gi g1 0).rows])
theorem tK{α:Type}(l:List α)(x:α)(q:List α)(z:α)(n:Nat)(h:n=l.length):(l++x::q).getD n z=x:=by subst h; simp
theorem AZ{α:Type}(l:List α)(x y:α)(q:List α)(n:Nat)(h:n=l.length):(l++x::q).set n y=l++y::q:=by subst h; simp
def fl{α:Type}(lt:α→α→Bool)(x:α):List α→List α
 | []=>[x]
 |y::p=>bif lt x y then y::fl lt x p else x::y::p
def hG{α:Type}(lt:α→α→Bool):List α→List α→List α
 |p,[]=>p
 |p,x::r=>hG lt (fl lt x p) r
def eI{α:Type}(lt:α→α→Bool)(l:List α):List α:=(hG lt [] l).reverse
theorem A0{α:Type}(lt:α→α→Bool)(x:α):∀ p,(fl lt x p).length=p.length+1
 | []=>rfl
 | y::p=>by
  simp only[fl];cases lt x y with
  |true=>simp[A0 lt x p]
  |false=>simp
theorem Fk{α:Type}{Q:α→Prop}{lt:α→α→Bool}{x:α}(g:Q x):∀{p:List α},(∀ y∈p,Q y)→∀ y∈fl lt x p,Q y
 | [],_,y,d=>by simp[fl]at d; exact d▸g
 | z::p,k,y,d=>by
  simp only[fl]at d;cases q:lt x z with
  | true =>
   rw[q]at d;rcases bI.1 d with rfl|d
   ·exact k _ cZ
   ·exact Fk g (fun y d=>k y (cU _ d)) y d
  | false =>
   rw[q]at d;rcases bI.1 d with rfl|d
   ·exact g
   ·exact k y d
theorem ML{α:Type}(lt:α→α→Bool):∀(p r:List α),(hG lt p r).length=p.length+r.length
 |p,[]=>rfl
 |p,x::r=>by simp only[hG,ML lt,A0,di]; omega
theorem MM{α:Type}{Q:α→Prop}{lt:α→α→Bool}:∀{r p:List α},(∀ y∈p,Q y)→(∀ y∈r,Q y)→∀ y∈hG lt p r,Q y
 | [],_,d,_=>d
 | x::r,p,d,hr=>by
  simp only[hG];exact MM (Fk (hr x cZ) d) fun y g=>hr y (cU _ g)
theorem rf{α:Type}(lt:α→α→Bool)(l:List α):(eI lt l).length=l.length:=by simp[eI,ML]
theorem MN{α:Type}{Q:α→Prop}{lt:α→α→Bool}{l:List α}(h:∀ y∈l,Q y):∀ y∈eI lt l,Q y:=by
 intro y d;exact MM (p:=[]) (by simp) h y (by simpa[eI]using d)
theorem Fl:∀(K:List Kd) (r:List G),(bh K r).length=K.length
 | [],_=>rfl
 |k::K,r=>by simp[bh,Fl K]
theorem MO{K:List Kd}{r gs:List G}(h:gs.length=K.length):fh K r 0 gs=gs:=by
 simp[fh,h,DJ,List.drop_eq_nil_of_le]
section
variable {K:List Kd} {C:List G→Option (List G)} {Q:List G→Prop} {c:List G→List G→Int}
structure mH (K:List Kd) (C:List G→Option (List G)) (Q:List G→Prop) (c:List G→List G→Int):Prop where
 cmp:∀ r s,Q r→Q s→C [.l [r],.l [s]]=some [.i (c r s)]
 eta:∀ r,Q r→bh K r=r
def bN(c:List G→List G→Int)(r s:List G):Bool:=aB (c r s) 0
theorem MP(hC:mH K C Q c):∀(p q:List (List G)) (x:List G) (b i:Int) (j:Nat),(∀ y∈p,Q y)→Q x→p.length<1000000→j=p.length →
  ∃ m,m≤p.length+1∧lD (wP K C) m [.l (p.reverse++x::q),.i 0,.i b,.i i,.i (j:Int)] 0 [.l ((fl (bN c) x p).reverse++q),.i 0,.i b,.i i]
 | [],q,x,b,i,j,_,_,_,d=>by
  simp only[kY]at d;subst d;refine⟨1,by simp,.stop (aa.toEq ?_)⟩;unfold wP
  (dsimp +instances only[Aa,Ab,Ac,Ad,Ae,Af,Ag])
  refine aa.n (aa.p (aa.some ?_));rfl
 | y::p,q,x,b,i,j,F,g,N,d=>by
  have A:=F y cZ;have I:(y::p).reverse++x::q=(p.reverse++[y])++x::q:=by simp
  have O:(y::p).reverse++x::q=p.reverse++y::x::q:=by simp
  simp only[di]at N d;have g1:((y::p).reverse++x::q).getD (0+(j:Int).toNat) []=x:=by rw[I]; exact tK _ _ _ _ _ (by simp[d])
  have g2:((y::p).reverse++x::q).getD (0+((j:Int)-1).toNat) []=y:=by rw[O]; exact tK _ _ _ _ _ (by simp[d])
  have hlen:((y::p).reverse++x::q).length=p.length+q.length+2:=by simp; omega
  have B:=hC.cmp x y g A;cases k:bN c x y with
  | false =>
   refine⟨1,by simp,.stop (aa.toEq ?_)⟩;unfold wP
   (dsimp +instances only[Aa,Ab,Ac,Ad,Ae,Af,Ag])
   simp only[hlen,g1,g2,hC.eta x g,hC.eta y A];refine aa.p (aa.p (aa.p (aa.p (aa.p (aa.p (aa.call (aa.eq B) ?_))))));rintro _ rfl
   (dsimp +instances only[Aa,Ab,Ac,Ad,Ae,Af,Ag])
   refine aa.neg k (aa.p (aa.some ?_));simp[fl,k]
  | true =>
   obtain⟨m,hm,hr⟩:=MP hC p (y::q) x b i (j-1) (fun z R=>F z (cU _ R)) g (by omega) (by omega);refine⟨m+1,by simp; omega,.next (aa.toEq ?_) (by
    have e:(fl (bN c) x (y::p)).reverse++q=(fl (bN c) x p).reverse++y::q:=by simp[fl,k]
    rw[e]; exact hr)⟩
   have s1:((y::p).reverse++x::q).set (0+(j:Int).toNat) y=p.reverse++y::y::q:=by
    rw[I,AZ _ _ _ _ _ (by simp[d])]; simp
   have s2:(p.reverse++y::y::q).set (0+((j:Int)-1).toNat) x=p.reverse++x::y::q:=AZ _ _ _ _ _ (by simp[d]);have J:(p.reverse++y::y::q).length=p.length+q.length+2:=by simp; omega
   have M:(p.reverse++x::y::q).length=p.length+q.length+2:=by simp; omega
   have ky:y.length=K.length:=by rw[←hC.eta y A,Fl]
   have U:x.length=K.length:=by rw[←hC.eta x g,Fl]
   unfold wP
   (dsimp +instances only[Aa,Ab,Ac,Ad,Ae,Af,Ag])
   simp only[hlen,g1,g2,hC.eta x g,hC.eta y A,MO ky,MO U,s1,s2,J,M];refine aa.p (aa.p (aa.p (aa.p (aa.p (aa.p (aa.call (aa.eq B) ?_))))));rintro _ rfl
   (dsimp +instances only[Aa,Ab,Ac,Ad,Ae,Af,Ag])
   refine aa.pos k ?_;refine aa.p (aa.p (aa.p (aa.p (aa.p (aa.p (aa.p (aa.p (aa.p (aa.p (aa.p (aa.p (aa.some ?_))))))))))));congr;omega
theorem MQ(hC:mH K C Q c):∀(r p:List (List G)) (i n:Nat),(∀ y∈p,Q y)→(∀ y∈r,Q y)→i=p.length→n=p.length+r.length→n<100000 →
  ∃ m,m≤r.length+1∧lD (tJ K C) m [.l (p.reverse++r),.i 0,.i (n:Int),.i (i:Int)] 0 [.l (hG (bN c) p r).reverse]
 | [],p,i,n,_,_,hi,hn,d=>by
  refine⟨1,by simp,.stop (aa.toEq ?_)⟩;simp only[kY]at hn;unfold tJ
  (dsimp +instances only[Aa,Ab,Ac,Ad,Ae,Af,Ag])
  refine aa.n (aa.some ?_);simp[hG]
 | x::r,p,i,n,k,hr,hi,hn,d=>by
  simp only[di]at hn;obtain⟨m1,B,h1⟩:=MP hC p r x (n:Int) (i:Int) i k (hr x cZ) (by omega) hi;obtain⟨m,hm,q⟩:=MQ hC r (fl (bN c) x p) (i+1) n (Fk (hr x cZ) k) (fun y A=>hr y (cU _ A)) (by rw[A0,hi]) (by rw[A0]; omega) d;refine⟨m+1,by simp; omega,.next (aa.toEq ?_) q⟩;unfold tJ
  (dsimp +instances only[Aa,Ab,Ac,Ad,Ae,Af,Ag])
  refine aa.p (aa.loop (P:=fun x g=>g=_) ⟨m1,0,_,h1,by omega,rfl⟩ (by(first|rfl|assumption|(simp only[az,sl]<;>omega))) ?_);rintro _ _ rfl
  (dsimp +instances only[Aa,Ab,Ac,Ad,Ae,Af,Ag])
  refine aa.p (aa.p (aa.some ?_));rfl
theorem XU(hC:mH K C Q c)(rows:List (List G))(hr:∀ y∈rows,Q y)(hn:rows.length<100000):mG K C [.l rows,.i 0,.i (rows.length:Int)]=some [.l (eI (bN c) rows)]:=by
 refine aa.toEq ?_;unfold mG
 (dsimp +instances only[Aa,Ab,Ac,Ad,Ae,Af,Ag])
 refine aa.p ?_;cases rows with
 | nil =>
  refine aa.loop (P:=fun x g=>g=[.l []]) ⟨1,0,_,.stop (aa.toEq (?_:aa _ (fun g=>g=(some 0,[G.l []])))),by omega,rfl⟩ (by(first|rfl|assumption|(simp only[az,sl]<;>omega))) ?_
  ·unfold tJ
   (dsimp +instances only[Aa,Ab,Ac,Ad,Ae,Af,Ag])
   exact aa.n (aa.some rfl)
  ·rintro _ _ rfl
   exact aa.some rfl
 | cons x r =>
  simp only[di]at hn;obtain⟨m,hm,h⟩:=MQ hC r [x] 1 (r.length+1) (by simpa using hr x cZ) (fun y d=>hr y (cU _ d)) rfl (by simp; omega) (by omega);refine aa.loop (P:=fun y g=>g=_) ⟨m,0,_,h,by omega,rfl⟩ (by(first|rfl|assumption|(simp only[az,sl]<;>omega))) ?_;rintro _ _ rfl;exact aa.some rfl
theorem XV(rows:List (List G))(a b:Nat)(h:b≤a)(hn:a<100000):mG K C [.l rows,.i (a:Int),.i (b:Int)]=some [.l rows]:=by
 refine aa.toEq ?_;unfold mG
 (dsimp +instances only[Aa,Ab,Ac,Ad,Ae,Af,Ag])
 refine aa.p ?_;refine aa.loop (P:=fun x g=>g=[.l rows]) ⟨1,0,_,.stop (aa.toEq (?_:aa _ (fun g=>g=(some 0,[G.l rows])))),by omega,rfl⟩ (by(first|rfl|assumption|(simp only[az,sl]<;>omega))) ?_
 ·unfold tJ
  (dsimp +instances only[Aa,Ab,Ac,Ad,Ae,Af,Ag])
  exact aa.n (aa.some rfl)
 ·rintro _ _ rfl
  exact aa.some rfl
theorem XW(hC:mH K C Q c)(rows:List (List G))(hr:∀ y∈rows,Q y)(hn:rows.length≤20):AY K C [.l rows,.i (rows.length:Int)]=some [.l (eI (bN c) rows)]:=by
 refine aa.toEq ?_;unfold AY
 (dsimp +instances only[Aa,Ab,Ac,Ad,Ae,Af,Ag])
 have d:=XU hC rows hr (by omega);have hlen:=rf (bN c) rows;have q:∀ rows':List (List G),rows'.length=rows.length→fy (Fj K C) [.l rows',.i (rows.length:Int),.i 20] fun _ g=>g=[.l rows']:=by
  intro rows' F;refine fy.stop (x:=0) (aa.toEq ?_) rfl;unfold Fj
  (dsimp +instances only[Aa,Ab,Ac,Ad,Ae,Af,Ag])
  exact aa.n (aa.some rfl)
 by_cases k:rows.length=20
 ·have h1:q_ K C [.l rows,.i (rows.length:Int),.i 20,.i 0,.i 20]=some (none,[.l (eI (bN c) rows),.i (rows.length:Int),.i 20,.i 20,.i 40]):=by
   refine aa.toEq ?_;unfold q_
   (dsimp +instances only[Aa,Ab,Ac,Ad,Ae,Af,Ag])
   have d:mG K C [.l rows,.i 0,.i 20]=some [.l (eI (bN c) rows)]:=by rw[k]at d; exact d
   refine aa.p (aa.nF (aa.eq d) (by(first|rfl|assumption|(simp only[az,sl]<;>omega))) ?_);rintro _ rfl
   (dsimp +instances only[Aa,Ab,Ac,Ad,Ae,Af,Ag])
   exact aa.p (aa.p (aa.some rfl))
  have A:q_ K C [.l (eI (bN c) rows),.i (rows.length:Int),.i 20,.i 20,.i 40]=some (some 0,[.l (eI (bN c) rows),.i (rows.length:Int),.i 20,.i 20]):=by
   refine aa.toEq ?_;unfold q_
   (dsimp +instances only[Aa,Ab,Ac,Ad,Ae,Af,Ag])
   exact aa.n (aa.p (aa.some rfl))
  refine aa.loop (P:=fun x g=>g=_) ⟨2,0,_,.next h1 (.stop A),by omega,rfl⟩ (by(first|rfl|assumption|(simp only[az,sl]<;>omega))) ?_;rintro _ _ rfl
  (dsimp +instances only[Aa,Ab,Ac,Ad,Ae,Af,Ag])
  have B:mG K C [.l (eI (bN c) rows),.i 20,.i (rows.length:Int)]=some [.l (eI (bN c) rows)]:=by
   rw[k]; exact XV _ 20 20 (by omega) (by omega)
  refine aa.nF (aa.eq B) (by(first|rfl|assumption|(simp only[az,sl]<;>omega))) ?_;rintro _ rfl
  (dsimp +instances only[Aa,Ab,Ac,Ad,Ae,Af,Ag])
  refine aa.loop (q _ hlen) (by(first|rfl|assumption|(simp only[az,sl]<;>omega))) ?_;rintro _ _ rfl;exact aa.some rfl
 ·have h1:q_ K C [.l rows,.i (rows.length:Int),.i 20,.i 0,.i 20]=some (some 0,[.l rows,.i (rows.length:Int),.i 20,.i 0]):=by
   refine aa.toEq ?_;unfold q_
   (dsimp +instances only[Aa,Ab,Ac,Ad,Ae,Af,Ag])
   exact aa.n (aa.p (aa.some rfl))
  refine aa.loop (P:=fun x g=>g=_) ⟨1,0,_,.stop h1,by omega,rfl⟩ (by(first|rfl|assumption|(simp only[az,sl]<;>omega))) ?_;rintro _ _ rfl
  (dsimp +instances only[Aa,Ab,Ac,Ad,Ae,Af,Ag])
  refine aa.nF (aa.eq d) (by(first|rfl|assumption|(simp only[az,sl]<;>omega))) ?_;rintro _ rfl
  (dsimp +instances only[Aa,Ab,Ac,Ad,Ae,Af,Ag])
  refine aa.loop (q _ hlen) (by(first|rfl|assumption|(simp only[az,sl]<;>omega))) ?_;rintro _ _ rfl;exact aa.some rfl
theorem XX(hC:mH K C Q c)(rows:List (List G))(hr:∀ y∈rows,Q y)(hn:rows.length≤20):MK K C [.l rows]=some [.l (eI (bN c) rows)]:=by
 refine aa.toEq ?_;unfold MK
 (dsimp +instances only[Aa,Ab,Ac,Ad,Ae,Af,Ag])
 refine aa.nF (aa.eq (XW hC rows hr hn)) (by(first|rfl|assumption|(simp only[az,sl]<;>omega))) ?_;rintro _ rfl;exact aa.some rfl
end
end Go.AL

namespace Go.AL
open Go
variable [Dr]
section
variable {K:List Kd} {Z:List G} {Q:List G→Prop}
structure Kds (K:List Kd) (Q:List G→Prop):Prop where
 eta:∀ r,Q r→bh K r=r
structure Eqv (K:List Kd) (C:List G→Option (List G)) (Q:List G→Prop) (e:List G→List G→Bool):Prop where
 cmp:∀ r s,Q r→Q s→C [.l [r],.l [s]]=some [.t (e r s)]
 eta:∀ r,Q r→bh K r=r
variable {C:List G→Option (List G)} {ee:List G→List G→Bool}
end
end Go.AL

namespace Go.AL
open Go
variable [Dr]
section
variable {K:List Kd} {Q:List G→Prop}
theorem MR:∀(K:List Kd) (x:List G),(K.all fun k=>match k with | .list _=>false|_=>true)=true→aF K x x=true
 | [],_,_=>rfl
 | k::K,x,h=>by
  simp only[List.all_cons,aw]at h;simp only[aF,MR K _ h.2,dZ];cases k<;>simp only[lu,beq_self_eq_true]
  simp at h
end
end Go.AL

namespace Go.AL
open Go
variable [Dr]
section
variable {K:List Kd} {Z:List G} {Q:List G→Prop} {C:List G→Option (List G)} {cp:G→G} {cap:G} {p:List G→Bool}
structure Prd (K:List Kd) (C:List G→Option (List G)) (cp:G→G) (cap:G) (Q:List G→Prop) (p:List G→Bool):Prop where
 cmp:∀ r,Q r→C [.l [r],cap]=some [.t (p r)]
 eta:∀ r,Q r→bh K r=r
 fix:cp cap=cap
end
section
variable {K:List Kd} {Z:List G}
def parts (ps:List (List (List G))):List (List G):=ps.map fun p=>[.l p]
end
end Go.AL

namespace Go.AL
open Go
variable [Dr]
section sort
variable {α:Type} {lt:α→α→Bool}
theorem A1(x:α):∀ p:List α,(fl lt x p).Perm (x::p)
 | []=>sc _
 | y::p=>by
  simp only[fl];cases lt x y with
  |true=>exact(List.Perm.cons y (A1 x p)).trans (List.Perm.swap x y p)
  |false=>exact sc _
theorem MS:∀(r p:List α),(hG lt p r).Perm (p++r)
 | [],p=>by simp[hG]
 | x::r,p=>by
  simp only[hG];refine(MS r (fl lt x p)).trans ?_;refine(List.Perm.append_right r (A1 x p)).trans ?_;simpa using(List.perm_middle (a:=x) (l₁:=p) (l₂:=r)).symm
theorem mI(l:List α):(eI lt l).Perm l:=by
 unfold eI;exact(List.reverse_perm _).trans (by simpa using MS (lt:=lt) l [])
structure fi (lt:α→α→Bool) (Q:α→Prop):Prop where
 tr:∀ a b c,Q a→Q b→Q c→lt a b=false→lt b c=false→lt a c=false
 A2:∀ a b,Q a→Q b→lt a b=true→lt b a=false
variable {Q:α→Prop}
theorem MT(k:fi lt Q){x:α}(q:Q x):∀{p:List α},(∀ y∈p,Q y)→p.Pairwise (fun a b=>lt a b=false)→(fl lt x p).Pairwise (fun a b=>lt a b=false)
 | [],_,_=>by simp[fl]
 | y::p,B,F=>by
  obtain⟨h1,J⟩:=l5.1 F;have I:=B y cZ;have A:∀ z∈p,Q z:=fun z d=>B z (cU _ d);simp only[fl];cases g:lt x y with
  | true =>
   refine l5.2 ⟨fun z d=>?_,MT k q A J⟩;rcases bI.1 ((A1 x p).mem_iff.1 d)with rfl|d
   ·exact k.A2 _ _ q I g
   ·exact h1 z d
  | false =>
   refine l5.2 ⟨fun z d=>?_,F⟩;rcases bI.1 d with rfl|d
   ·exact g
   ·exact k.tr x y z q I (A z d) g (h1 z d)
theorem MU(k:fi lt Q):∀{r p:List α},(∀ y∈p,Q y)→(∀ y∈r,Q y)→p.Pairwise (fun a b=>lt a b=false)→(hG lt p r).Pairwise (fun a b=>lt a b=false)
 | [],_,_,_,g=>by simpa[hG]using g
 | x::r,p,q,hr,g=>by
  simp only[hG];refine MU k (fun y d=>?_) (fun y d=>hr y (cU _ d)) (MT k (hr x cZ) q g);rcases bI.1 ((A1 x p).mem_iff.1 d)with rfl|d
  ·exact hr _ cZ
  ·exact q y d
theorem Fm(d:fi lt Q){l:List α}(g:∀ y∈l,Q y):(eI lt l).Pairwise (fun a b=>lt b a=false):=by
 unfold eI;rw[List.pairwise_reverse];exact MU d (by simp) g List.Pairwise.nil
theorem wQ:∀{l r:List α},l.Perm r→(∀ a∈l,∀ b∈l,lt a b=false→lt b a=false→a=b)→l.Pairwise (fun a b=>lt b a=false)→r.Pairwise (fun a b=>lt b a=false)→l=r
 | [],r,d,_,_,_=>d.nil_eq
 |a::l,[],d,_,_,_=>by simpa using d.length_eq
 | a::l,b::r,d,g,h1,F=>by
  obtain⟨I,J⟩:=l5.1 h1;obtain⟨M,N⟩:=l5.1 F;have e:a=b:=by
   have k:b∈a::l:=d.symm.subset cZ;have A:a∈b::r:=d.subset cZ;rcases bI.1 k with e|B
   ·exact e.symm
   ·rcases bI.1 A with e | q
    ·exact e
    ·exact g a cZ b k (M a q) (I b B)
  subst e;rw[wQ ((List.perm_cons a).1 d) (fun x O y R=>g x (cU _ O) y (cU _ R)) J N]
end sort
theorem MV{sp:eB}{tl:List G→Option (Option Nat × List G)}{rows:List (List G)}{clock:Nat}{d:List G}{r:Option Nat × List G}(aL:eC rows clock=true)
  (h:∀ b p,p.Perm rows→sp.side d b=true∧∃ d',cQ sp.st sp.br p (sp.init d b)=some d'∧tl d'=some r):kF sp tl rows clock d=some r:=by
 unfold kF;rw[aL];refine wu fun b p g=>?_;obtain⟨h1,d',k,q⟩:=h b p g;rw[h1,cond_true,k];exact q
end Go.AL

namespace Go.AL
open Go
variable [Dr]
section
variable {α:Type} (f:α→Int)
end
section
variable {α:Type} {e:α→α→Bool}
end
end Go.AL

namespace Go.AL
open Go
variable [Dr]
section
variable {K:List Kd} {C:List G→Option (List G)} {Q:List G→Prop} {c:List G→List G→Int}
end
end Go.AL

namespace Go.AL
open Go
variable [Dr]
section
variable {C:List G→Option (List G)} {Q:List G→Prop} {c:List G→List G→Int}
theorem fi.mono{α:Type}{lt:α→α→Bool}{Q A:α→Prop}(h:fi lt Q)(g:∀ a,A a→Q a):fi lt A :=
 ⟨fun a b d k q B=>h.tr a b d (g a k) (g b q) (g d B),fun a b k q=>h.A2 a b (g a k) (g b q)⟩
theorem Fo{α β:Type}{f:α→β}:∀{l:List α},l.Pairwise (fun a b=>f a≠f b)→∀ a∈l,∀ b∈l,f a=f b→a=b
 | [],_,a,g,_,_,_=>by cases g
 | x::l,h,a,g,b,A,e=>by
  obtain⟨h1,F⟩:=l5.1 h;rcases bI.1 g with B|q
  ·rcases bI.1 A with k | d
   ·rw[B,k]
   ·exact(h1 b d (B▸e)).elim
  ·rcases bI.1 A with k | d
   ·exact(h1 a q (k▸e.symm)).elim
   ·exact Fo F a q b d e
def tL(C:List G→Option (List G))(Q:List G→Prop)(c:List G→List G→Int):Prop:=∀ r s,Q r→Q s→∃ v,C [.l [r],.l [s]]=some [.i v]∧(v<0↔c r s<0)
theorem mH.MW{K:List Kd}(h:mH K C Q c):tL C Q c:=fun r s hr d=>⟨_,h.cmp r s hr d,Iff.rfl⟩
end
end Go.AL

namespace Go.AL
open Go Go.Proofs
variable [Dr]
variable {C:List G→Option (List G)} {Q:List G→Prop} {c:List G→List G→Int}
theorem MX(hC:tL C Q c){r s:List G}(hr:Q r)(d:Q s):decide (wE C r s<0)=bN c r s:=by
 obtain⟨v,h,g⟩:=hC r s hr d;unfold wE bN;rw[h,dT];show decide (v<0)=_
 rw[j7,decide_eq_true_eq,decide_eq_true_eq];exact g
theorem rh(hC:tL C Q c){rows:List (List G)}(hr:∀ y∈rows,Q y)(h0:rows≠[])(i j:Nat):ltOf (mB C rows) i j=bN c (fx rows i) (fx rows j) :=
 MX hC (hr _ (wF h0 i)) (hr _ (wF h0 j))
theorem XY(hC:tL C Q c)(g:fi (bN c) Q){rows:List (List G)}(hr:∀ y∈rows,Q y)(h0:rows≠[])(hn:rows.length<100000):qW C rows:=by
 have d:=fun i=>hr _ (wF h0 i);refine⟨fun r h s h'=>by obtain⟨v,e,_⟩:=hC r s (hr r h) (hr s h'); exact⟨v,e⟩,⟨fun x=>?_,fun x y z=>?_,fun x y z=>?_⟩,by omega⟩
 ·rw [rh hC hr h0]
  cases h:bN c (fx rows x) (fx rows x)with
  |false=>rfl
  |true=>rw[g.A2 _ _ (d x) (d x) h]at h; cases h
 ·rw [rh hC hr h0, rh hC hr h0, rh hC hr h0]
  intro h1 k;cases h:bN c (fx rows x) (fx rows z)with
  |true=>rfl
  | false =>
   have:=g.tr _ _ _ (d x) (d z) (d y) h (g.A2 _ _ (d y) (d z) k);rw[this]at h1;cases h1
 ·rw [rh hC hr h0, rh hC hr h0, rh hC hr h0]
  exact g.tr _ _ _ (d x) (d y) (d z)
theorem XZ(hC:tL C Q c)(g:fi (bN c) Q)(rows:List (List G))(hr:∀ y∈rows,Q y)(hn:rows.length<100000) :
  ∃ out,qY C [.l rows]=some [.l out]∧out.Perm rows∧out.Pairwise fun a b=>bN c b a=false:=by
 unfold qY;have e:(gi [G.l rows] 0).rows=rows:=rfl;rw[e];by_cases h0:rows=[]
 ·rw [if_pos h0, h0]
  exact⟨[],rfl,sc _,List.Pairwise.nil⟩
 ·have aL := XY hC g hr h0 hn
  rw[if_neg h0,if_pos aL];have d:=Mk aL;refine⟨_,rfl,d,?_⟩;refine ajw ?_ (Xn aL);intro a b h1 k h;rw[←MX hC (hr b (d.mem_iff.1 k)) (hr a (d.mem_iff.1 h1)),decide_eq_false_iff_not];exact h
theorem MY(hC:tL C Q c)(g:fi (bN c) Q)(rows:List (List G))(hr:∀ y∈rows,Q y)(hn:rows.length<100000)(k:∀ a∈rows,∀ b∈rows,bN c a b=false→bN c b a=false→a=b) :
  qY C [.l rows]=some [.l (eI (bN c) rows)]:=by
 obtain⟨out,h,d,q⟩:=XZ hC g rows hr hn;rw[h,wQ (d.trans (mI (lt:=bN c) rows).symm) (fun a h1 b A=>k a (d.mem_iff.1 h1) b (d.mem_iff.1 A)) q (Fm g hr)]
end Go.AL

namespace Go.AL
open Go
variable [Dr]
noncomputable abbrev wR(r:List G):Int:=(gi r 0).int
noncomputable abbrev rj(r:List G):Int:=(gi r 1).int
def X5(r:List G):Prop:=r=[.i (wR r),.i (rj r)]∧wR r<rj r
def MZ(l:List (List G))(n:Int):Prop:=∃ r∈l,wR r≤n∧n<rj r
def X6(l:List (List G)):Prop:=(∀ r∈l,X5 r)∧l.Pairwise fun r s=>rj r<wR s
structure ajd (out:List (List G)) (a b:Int) (os:List (List G)) (ps:List (List G)) (f:Int):Prop where
 low:a≤f
 at_:f=a∨∃ o∈os,f=rj o
 past:∀ o∈os,rj o≤f∨b≤wR o
 mem:∀ n,MZ ps n↔a≤n∧n<f∧n<b∧¬ MZ os n
 can:X6 (out++ps)
 gap:∀ s∈out++ps,rj s<f
 many:ps.length≤os.length
end Go.AL

namespace Go.AL
open Go
variable [Dr]
end Go.AL
