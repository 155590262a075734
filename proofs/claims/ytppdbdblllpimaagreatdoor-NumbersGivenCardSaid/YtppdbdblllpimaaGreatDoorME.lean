/-
 What is proved here: rules by which lifted functions are shown to give what they should. No program in sight; no condition.
-/
import Derived.Test.YtppdbdblllpimaaGreatDoorMD
import Derived.Test.YtppdbdblllpimaaGreatDoorMH
import Derived.Test.YtppdbdblllpimaaGreatDoorMU
import Derived.Lib.ItoaNum
import Derived.Lib.SlTrimSet
set_option linter.all false
open Bool renaming and_true→dU,and_eq_true→ay,eq_iff_iff→g_
open List renaming length_cons→cF,getElem?_eq_getElem→bA,getD_eq_getElem?_getD→cG,mem_cons→bC,length_append→eY,mem_append→bV,nil_append→mI,replicate→cI,mem_cons_self→cJ,mem_cons_of_mem→bS,drop_eq_nil_of_le→Uy,length_replicate→UA,length_nil→gK,pairwise_cons→kO,getElem_cons_drop→akd
open List.Pairwise renaming sublist→ak0,imp_of_mem→ak1
open List.Perm renaming refl→pn
open List.cons renaming injEq→zh
open Nat renaming zero_add→dJ,beq→ab
namespace Go.AL
open Go
variable [Dr]
def aa{β:Type}(x:Option β)(Q:β→Prop):Prop:=∃ r,x=some r∧Q r
def fw(st:List G→Option (Option Nat × List G))(d:List G)(Q:Nat→List G→Prop):Prop:=∃ n x d',ju st n d x d'∧n≤1000000∧Q x d'
namespace aa
variable {β:Type} {Q:β→Prop}
theorem some{r:β}(h:Q r):aa (some r) Q:=⟨r,rfl,h⟩
theorem pos{b:Bool}{x y:Option β}(h:b=true)(d:aa x Q):aa (bif b then x else y) Q:=by subst h; exact d
theorem neg{b:Bool}{x y:Option β}(h:b=false)(d:aa y Q):aa (bif b then x else y) Q:=by subst h; exact d
theorem test{b:Bool}{x y:Option β}(d:b=true→aa x Q)(g:b=false→aa y Q):aa (bif b then x else y) Q:=by
 cases b with
 |true=>exact d rfl
 |false=>exact g rfl
theorem call{t:Option (List G)}{k:List G→Option β}{P:List G→Prop}(h:aa t P)(hk:∀ g,P g→aa (k g) Q):aa (ar t k) Q:=by
 obtain⟨r,h,d⟩:=h;subst h;exact hk r d
theorem gS{c:Bool}{t:Option (List G)}{k:List G→Option β}{P:List G→Prop}(h:aa t P)(hc:c=true)(hk:∀ g,P g→aa (k g) Q):aa (fS (c&&t.isSome) t k) Q:=by
 obtain⟨r,h,d⟩:=h;subst h hc;exact hk r d
theorem loop{c:Bool}{st:List G→Option (Option Nat × List G)}{d:List G}{k:Nat→List G→Option β}{P:Nat→List G→Prop}(h:fw st d P)(hc:c=true)(hk:∀ x g,P x g→aa (k x g) Q):aa (a7 c (cd st d) k) Q:=by
 obtain⟨n,x,d',h,hn,q⟩:=h;rw[h.X_ hn];subst hc;exact hk x d' q
theorem tail{c:Bool}{t:Option (Option Nat × List G)}{k:Nat→List G→Option β}{P:Nat→List G→Prop}(h:aa t fun o=>∃ x,o.1=Option.some x∧P x o.2)(hc:c=true)(hk:∀ x g,P x g→aa (k x g) Q) :
  aa (a7 c (dD t) k) Q:=by
 obtain⟨⟨o,d⟩,rfl,x,q,A⟩:=h;simp only at q;subst q hc;exact hk x d A
theorem mono{x:Option β}{P:β→Prop}(h:aa x P)(d:∀ r,P r→Q r):aa x Q:=by
 obtain⟨r,h,g⟩:=h;exact⟨r,h,d r g⟩
theorem eq{x:Option β}{r:β}(h:x=Option.some r):aa x (fun g=>g=r):=⟨r,h,rfl⟩
theorem toEq{x:Option β}{r:β}(h:aa x (fun g=>g=r)):x=Option.some r:=by
 obtain⟨r',h,rfl⟩:=h;exact h
end aa
theorem fw.stop{st:List G→Option (Option Nat × List G)}{d d':List G}{x:Nat}{Q:Nat→List G→Prop}(h:st d=some (some x,d'))(g:Q x d'):fw st d Q:=⟨1,x,d',.stop h,by omega,g⟩
def cD(st:List G→Option (Option Nat × List G))(d:List G)(m:Nat)(Q:Nat→List G→Prop):Prop:=∃ n x d',ju st n d x d'∧n≤m∧Q x d'
theorem cD.stop{st:List G→Option (Option Nat × List G)}{d d':List G}{x m:Nat}{Q:Nat→List G→Prop}(h:st d=some (some x,d'))(g:Q x d'):cD st d (m+1) Q:=⟨1,x,d',.stop h,by omega,g⟩
theorem cD.next{st:List G→Option (Option Nat × List G)}{d d1:List G}{m:Nat}{Q:Nat→List G→Prop}(h:st d=some (none,d1))(hr:cD st d1 m Q):cD st d (m+1) Q:=by
 obtain⟨n,x,d',h1,k,g⟩:=hr;exact⟨n+1,x,d',.next h h1,by omega,g⟩
theorem cD.to{st:List G→Option (Option Nat × List G)}{d:List G}{m:Nat}{Q:Nat→List G→Prop}(h:cD st d m Q)(hm:m≤1000000):fw st d Q:=by
 obtain⟨n,x,d',h1,k,g⟩:=h;exact⟨n,x,d',h1,by omega,g⟩
theorem fw.mono{st:List G→Option (Option Nat × List G)}{d:List G}{P Q:Nat→List G→Prop}(h:fw st d P)(k:∀ x g,P x g→Q x g):fw st d Q:=by
 obtain⟨n,x,d',h1,q,A⟩:=h;exact⟨n,x,d',h1,q,k _ _ A⟩
theorem cD.mono{st:List G→Option (Option Nat × List G)}{d:List G}{m:Nat}{P Q:Nat→List G→Prop}(h:cD st d m P)(k:∀ x g,P x g→Q x g):cD st d m Q:=by
 obtain⟨n,x,d',h1,q,A⟩:=h;exact⟨n,x,d',h1,q,k _ _ A⟩
theorem Ze{p:Prop}{i:Decidable p}:(@decide p i=true)↔p:=by simp
theorem Zf{p:Prop}{i:Decidable p}:(@decide p i=false)↔¬ p:=by simp
theorem Zg{a b:Nat}:ab a b=true↔a=b:=⟨Nat.eq_of_beq_eq_true,fun h=>h▸Nat.beq_refl a⟩
theorem Aa(a:G)(l:List G):gi (a::l) 0=a:=rfl
theorem Ab(a:G)(l:List G)(i:Nat):gi (a::l) (i+1)=gi l i:=rfl
theorem Ac(r:List G)(l:List (List G)):(G.l (r::l)).row=r:=rfl
theorem Ad(l:List (List G)):(G.l l).rows=l:=rfl
theorem Ae(n:Int):(G.i n).int=n:=rfl
theorem Af(s:ByteArray):(G.s s).str=s:=rfl
theorem Ag(b:Bool):(G.t b).bool=b:=rfl
theorem sl:(∀ a b:Int,aB a b=decide (a<b))∧(∀ a b:Int,bM a b=decide (a≤b))∧(∀ n:Int,a_ n=decide (0≤n))∧(∀ b:Bool,(b&&true)=b)∧(∀ b:Bool,(true&&b)=b) ∧
  (∀ a b:Bool,((a&&b)=true)=(a=true∧b=true))∧(∀ a b:Bool,((a&&b)=false)=(a=false∨b=false))∧(∀(p:Prop) (i:Decidable p),(@decide p i=true)=p)∧(∀(p:Prop) (i:Decidable p),(@decide p i=false)=¬ p) ∧
  (∀ b:Bool,((!b)=true)=(b=false))∧(∀ b:Bool,((!b)=false)=(b=true))∧(∀ a b:Int,((a==b)=true)=(a=b))∧(∀ a b:Int,((a==b)=false)=¬ (a=b))∧(∀ a b:Int,((a != b)=true)=¬ (a=b))∧(∀ a b:Int,((a != b)=false)=(a=b)) ∧
  (∀(α:Type) (a b:α),(a≠b)=¬ (a=b))∧(∀ a b:Nat,(ab a b=true)=(a=b))∧(∀ a b:Nat,(Nat.ble a b=true)=(a≤b))∧(∀ a b:Nat,(Nat.blt a b=true)=(a<b)) ∧
  (∀(l:List (List G)) (i:Nat) (x:List G),(l.set i x).length=l.length)∧(∀(α:Type) (l r:List α),(l++r).length=l.length+r.length)∧(∀(n:Nat) (x:List G),(cI n x).length=n) ∧
  (∀(α:Type) (x:α) (l:List α),(x::l).length=l.length+1)∧(∀ α:Type,([]:List α).length=0)∧(∀(l:List (List G)) (n:Nat),(l.take n).length=min n l.length)∧(∀(l:List (List G)) (n:Nat),(l.drop n).length=l.length-n) ∧
  (∀ n:Nat,((n:Int)).toNat=n)∧(∀ p:Prop,(True∧p)=p)∧(∀ p:Prop,(p∧True)=p)∧(∀ a b:Bool,((a==b)=true)=(a=b)) :=
 ⟨dG, eD, l9, dU, Bool.true_and, ay, fun a b => by cases a <;> cases b <;> simp, fun _ _ => propext Ze, fun _ _ => propext Zf, fun b => by cases b <;> simp, fun b => by cases b <;> simp,
  fun a b=>by simp,fun a b=>by simp,fun a b=>by simp,fun a b=>by simp,fun _ a b=>rfl,fun a b=>propext Zg,fun a b=>by simp,fun a b=>by simp,fun l i x=>List.length_set,fun _ l r=>eY,fun n x=>UA,
  fun _ x l=>rfl,fun _=>rfl,fun l n=>List.length_take,fun l n=>List.length_drop,fun n=>Int.toNat_natCast n,fun p=>true_and p,fun p=>and_true p,fun a b=>by cases a<;>cases b<;>simp⟩
theorem aa.p{β:Type}{Q:β→Prop}{b:Bool}{x y:Option β}(d:aa x Q)(h:b=true:=by first|rfl|assumption|(simp only[aw,sl]<;>omega)):aa (bif b then x else y) Q:=aa.pos h d
theorem aa.n{β:Type}{Q:β→Prop}{b:Bool}{x y:Option β}(d:aa y Q)(h:b=false:=by first|rfl|assumption|(simp only[aw,sl]<;>omega)):aa (bif b then x else y) Q:=aa.neg h d
theorem aa.cE{β:Type}{Q:β→Prop}{t:Option (List G)}{r:List G}{k:List G→Option β}(h:t=Option.some r)(hk:aa (k r) Q):aa (ar t k) Q:=aa.call (aa.eq h) fun _ e=>by subst e; exact hk

end Go.AL

namespace Go.AL
open Go
variable [Dr]
theorem GH{σ:Type}{st:List G→Option (Option Nat × List G)}(mk:σ→Nat→List G)(n:Nat)(fin:σ→Nat × List G)(I:σ→Nat→Prop)(E:Nat→List G→Prop)
  (q:∀ s i,I s i→i<n→aa (st (mk s i)) fun o=>(∃ s',o=(none,mk s' (i+1))∧I s' (i+1))∨∃ c g,o=(some c,g)∧E c g)
  (A:∀ s,I s n→aa (st (mk s n)) fun o=>o=(some (fin s).1,(fin s).2)) :
  ∀(k:Nat) (s:σ) (i:Nat),i+k=n→I s i→cD st (mk s i) (k+1) fun c g=>(∃ s',I s' n∧c=(fin s').1∧g=(fin s').2)∨E c g
 | 0,s,i,hi,d=>by
  have e:i=n:=hi;subst e;obtain⟨o,h,rfl⟩:=A s d;exact cD.stop h (.inl ⟨s,d,rfl,rfl⟩)
 | k+1,s,i,hi,d=>by
  obtain⟨o,h,⟨s',rfl,B⟩|⟨c,g,rfl,F⟩⟩:=q s i d (by omega)
  ·exact cD.next h (GH mk n fin I E q A k s' (i+1) (by omega) B)
  ·exact cD.stop h (.inr F)
theorem kC{rows:List (List G)}{i:Nat}(h:i<rows.length):rows.getD i []∈rows:=by
 rw[cG,bA h];exact List.getElem_mem h
theorem Oe{rows:List (List G)}{i:Nat}(h:i<rows.length):rows.take (i+1)=rows.take i++[rows.getD i []]:=by
 rw[List.take_add_one,cG,bA h];rfl
theorem uF{σ:Type}{st:List G→Option (Option Nat × List G)}(mk:σ→Nat→List G)(rows:List (List G))(fin:σ→Nat × List G)(I:σ→Nat→Prop)(E:Nat→List G→Prop)(s:σ)
  (hlen:rows.length<999999) (h0:I s 0)
  (d:∀ s i x,I s i→i<rows.length→rows.getD i []=x→x∈rows→rows.take (i+1)=rows.take i++[x]→aa (st (mk s i)) fun o=>(∃ s',o=(none,mk s' (i+1))∧I s' (i+1))∨∃ c g,o=(some c,g)∧E c g)
  (k:∀ s,I s rows.length→aa (st (mk s rows.length)) fun o=>o=(some (fin s).1,(fin s).2)) :
  fw st (mk s 0) fun c g=>(∃ s',I s' rows.length∧c=(fin s').1∧g=(fin s').2)∨E c g :=
 (GH mk rows.length fin I E (fun s i q hi=>d s i _ q hi rfl (kC hi) (Oe hi)) k rows.length s 0 (by omega) h0).to (by omega)
theorem iq{σ:Type}{st:List G→Option (Option Nat × List G)}(mk:σ→Nat→List G)(rows:List (List G))(fin:σ→Nat × List G)(I:σ→Nat→Prop)(s:σ)
  (hlen:rows.length<999999) (h0:I s 0)
  (k:∀ s i x,I s i→i<rows.length→rows.getD i []=x→x∈rows→rows.take (i+1)=rows.take i++[x]→aa (st (mk s i)) fun o=>∃ s',o=(none,mk s' (i+1))∧I s' (i+1))
  (q:∀ s,I s rows.length→aa (st (mk s rows.length)) fun o=>o=(some (fin s).1,(fin s).2)) :
  fw st (mk s 0) fun c g=>∃ s',I s' rows.length∧c=(fin s').1∧g=(fin s').2 :=
 (uF mk rows fin I (fun _ _=>False) s hlen h0 (fun s i x a b c d e=>(k s i x a b c d e).mono fun _ h=>.inl h) q).mono fun _ _ h=>h.elim id False.elim
end Go.AL

namespace Go.AL
open Go
variable [Dr]
theorem oF{α:Type}[BEq α][LawfulBEq α](a b:α):(a==b)=(b==a):=by
 rw[g_];simp only[beq_iff_eq];exact eq_comm
theorem Zh{k:Kd}{a b:G}:kW k a b=kW k b a:=by
 cases k
 ·exact oF _ _
 ·exact oF _ _
 ·exact oF _ _
 ·rfl
theorem Zi{k:Kd}{a b c:G}(h1:kW k a b=true)(d:kW k b c=true):kW k a c=true:=by
 cases k<;>simp only[kW,beq_iff_eq]at *<;>first|exact h1.trans d|cases h1
theorem jT:∀{K:List Kd} {a b:List G},aq K a b=aq K b a
 | [],_,_=>rfl
 |k::K,a,b=>by simp only[aq,Zh (a:=a.headD default),jT (K:=K) (a:=a.tail)]
theorem lx:∀{K:List Kd} {a b c:List G},aq K a b=true→aq K b c=true→aq K a c=true
 | [],_,_,_,_,_=>rfl
 | k::K,a,b,c,h1,d=>by
  simp only[aq,ay]at *;exact⟨Zi h1.1 d.1,lx h1.2 d.2⟩
theorem Zj{K:List Kd}{a b c:List G}(h:aq K a b=true):aq K a c=aq K b c:=by
 rw[g_];constructor
 ·exact fun d=>lx (by rw[jT]; exact h) d
 ·exact fun d=>lx h d
theorem xP{K:List Kd}{a b c:List G}(h:aq K a b=true):aq K c a=aq K c b:=by
 rw[jT,Zj h,jT]
theorem ny(ks:List Kd)(key:List G):∀(rows:List (List G)) (i:Nat),c_ ks key rows i=(c_ ks key rows 0).map fun p=>(p.1+i,p.2)
 | [],i=>rfl
 | r::rs,i=>by
  simp only[c_];cases aq ks key (gi r 0).row with
  |true=>simp
  | false =>
   simp only[cond_false];rw[ny ks key rs (i+1),ny ks key rs (0+1),Option.map_map];congr 1
   funext p
   simp;omega
theorem xQ(ks:List Kd)(key z:List G):bZ ks [] key z=z:=rfl
theorem uG(ks:List Kd)(r:List G)(rs:List (List G))(key z:List G):bZ ks (r::rs) key z=bif aq ks key (gi r 0).row then (gi r 1).row else bZ ks rs key z:=by
 unfold bZ;simp only[c_];cases aq ks key (gi r 0).row with
 |true=>rfl
 | false =>
  simp only[cond_false];rw[ny ks key rs (0+1)];cases c_ ks key rs 0<;>rfl
theorem mo(ks:List Kd)(key:List G):bp ks [] key=false:=rfl
theorem mq(ks:List Kd)(r:List G)(rs:List (List G))(key:List G):bp ks (r::rs) key=(aq ks key (gi r 0).row||bp ks rs key):=by
 unfold bp;simp only[c_];cases aq ks key (gi r 0).row with
 |true=>rfl
 | false =>
  simp only[cond_false];rw[ny ks key rs (0+1)];cases c_ ks key rs 0<;>rfl
theorem uH(ks:List Kd)(key val:List G)(c:Nat):bK ks [] key val c=[[.l [key],.l [val],.i c]]:=rfl
theorem uI(ks:List Kd)(r:List G)(rs:List (List G))(key val:List G)(c:Nat) :
  bK ks (r::rs) key val c=bif aq ks key (gi r 0).row then [.l [key],.l [val],.i (gi r 2).int]::rs else r::bK ks rs key val c:=by
 unfold bK;simp only[c_];cases aq ks key (gi r 0).row with
 |true=>rfl
 | false =>
  simp only[cond_false];rw[ny ks key rs (0+1)];cases c_ ks key rs 0<;>rfl
theorem nz(ks:List Kd)(k v key z:List G)(c:Nat):∀ rows:List (List G),bZ ks (bK ks rows k v c) key z=bif aq ks key k then v else bZ ks rows key z
 | []=>by simp only[uH,uG,xQ]; rfl
 | r::rs=>by
  rw[uI,uG];cases h:aq ks k (gi r 0).row with
  | true =>
   simp only[cond_true,uG];have e:aq ks key (gi r 0).row=aq ks key k:=(xP h).symm;rw[e];cases d:aq ks key k with
   |true=>simp only[Aa,Ac,d,cond_true]; rfl
   |false=>simp only[Aa,Ac,d,cond_false]
  | false =>
   simp only[cond_false,uG,nz ks k v key z c rs];cases d:aq ks key (gi r 0).row with
   |false=>rfl
   | true =>
    cases g:aq ks key k with
    |false=>rfl
    | true =>
     have:aq ks k (gi r 0).row=true:=lx (by rw[jT]; exact g) d;rw[this]at h;cases h
theorem qm(ks:List Kd)(k v key:List G)(c:Nat):∀ rows:List (List G),bp ks (bK ks rows k v c) key=(aq ks key k||bp ks rows key)
 | []=>by simp only[uH,mq,mo]; rfl
 | r::rs=>by
  rw[uI,mq];cases h:aq ks k (gi r 0).row with
  | true =>
   simp only[cond_true,mq];have e:aq ks key (gi r 0).row=aq ks key k:=(xP h).symm;rw[e];simp only[Aa,Ac];cases aq ks key k<;>simp
  | false =>
   simp only[cond_false,mq,qm ks k v key c rs];cases aq ks key (gi r 0).row<;>simp
end Go.AL

namespace Go.AL
open Go
variable [Dr]
def xR(K:List Kd)(C:List G→Option (List G))(d:List G):Option (Option Nat × List G) :=
 (bif (aB (gi d 1).int (gi d 4).int) then (bif ((a_ (gi d 4).int)&&(aB (gi d 4).int (((gi d 0).rows.length:Nat):Int))) then (bif (decide ((0+((gi d 4).int).toNat)<(gi d 0).rows.length)) then (bif (aw ((gi d 4).int-1)) then (bif ((a_ ((gi d 4).int-1))&&(aB ((gi d 4).int-1) (((gi d 0).rows.length:Nat):Int))) then (bif (decide ((0+((gi d 4).int-1).toNat)<(gi d 0).rows.length)) then (ar (C [.l [(aR K ((gi d 0).rows.getD (0+((gi d 4).int).toNat) []))],.l [(aR K ((gi d 0).rows.getD (0+((gi d 4).int-1).toNat) []))]]) fun g1=>(bif (aB (gi g1 0).int 0) then (bif (aw ((gi d 4).int-1)) then (bif (aw ((gi d 4).int-1)) then (bif ((a_ ((gi d 4).int-1))&&(aB ((gi d 4).int-1) (((gi d 0).rows.length:Nat):Int))) then (bif (decide ((0+((gi d 4).int-1).toNat)<(gi d 0).rows.length)) then (bif ((a_ (gi d 4).int)&&(aB (gi d 4).int (((gi d 0).rows.length:Nat):Int))) then (bif (decide ((0+((gi d 4).int).toNat)<(gi d 0).rows.length)) then (bif ((a_ (gi d 4).int)&&(aB (gi d 4).int (((gi d 0).rows.length:Nat):Int))) then (bif (decide ((0+((gi d 4).int).toNat)<(gi d 0).rows.length)) then (bif ((a_ ((gi d 4).int-1))&&(aB ((gi d 4).int-1) (((gi d 0).rows.length:Nat):Int))) then (bif (decide ((0+((gi d 4).int-1).toNat)<((gi d 0).rows.set (0+((gi d 4).int).toNat) (fP K ((gi d 0).rows.getD (0+((gi d 4).int).toNat) []) 0 (aR K ((gi d 0).rows.getD (0+((gi d 4).int-1).toNat) [])))).length)) then (bif (aw ((gi d 4).int-1)) then (bif ((ab (gi d 0).rows.length (((gi d 0).rows.set (0+((gi d 4).int).toNat) (fP K ((gi d 0).rows.getD (0+((gi d 4).int).toNat) []) 0 (aR K ((gi d 0).rows.getD (0+((gi d 4).int-1).toNat) [])))).set (0+((gi d 4).int-1).toNat) (fP K (((gi d 0).rows.set (0+((gi d 4).int).toNat) (fP K ((gi d 0).rows.getD (0+((gi d 4).int).toNat) []) 0 (aR K ((gi d 0).rows.getD (0+((gi d 4).int-1).toNat) [])))).getD (0+((gi d 4).int-1).toNat) []) 0 (aR K ((gi d 0).rows.getD (0+((gi d 4).int).toNat) [])))).length)&&true) then some (none,[.l (((gi d 0).rows.set (0+((gi d 4).int).toNat) (fP K ((gi d 0).rows.getD (0+((gi d 4).int).toNat) []) 0 (aR K ((gi d 0).rows.getD (0+((gi d 4).int-1).toNat) [])))).set (0+((gi d 4).int-1).toNat) (fP K (((gi d 0).rows.set (0+((gi d 4).int).toNat) (fP K ((gi d 0).rows.getD (0+((gi d 4).int).toNat) []) 0 (aR K ((gi d 0).rows.getD (0+((gi d 4).int-1).toNat) [])))).getD (0+((gi d 4).int-1).toNat) []) 0 (aR K ((gi d 0).rows.getD (0+((gi d 4).int).toNat) [])))),.i (gi d 1).int,.i (gi d 2).int,.i (gi d 3).int,.i ((gi d 4).int-1)]) else none) else none) else none) else none) else none) else none) else none) else none) else none) else none) else none) else none) else (bif ((ab (gi d 0).rows.length (gi d 0).rows.length)&&true) then some (some 0,[.l (gi d 0).rows,.i (gi d 1).int,.i (gi d 2).int,.i (gi d 3).int]) else none))) else none) else none) else none) else none) else none) else (bif ((ab (gi d 0).rows.length (gi d 0).rows.length)&&true) then some (some 0,[.l (gi d 0).rows,.i (gi d 1).int,.i (gi d 2).int,.i (gi d 3).int]) else none))
def uJ(K:List Kd)(C:List G→Option (List G))(d:List G):Option (Option Nat × List G) :=
 (bif (aB (gi d 3).int (gi d 2).int) then (a7 ((ab (gi d 0).rows.length (gi d 0).rows.length)&&true) (cd (xR K C) [.l (gi d 0).rows,.i (gi d 1).int,.i (gi d 2).int,.i (gi d 3).int,.i (gi d 3).int]) fun g g2=>(bif (aw ((gi g2 3).int+1)) then (bif ((ab (gi g2 0).rows.length (gi g2 0).rows.length)&&true) then some (none,[.l (gi g2 0).rows,.i (gi g2 1).int,.i (gi g2 2).int,.i ((gi g2 3).int+1)]) else none) else none)) else some (some 0,[.l (gi d 0).rows]))
def nA(K:List Kd)(C:List G→Option (List G))(d:List G):Option (List G) :=
 (bif (aw ((gi d 1).int+1)) then (a7 ((ab (gi d 0).rows.length (gi d 0).rows.length)&&true) (cd (uJ K C) [.l (gi d 0).rows,.i (gi d 1).int,.i (gi d 2).int,.i ((gi d 1).int+1)]) fun g g3=>some [.l (gi g3 0).rows]) else none)
def rY(K:List Kd)(C:List G→Option (List G))(d:List G):Option (Option Nat × List G) :=
 (bif (bM (gi d 4).int (gi d 1).int) then (fS (((ab (gi d 0).rows.length (gi d 0).rows.length)&&true)&&((nA K C) [.l (gi d 0).rows,.i (gi d 3).int,.i (gi d 4).int]).isSome) ((nA K C) [.l (gi d 0).rows,.i (gi d 3).int,.i (gi d 4).int]) fun g1=>(bif (aw ((gi d 4).int+(gi d 2).int)) then (bif ((ab (gi d 0).rows.length (gi g1 0).rows.length)&&true) then some (none,[.l (gi g1 0).rows,.i (gi d 1).int,.i (gi d 2).int,.i (gi d 4).int,.i ((gi d 4).int+(gi d 2).int)]) else none) else none)) else (bif ((ab (gi d 0).rows.length (gi d 0).rows.length)&&true) then some (some 0,[.l (gi d 0).rows,.i (gi d 1).int,.i (gi d 2).int,.i (gi d 3).int]) else none))
def Zk(K:List Kd)(C:List G→Option (List G))(d:List G):Option (Option Nat × List G) :=
 (bif (bM (gi d 4).int (gi d 1).int) then (bif (aw ((gi d 3).int+(gi d 2).int)) then none else none) else (bif ((ab (gi d 0).rows.length (gi d 0).rows.length)&&true) then some (some 0,[.l (gi d 0).rows,.i (gi d 1).int,.i (gi d 2).int,.i (gi d 3).int]) else none))
def GI(K:List Kd)(C:List G→Option (List G))(d:List G):Option (Option Nat × List G) :=
 (bif (aB (gi d 2).int (gi d 1).int) then (bif (aw (2*(gi d 2).int)) then (a7 ((ab (gi d 0).rows.length (gi d 0).rows.length)&&true) (cd (Zk K C) [.l (gi d 0).rows,.i (gi d 1).int,.i (gi d 2).int,.i 0,.i (2*(gi d 2).int)]) fun g g4=>(bif (aw ((gi g4 3).int+(gi g4 2).int)) then (bif (aB ((gi g4 3).int+(gi g4 2).int) (gi g4 1).int) then none else (bif (aw ((gi g4 2).int*2)) then (bif ((ab (gi g4 0).rows.length (gi g4 0).rows.length)&&true) then some (none,[.l (gi g4 0).rows,.i (gi g4 1).int,.i ((gi g4 2).int*2)]) else none) else none)) else none)) else none) else some (some 0,[.l (gi d 0).rows]))
def BP(K:List Kd)(C:List G→Option (List G))(d:List G):Option (List G) :=
 (a7 ((ab (gi d 0).rows.length (gi d 0).rows.length)&&true) (cd (rY K C) [.l (gi d 0).rows,.i (gi d 1).int,.i 20,.i 0,.i 20]) fun g g2=>(fS (((ab (gi g2 0).rows.length (gi g2 0).rows.length)&&true)&&((nA K C) [.l (gi g2 0).rows,.i (gi g2 3).int,.i (gi g2 1).int]).isSome) ((nA K C) [.l (gi g2 0).rows,.i (gi g2 3).int,.i (gi g2 1).int]) fun g3=>(a7 ((ab (gi g2 0).rows.length (gi g3 0).rows.length)&&true) (cd (GI K C) [.l (gi g3 0).rows,.i (gi g2 1).int,.i (gi g2 2).int]) fun k g5=>some [.l (gi g5 0).rows])))
def Of(K:List Kd)(C:List G→Option (List G))(d:List G):Option (List G) :=
 (fS (((ab (gi d 0).rows.length (gi d 0).rows.length)&&true)&&((BP K C) [.l (gi d 0).rows,.i (((gi d 0).rows.length:Nat):Int)]).isSome) ((BP K C) [.l (gi d 0).rows,.i (((gi d 0).rows.length:Nat):Int)]) fun g1=>some [.l (gi g1 0).rows])
theorem kD{α:Type}(l:List α)(x:α)(q:List α)(z:α)(n:Nat)(h:n=l.length):(l++x::q).getD n z=x:=by subst h; simp
theorem BQ{α:Type}(l:List α)(x y:α)(q:List α)(n:Nat)(h:n=l.length):(l++x::q).set n y=l++y::q:=by subst h; simp
def fH{α:Type}(lt:α→α→Bool)(x:α):List α→List α
 | []=>[x]
 |y::p=>bif lt x y then y::fH lt x p else x::y::p
def iK{α:Type}(lt:α→α→Bool):List α→List α→List α
 |p,[]=>p
 |p,x::r=>iK lt (fH lt x p) r
def eU{α:Type}(lt:α→α→Bool)(l:List α):List α:=(iK lt [] l).reverse
theorem BR{α:Type}(lt:α→α→Bool)(x:α):∀ p,(fH lt x p).length=p.length+1
 | []=>rfl
 | y::p=>by
  simp only[fH];cases lt x y with
  |true=>simp[BR lt x p]
  |false=>simp
theorem GJ{α:Type}{Q:α→Prop}{lt:α→α→Bool}{x:α}(g:Q x):∀{p:List α},(∀ y∈p,Q y)→∀ y∈fH lt x p,Q y
 | [],_,y,d=>by simp[fH]at d; exact d▸g
 | z::p,k,y,d=>by
  simp only[fH]at d;cases q:lt x z with
  | true =>
   rw[q]at d;rcases bC.1 d with rfl|d
   ·exact k _ cJ
   ·exact GJ g (fun y d=>k y (bS _ d)) y d
  | false =>
   rw[q]at d;rcases bC.1 d with rfl|d
   ·exact g
   ·exact k y d
theorem Og{α:Type}(lt:α→α→Bool):∀(p r:List α),(iK lt p r).length=p.length+r.length
 |p,[]=>rfl
 |p,x::r=>by simp only[iK,Og lt,BR,cF]; omega
theorem Oh{α:Type}{Q:α→Prop}{lt:α→α→Bool}:∀{r p:List α},(∀ y∈p,Q y)→(∀ y∈r,Q y)→∀ y∈iK lt p r,Q y
 | [],_,d,_=>d
 | x::r,p,d,hr=>by
  simp only[iK];exact Oh (GJ (hr x cJ) d) fun y g=>hr y (bS _ g)
theorem oG{α:Type}(lt:α→α→Bool)(l:List α):(eU lt l).length=l.length:=by simp[eU,Og]
theorem GK{α:Type}{Q:α→Prop}{lt:α→α→Bool}{l:List α}(h:∀ y∈l,Q y):∀ y∈eU lt l,Q y:=by
 intro y d;exact Oh (p:=[]) (by simp) h y (by simpa[eU]using d)
theorem BS:∀(K:List Kd) (r:List G),(aR K r).length=K.length
 | [],_=>rfl
 |k::K,r=>by simp[aR,BS K]
theorem GL{K:List Kd}{r gs:List G}(h:gs.length=K.length):fP K r 0 gs=gs:=by
 simp[fP,h,E8,Uy]
section
variable {K:List Kd} {C:List G→Option (List G)} {Q:List G→Prop} {c:List G→List G→Int}
structure ly (K:List Kd) (C:List G→Option (List G)) (Q:List G→Prop) (c:List G→List G→Int):Prop where
 cmp:∀ r s,Q r→Q s→C [.l [r],.l [s]]=some [.i (c r s)]
 eta:∀ r,Q r→aR K r=r
def bU(c:List G→List G→Int)(r s:List G):Bool:=aB (c r s) 0
theorem Oi(hC:ly K C Q c):∀(p q:List (List G)) (x:List G) (b i:Int) (j:Nat),(∀ y∈p,Q y)→Q x→p.length<1000000→j=p.length →
  ∃ m,m≤p.length+1∧ju (xR K C) m [.l (p.reverse++x::q),.i 0,.i b,.i i,.i (j:Int)] 0 [.l ((fH (bU c) x p).reverse++q),.i 0,.i b,.i i]
 | [],q,x,b,i,j,_,_,_,d=>by
  simp only[gK]at d;subst d;refine⟨1,by simp,.stop (aa.toEq ?_)⟩;unfold xR
  (dsimp +instances only[Aa,Ab,Ac,Ad,Ae,Af,Ag])
  refine aa.n (aa.p (aa.some ?_));rfl
 | y::p,q,x,b,i,j,F,g,N,d=>by
  have A:=F y cJ;have I:(y::p).reverse++x::q=(p.reverse++[y])++x::q:=by simp
  have O:(y::p).reverse++x::q=p.reverse++y::x::q:=by simp
  simp only[cF]at N d;have g1:((y::p).reverse++x::q).getD (0+(j:Int).toNat) []=x:=by rw[I]; exact kD _ _ _ _ _ (by simp[d])
  have g2:((y::p).reverse++x::q).getD (0+((j:Int)-1).toNat) []=y:=by rw[O]; exact kD _ _ _ _ _ (by simp[d])
  have hlen:((y::p).reverse++x::q).length=p.length+q.length+2:=by simp; omega
  have B:=hC.cmp x y g A;cases k:bU c x y with
  | false =>
   refine⟨1,by simp,.stop (aa.toEq ?_)⟩;unfold xR
   (dsimp +instances only[Aa,Ab,Ac,Ad,Ae,Af,Ag])
   simp only[hlen,g1,g2,hC.eta x g,hC.eta y A];refine aa.p (aa.p (aa.p (aa.p (aa.p (aa.p (aa.call (aa.eq B) ?_))))));rintro _ rfl
   (dsimp +instances only[Aa,Ab,Ac,Ad,Ae,Af,Ag])
   refine aa.neg k (aa.p (aa.some ?_));simp[fH,k]
  | true =>
   obtain⟨m,hm,hr⟩:=Oi hC p (y::q) x b i (j-1) (fun z R=>F z (bS _ R)) g (by omega) (by omega);refine⟨m+1,by simp; omega,.next (aa.toEq ?_) (by
    have e:(fH (bU c) x (y::p)).reverse++q=(fH (bU c) x p).reverse++y::q:=by simp[fH,k]
    rw[e]; exact hr)⟩
   have s1:((y::p).reverse++x::q).set (0+(j:Int).toNat) y=p.reverse++y::y::q:=by
    rw[I,BQ _ _ _ _ _ (by simp[d])]; simp
   have s2:(p.reverse++y::y::q).set (0+((j:Int)-1).toNat) x=p.reverse++x::y::q:=BQ _ _ _ _ _ (by simp[d]);have J:(p.reverse++y::y::q).length=p.length+q.length+2:=by simp; omega
   have M:(p.reverse++x::y::q).length=p.length+q.length+2:=by simp; omega
   have ky:y.length=K.length:=by rw[←hC.eta y A,BS]
   have U:x.length=K.length:=by rw[←hC.eta x g,BS]
   unfold xR
   (dsimp +instances only[Aa,Ab,Ac,Ad,Ae,Af,Ag])
   simp only[hlen,g1,g2,hC.eta x g,hC.eta y A,GL ky,GL U,s1,s2,J,M];refine aa.p (aa.p (aa.p (aa.p (aa.p (aa.p (aa.call (aa.eq B) ?_))))));rintro _ rfl
   (dsimp +instances only[Aa,Ab,Ac,Ad,Ae,Af,Ag])
   refine aa.pos k ?_;refine aa.p (aa.p (aa.p (aa.p (aa.p (aa.p (aa.p (aa.p (aa.p (aa.p (aa.p (aa.p (aa.some ?_))))))))))));congr;omega
theorem Oj(hC:ly K C Q c):∀(r p:List (List G)) (i n:Nat),(∀ y∈p,Q y)→(∀ y∈r,Q y)→i=p.length→n=p.length+r.length→n<100000 →
  ∃ m,m≤r.length+1∧ju (uJ K C) m [.l (p.reverse++r),.i 0,.i (n:Int),.i (i:Int)] 0 [.l (iK (bU c) p r).reverse]
 | [],p,i,n,_,_,hi,hn,hs=>by
  refine⟨1,by simp,.stop (aa.toEq ?_)⟩;simp only[gK]at hn;unfold uJ
  (dsimp +instances only[Aa,Ab,Ac,Ad,Ae,Af,Ag])
  refine aa.n (aa.some ?_);simp[iK]
 | x::r,p,i,n,d,hr,hi,hn,hs=>by
  simp only[cF]at hn;obtain⟨m1,A,h1⟩:=Oi hC p r x (n:Int) (i:Int) i d (hr x cJ) (by omega) hi;obtain⟨m,hm,k⟩:=Oj hC r (fH (bU c) x p) (i+1) n (GJ (hr x cJ) d) (fun y q=>hr y (bS _ q)) (by rw[BR,hi]) (by rw[BR]; omega) hs;refine⟨m+1,by simp; omega,.next (aa.toEq ?_) k⟩;unfold uJ
  (dsimp +instances only[Aa,Ab,Ac,Ad,Ae,Af,Ag])
  refine aa.p (aa.loop (P:=fun x g=>g=_) ⟨m1,0,_,h1,by omega,rfl⟩ (by(first|rfl|assumption|(simp only[aw,sl]<;>omega))) ?_);rintro _ _ rfl
  (dsimp +instances only[Aa,Ab,Ac,Ad,Ae,Af,Ag])
  refine aa.p (aa.p (aa.some ?_));rfl
theorem Zl(hC:ly K C Q c)(rows:List (List G))(hr:∀ y∈rows,Q y)(hn:rows.length<100000):nA K C [.l rows,.i 0,.i (rows.length:Int)]=some [.l (eU (bU c) rows)]:=by
 refine aa.toEq ?_;unfold nA
 (dsimp +instances only[Aa,Ab,Ac,Ad,Ae,Af,Ag])
 refine aa.p ?_;cases rows with
 | nil =>
  refine aa.loop (P:=fun x g=>g=[.l []]) ⟨1,0,_,.stop (aa.toEq (?_:aa _ (fun g=>g=(some 0,[G.l []])))),by omega,rfl⟩ (by(first|rfl|assumption|(simp only[aw,sl]<;>omega))) ?_
  ·unfold uJ
   (dsimp +instances only[Aa,Ab,Ac,Ad,Ae,Af,Ag])
   exact aa.n (aa.some rfl)
  ·rintro _ _ rfl
   exact aa.some rfl
 | cons x r =>
  simp only[cF]at hn;obtain⟨m,hm,h⟩:=Oj hC r [x] 1 (r.length+1) (by simpa using hr x cJ) (fun y d=>hr y (bS _ d)) rfl (by simp; omega) (by omega);refine aa.loop (P:=fun y g=>g=_) ⟨m,0,_,h,by omega,rfl⟩ (by(first|rfl|assumption|(simp only[aw,sl]<;>omega))) ?_;rintro _ _ rfl;exact aa.some rfl
theorem Zm(rows:List (List G))(a b:Nat)(h:b≤a)(hn:a<100000):nA K C [.l rows,.i (a:Int),.i (b:Int)]=some [.l rows]:=by
 refine aa.toEq ?_;unfold nA
 (dsimp +instances only[Aa,Ab,Ac,Ad,Ae,Af,Ag])
 refine aa.p ?_;refine aa.loop (P:=fun x g=>g=[.l rows]) ⟨1,0,_,.stop (aa.toEq (?_:aa _ (fun g=>g=(some 0,[G.l rows])))),by omega,rfl⟩ (by(first|rfl|assumption|(simp only[aw,sl]<;>omega))) ?_
 ·unfold uJ
  (dsimp +instances only[Aa,Ab,Ac,Ad,Ae,Af,Ag])
  exact aa.n (aa.some rfl)
 ·rintro _ _ rfl
  exact aa.some rfl
theorem Zn(hC:ly K C Q c)(rows:List (List G))(hr:∀ y∈rows,Q y)(hn:rows.length≤20):BP K C [.l rows,.i (rows.length:Int)]=some [.l (eU (bU c) rows)]:=by
 refine aa.toEq ?_;unfold BP
 (dsimp +instances only[Aa,Ab,Ac,Ad,Ae,Af,Ag])
 have d:=Zl hC rows hr (by omega);have hlen:=oG (bU c) rows;have q:∀ rows':List (List G),rows'.length=rows.length→fw (GI K C) [.l rows',.i (rows.length:Int),.i 20] fun _ g=>g=[.l rows']:=by
  intro rows' F;refine fw.stop (x:=0) (aa.toEq ?_) rfl;unfold GI
  (dsimp +instances only[Aa,Ab,Ac,Ad,Ae,Af,Ag])
  exact aa.n (aa.some rfl)
 by_cases k:rows.length=20
 ·have h1:rY K C [.l rows,.i (rows.length:Int),.i 20,.i 0,.i 20]=some (none,[.l (eU (bU c) rows),.i (rows.length:Int),.i 20,.i 20,.i 40]):=by
   refine aa.toEq ?_;unfold rY
   (dsimp +instances only[Aa,Ab,Ac,Ad,Ae,Af,Ag])
   have d:nA K C [.l rows,.i 0,.i 20]=some [.l (eU (bU c) rows)]:=by rw[k]at d; exact d
   refine aa.p (aa.gS (aa.eq d) (by(first|rfl|assumption|(simp only[aw,sl]<;>omega))) ?_);rintro _ rfl
   (dsimp +instances only[Aa,Ab,Ac,Ad,Ae,Af,Ag])
   exact aa.p (aa.p (aa.some rfl))
  have A:rY K C [.l (eU (bU c) rows),.i (rows.length:Int),.i 20,.i 20,.i 40]=some (some 0,[.l (eU (bU c) rows),.i (rows.length:Int),.i 20,.i 20]):=by
   refine aa.toEq ?_;unfold rY
   (dsimp +instances only[Aa,Ab,Ac,Ad,Ae,Af,Ag])
   exact aa.n (aa.p (aa.some rfl))
  refine aa.loop (P:=fun x g=>g=_) ⟨2,0,_,.next h1 (.stop A),by omega,rfl⟩ (by(first|rfl|assumption|(simp only[aw,sl]<;>omega))) ?_;rintro _ _ rfl
  (dsimp +instances only[Aa,Ab,Ac,Ad,Ae,Af,Ag])
  have B:nA K C [.l (eU (bU c) rows),.i 20,.i (rows.length:Int)]=some [.l (eU (bU c) rows)]:=by
   rw[k]; exact Zm _ 20 20 (by omega) (by omega)
  refine aa.gS (aa.eq B) (by(first|rfl|assumption|(simp only[aw,sl]<;>omega))) ?_;rintro _ rfl
  (dsimp +instances only[Aa,Ab,Ac,Ad,Ae,Af,Ag])
  refine aa.loop (q _ hlen) (by(first|rfl|assumption|(simp only[aw,sl]<;>omega))) ?_;rintro _ _ rfl;exact aa.some rfl
 ·have h1:rY K C [.l rows,.i (rows.length:Int),.i 20,.i 0,.i 20]=some (some 0,[.l rows,.i (rows.length:Int),.i 20,.i 0]):=by
   refine aa.toEq ?_;unfold rY
   (dsimp +instances only[Aa,Ab,Ac,Ad,Ae,Af,Ag])
   exact aa.n (aa.p (aa.some rfl))
  refine aa.loop (P:=fun x g=>g=_) ⟨1,0,_,.stop h1,by omega,rfl⟩ (by(first|rfl|assumption|(simp only[aw,sl]<;>omega))) ?_;rintro _ _ rfl
  (dsimp +instances only[Aa,Ab,Ac,Ad,Ae,Af,Ag])
  refine aa.gS (aa.eq d) (by(first|rfl|assumption|(simp only[aw,sl]<;>omega))) ?_;rintro _ rfl
  (dsimp +instances only[Aa,Ab,Ac,Ad,Ae,Af,Ag])
  refine aa.loop (q _ hlen) (by(first|rfl|assumption|(simp only[aw,sl]<;>omega))) ?_;rintro _ _ rfl;exact aa.some rfl
theorem Zo(hC:ly K C Q c)(rows:List (List G))(hr:∀ y∈rows,Q y)(hn:rows.length≤20):Of K C [.l rows]=some [.l (eU (bU c) rows)]:=by
 refine aa.toEq ?_;unfold Of
 (dsimp +instances only[Aa,Ab,Ac,Ad,Ae,Af,Ag])
 refine aa.gS (aa.eq (Zn hC rows hr hn)) (by(first|rfl|assumption|(simp only[aw,sl]<;>omega))) ?_;rintro _ rfl;exact aa.some rfl
end
end Go.AL

namespace Go.AL
open Go
variable [Dr]
def qn(K:List Kd)(Z:List G)(d:List G):Option (Option Nat × List G) :=
 (bif (aB (gi d 4).int (((gi d 3).int.toNat:Nat):Int)) then (bif ((a_ (gi d 4).int)&&(aB (gi d 4).int (((gi d 3).int.toNat:Nat):Int))) then (bif (decide (((gi d 2).int.toNat+((gi d 4).int).toNat)<(gi d 0).rows.length)) then (bif (aw ((gi d 4).int-1)) then (bif ((a_ ((gi d 4).int-1))&&(aB ((gi d 4).int-1) (((gi d 3).int.toNat:Nat):Int))) then (bif (decide (((gi d 2).int.toNat+((gi d 4).int-1).toNat)<(gi d 0).rows.length)) then (bif (!(aq K (aR K ((gi d 0).rows.getD ((gi d 2).int.toNat+((gi d 4).int).toNat) [])) (aR K ((gi d 0).rows.getD ((gi d 2).int.toNat+((gi d 4).int-1).toNat) [])))) then (bif ((a_ (gi d 4).int)&&(aB (gi d 4).int (((gi d 3).int.toNat:Nat):Int))) then (bif (decide (((gi d 2).int.toNat+((gi d 4).int).toNat)<(gi d 0).rows.length)) then (bif ((a_ (gi d 1).int)&&(aB (gi d 1).int (((gi d 0).rows.length:Nat):Int))) then (bif (decide ((0+((gi d 1).int).toNat)<(gi d 0).rows.length)) then (bif (aw ((gi d 1).int+1)) then (bif (aw ((gi d 4).int+1)) then (bif ((ab (gi d 0).rows.length ((gi d 0).rows.set (0+((gi d 1).int).toNat) (fP K ((gi d 0).rows.getD (0+((gi d 1).int).toNat) []) 0 (aR K ((gi d 0).rows.getD ((gi d 2).int.toNat+((gi d 4).int).toNat) [])))).length)&&true) then some (none,[.l ((gi d 0).rows.set (0+((gi d 1).int).toNat) (fP K ((gi d 0).rows.getD (0+((gi d 1).int).toNat) []) 0 (aR K ((gi d 0).rows.getD ((gi d 2).int.toNat+((gi d 4).int).toNat) [])))),.i ((gi d 1).int+1),.i (((gi d 2).int.toNat:Nat):Int),.i (((gi d 3).int.toNat:Nat):Int),.i ((gi d 4).int+1)]) else none) else none) else none) else none) else none) else none) else none) else (bif (aw ((gi d 4).int+1)) then (bif ((ab (gi d 0).rows.length (gi d 0).rows.length)&&true) then some (none,[.l (gi d 0).rows,.i (gi d 1).int,.i (((gi d 2).int.toNat:Nat):Int),.i (((gi d 3).int.toNat:Nat):Int),.i ((gi d 4).int+1)]) else none) else none)) else none) else none) else none) else none) else none) else (bif ((ab (gi d 0).rows.length (gi d 0).rows.length)&&true) then some (some 0,[.l (gi d 0).rows,.i (gi d 1).int]) else none))
def oH(K:List Kd)(Z:List G)(d:List G):Option (Option Nat × List G) :=
 (bif (aB (gi d 1).int (((gi d 0).rows.length:Nat):Int)) then (bif ((a_ (gi d 1).int)&&(aB (gi d 1).int (((gi d 0).rows.length:Nat):Int))) then (bif (decide ((0+((gi d 1).int).toNat)<(gi d 0).rows.length)) then (bif (aw ((gi d 1).int-1)) then (bif ((a_ ((gi d 1).int-1))&&(aB ((gi d 1).int-1) (((gi d 0).rows.length:Nat):Int))) then (bif (decide ((0+((gi d 1).int-1).toNat)<(gi d 0).rows.length)) then (bif (aq K (aR K ((gi d 0).rows.getD (0+((gi d 1).int).toNat) [])) (aR K ((gi d 0).rows.getD (0+((gi d 1).int-1).toNat) []))) then (bif ((a_ (gi d 1).int)&&(bM (gi d 1).int (((gi d 0).rows.length:Nat):Int))) then (a7 ((ab (gi d 0).rows.length (gi d 0).rows.length)&&true) (cd (qn K Z) [.l (gi d 0).rows,.i (gi d 1).int,.i (((0+((gi d 1).int).toNat):Nat):Int),.i ((((gi d 0).rows.length-((gi d 1).int).toNat):Nat):Int),.i 1]) fun g g1=>(bif ((a_ (gi g1 1).int)&&(bM (gi g1 1).int (((gi g1 0).rows.length:Nat):Int))) then (bif (Nat.ble ((0+((gi g1 1).int).toNat)+((gi g1 0).rows.length-((gi g1 1).int).toNat)) (gi g1 0).rows.length) then (bif ((a_ (gi g1 1).int)&&(bM (gi g1 1).int (((gi g1 0).rows.length:Nat):Int))) then some (some 0,[.l ((gi g1 0).rows.take (0+((gi g1 1).int).toNat)++cI ((gi g1 0).rows.length-((gi g1 1).int).toNat) Z++(gi g1 0).rows.drop ((0+((gi g1 1).int).toNat)+((gi g1 0).rows.length-((gi g1 1).int).toNat))),.i (((((gi g1 1).int).toNat-0):Nat):Int)]) else none) else none) else none)) else none) else (bif (aw ((gi d 1).int+1)) then (bif ((ab (gi d 0).rows.length (gi d 0).rows.length)&&true) then some (none,[.l (gi d 0).rows,.i ((gi d 1).int+1)]) else none) else none)) else none) else none) else none) else none) else none) else (bif ((ab (gi d 0).rows.length (gi d 0).rows.length)&&true) then some (some 1,[.l (gi d 0).rows]) else none))
def xS(K:List Kd)(Z:List G)(d:List G):Option (List G) :=
 (bif (aB (((gi d 0).rows.length:Nat):Int) 2) then some [.l (gi d 0).rows,.i (((gi d 0).rows.length:Nat):Int)] else (a7 ((ab (gi d 0).rows.length (gi d 0).rows.length)&&true) (cd (oH K Z) [.l (gi d 0).rows,.i 1]) fun g g2=>(bif ab g 0 then some [.l (gi g2 0).rows,.i (((gi g2 1).int.toNat:Nat):Int)] else some [.l (gi g2 0).rows,.i (((gi g2 0).rows.length:Nat):Int)])))
def dh{α:Type}(e:α→α→Bool):α→List α→List α
 |_,[]=>[]
 |y,x::q=>bif e x y then dh e x q else x::dh e x q
def fi{α:Type}(e:α→α→Bool):List α→List α
 | []=>[]
 |x::q=>x::dh e x q
theorem GM{α:Type}{e:α→α→Bool}:∀{q:List α} {y z:α},z∈dh e y q→z∈q
 | x::q,y,z,h=>by
  simp only[dh]at h;cases he:e x y with
  |true=>rw[he]at h; exact bS _ (GM h)
  | false =>
   rw[he]at h;rcases bC.1 h with rfl|h
   ·exact cJ
   ·exact bS _ (GM h)
theorem Ol{α:Type}{e:α→α→Bool}:∀{l:List α} {z:α},z∈fi e l→z∈l
 | x::q,z,h=>by
  rcases bC.1 h with rfl|h
  ·exact cJ
  ·exact bS _ (GM h)
section
variable {K:List Kd} {Z:List G} {Q:List G→Prop}
structure uK (K:List Kd) (Q:List G→Prop):Prop where
 eta:∀ r,Q r→aR K r=r
theorem GN(hC:uK K Q):∀(q kept M:List (List G)) (y:List G) (lo len g:Nat),(∀ z∈kept++M++y::q,Q z)→lo+g=kept.length+M.length+1→g+q.length=len→kept.length+M.length+q.length<100000→1≤g →
  ∃ m J,m≤q.length+1∧(kept++dh (aq K) y q++J).length=kept.length+M.length+1+q.length∧ju (qn K Z) m [.l (kept++M++y::q),.i (kept.length:Int),.i (lo:Int),.i (len:Int),.i (g:Int)] 0 [.l (kept++dh (aq K) y q++J),.i ((kept++dh (aq K) y q).length:Int)]
 | [],kept,M,y,lo,len,g,k,h1,N,O,h4=>by
  refine⟨1,M++[y],by simp,by simp[dh]; omega,.stop (aa.toEq ?_)⟩;simp only[gK]at N O;unfold qn
  (dsimp +instances only[Aa,Ab,Ac,Ad,Ae,Af,Ag])
  (repeat first|refine aa.p ?_|refine aa.n ?_)
  refine aa.some ?_;simp[dh]
 | x::q,kept,M,y,lo,len,g,k,h1,N,O,h4=>by
  simp only[cF]at N O;have B:Q x:=k x (by simp);have R:Q y:=k y (by simp);have g1:(kept++M++y::x::q).getD ((lo:Int).toNat+(g:Int).toNat) []=x:=by
   have e:kept++M++y::x::q=(kept++M++[y])++x::q:=by simp
   rw[e]; exact kD _ _ _ _ _ (by simp<;>omega)
  have g2:(kept++M++y::x::q).getD ((lo:Int).toNat+((g:Int)-1).toNat) []=y:=kD _ _ _ _ _ (by simp; omega);have hlen:(kept++M++y::x::q).length=kept.length+M.length+q.length+2:=by simp; omega
  cases he:(aq K) x y with
  | true =>
   obtain⟨m,J,hm,U,hr⟩:=GN hC q kept (M++[y]) x lo len (g+1) (by simpa using k) (by simp; omega) (by omega) (by simp; omega) (by omega);have e:dh (aq K) y (x::q)=dh (aq K) x q:=by simp[dh,he]
   refine⟨m+1,J,by simp; omega,by rw[e,U]; simp; omega,.next (aa.toEq ?_) (by rw[e]; exact hr)⟩;unfold qn
   (dsimp +instances only[Aa,Ab,Ac,Ad,Ae,Af,Ag])
   simp only[hlen,g1,g2,hC.eta x B,hC.eta y R]
   (repeat first|refine aa.p ?_|refine aa.n ?_)
   try simp only[he]
   (repeat first|refine aa.p ?_|refine aa.n ?_)
   refine aa.some ?_;simp
  | false =>
   obtain⟨I,A,W,Y⟩:∃ I A,(kept++M++y::x::q).set kept.length x=I++A++x::q∧(I=kept++[x]∧A.length=M.length∧∀ z∈A,z∈M++[y]):=by
    cases M with
    |nil=>exact⟨kept++[x],[],by simp,rfl,rfl,by simp⟩
    |cons z M=>exact⟨kept++[x],M++[y],by simp,rfl,by simp,by simp; intro z d; rcases d with d|d<;>simp[d]⟩
   obtain⟨Y,F,e4⟩:=Y;subst Y;obtain⟨m,J,hm,U,hr⟩:=GN hC q (kept++[x]) A x lo len (g+1) (by
    intro z d;simp only[bV,bC]at d;rcases d with((d|d)|d)|d|d
    ·exact k z (by simp[d])
    ·simp at d; exact d▸B
    ·have := e4 z d
     simp only[bV,bC]at this;rcases this with h|h|h
     ·exact k z (by simp[h])
     ·exact h▸R
     ·simp at h
    ·exact d▸B
    ·exact k z (by simp[d])) (by simp[F]; omega) (by omega) (by simp[F]; omega) (by omega)
   have e:kept++dh (aq K) y (x::q)=(kept++[x])++dh (aq K) x q:=by simp[dh,he]
   refine⟨m+1,J,by simp; omega,by rw[e,U]; simp[F]; omega,.next (aa.toEq ?_) (by rw[e]; exact hr)⟩;have kx:x.length=K.length:=by rw[←hC.eta x B,BS]
   have hl2:((kept++[x])++A++x::q).length=kept.length+M.length+q.length+2:=by simp[F]; omega
   have W:(kept++M++y::x::q).set (0+(kept.length:Int).toNat) x=(kept++[x])++A++x::q:=by simpa using W
   unfold qn
   (dsimp +instances only[Aa,Ab,Ac,Ad,Ae,Af,Ag])
   simp only[hlen,g1,g2,hC.eta x B,hC.eta y R,GL kx,W,hl2]
   (repeat first|refine aa.p ?_|refine aa.n ?_)
   try simp only[he]
   (repeat first|refine aa.p ?_|refine aa.n ?_)
   refine aa.some ?_;simp
theorem Om(hC:uK K Q):∀(q p:List (List G)) (y:List G),(∀ z∈p++y::q,Q z)→p.length+q.length<99999 →
  (∃ m,m≤q.length+1∧dh (aq K) y q=q∧ju (oH K Z) m [.l (p++y::q),.i ((p.length:Int)+1)] 1 [.l (p++y::q)]) ∨
  ∃ m J,m≤q.length+1∧(p++y::dh (aq K) y q++J).length=p.length+1+q.length∧ju (oH K Z) m [.l (p++y::q),.i ((p.length:Int)+1)] 0 [.l (p++y::dh (aq K) y q++J),.i ((p++y::dh (aq K) y q).length:Int)]
 | [],p,y,d,A=>by
  refine .inl ⟨1,by simp,rfl,.stop (aa.toEq ?_)⟩;simp only[gK]at A;unfold oH
  (dsimp +instances only[Aa,Ab,Ac,Ad,Ae,Af,Ag])
  (repeat first|refine aa.p ?_|refine aa.n ?_)
  exact aa.some rfl
 | x::q,p,y,d,A=>by
  simp only[cF]at A;have F:Q x:=d x (by simp);have I:Q y:=d y (by simp);have g1:(p++y::x::q).getD (0+((p.length:Int)+1).toNat) []=x:=by
   have e:p++y::x::q=(p++[y])++x::q:=by simp
   rw[e]; exact kD _ _ _ _ _ (by simp<;>omega)
  have g2:(p++y::x::q).getD (0+((p.length:Int)+1-1).toNat) []=y:=kD _ _ _ _ _ (by simp<;>omega);have hlen:(p++y::x::q).length=p.length+q.length+2:=by simp; omega
  cases he:(aq K) x y with
  | true =>
   obtain⟨m,J,hm,B,hr⟩:=GN hC q (p++[y]) [] x (p.length+1) (q.length+1) 1 (by simpa using d) (by simp) (by omega) (by simp; omega) (by omega);have e:p++y::dh (aq K) y (x::q)=(p++[y])++dh (aq K) x q:=by simp[dh,he]
   have k:(((p++[y])++dh (aq K) x q)++J).length=p.length+q.length+2:=by rw[B]; simp; omega
   have hle:((p++[y])++dh (aq K) x q).length≤p.length+q.length+2:=by rw[←k]; simp
   have M:ju (qn K Z) m [.l (p++y::x::q),.i ((p.length:Int)+1),.i ((0+((p.length:Int)+1).toNat:Nat):Int),.i ((p.length+q.length+2-((p.length:Int)+1).toNat:Nat):Int),.i 1] 0 [.l ((p++[y])++dh (aq K) x q++J),.i (((p++[y])++dh (aq K) x q).length:Int)]:=by
    have N:(((p++[y]).length:Nat):Int)=(p.length:Int)+1:=by simp
    have a2:((p.length+1:Nat):Int)=((0+((p.length:Int)+1).toNat:Nat):Int):=by omega
    have a3:((q.length+1:Nat):Int)=((p.length+q.length+2-((p.length:Int)+1).toNat:Nat):Int):=by omega
    rw[N,a2,a3]at hr;simpa using hr
   refine .inr ⟨1,cI (p.length+q.length+2-((p++[y])++dh (aq K) x q).length) Z,by simp,by rw[e,eY,UA]; simp at hle⊢; omega,.stop (aa.toEq ?_)⟩;rw[e];generalize hw:(p++[y])++dh (aq K) x q=w at *;unfold oH
   (dsimp +instances only[Aa,Ab,Ac,Ad,Ae,Af,Ag])
   simp only[hlen,g1,g2,hC.eta x F,hC.eta y I]
   (repeat first|refine aa.p ?_|refine aa.n ?_)
   try simp only[he]
   (repeat first|refine aa.p ?_|refine aa.n ?_)
   refine aa.loop (P:=fun x g=>g=_) ⟨m,0,_,M,by omega,rfl⟩ (by(first|rfl|assumption|(simp only[aw,sl]<;>omega))) ?_;rintro _ _ rfl
   (dsimp +instances only[Aa,Ab,Ac,Ad,Ae,Af,Ag])
   simp only[k]
   (repeat first|refine aa.p ?_|refine aa.n ?_)
   refine aa.some ?_;have t1:List.take (0+(w.length:Int).toNat) (w++J)=w:=by simp
   have t2:List.drop (0+(w.length:Int).toNat+(p.length+q.length+2-(w.length:Int).toNat)) (w++J)=[]:=by
    apply Uy; rw[k]; omega
   rw[t1,t2];simp
  | false =>
   have e:dh (aq K) y (x::q)=x::dh (aq K) x q:=by simp[dh,he]
   have key:oH K Z [.l (p++y::x::q),.i ((p.length:Int)+1)]=some (none,[.l ((p++[y])++x::q),.i ((((p++[y]).length:Nat):Int)+1)]):=by
    refine aa.toEq ?_;unfold oH
    (dsimp +instances only[Aa,Ab,Ac,Ad,Ae,Af,Ag])
    simp only[hlen,g1,g2,hC.eta x F,hC.eta y I]
    (repeat first|refine aa.p ?_|refine aa.n ?_)
    try simp only[he]
    (repeat first|refine aa.p ?_|refine aa.n ?_)
    refine aa.some ?_;simp
   rcases Om hC q (p++[y]) x (by simpa using d) (by simp; omega)with⟨m,hm,hc,hr⟩|⟨m,J,hm,B,hr⟩
   ·refine .inl ⟨m + 1, by simp; omega, by rw [e, hc], .next key ?_⟩
    have:p++y::x::q=(p++[y])++x::q:=by simp
    rw[this]; exact hr
   ·have e' : p ++ y :: dh (aq K) y (x :: q) = (p ++ [y]) ++ x :: dh (aq K) x q := by rw [e]; simp
    refine .inr ⟨m+1,J,by simp; omega,by rw[e',B]; simp; omega,.next key ?_⟩;rw[e']; exact hr
theorem Zp(hC:uK K Q)(rows:List (List G))(hr:∀ y∈rows,Q y)(hn:rows.length<99999):aa (xS K Z [.l rows]) fun g=>∃ J,g=[.l (fi (aq K) rows++J),.i ((fi (aq K) rows).length:Int)]∧(fi (aq K) rows++J).length=rows.length:=by
 unfold xS
 (dsimp +instances only[Aa,Ab,Ac,Ad,Ae,Af,Ag])
 match rows,hr,hn with
 | [],_,_=>exact aa.p (aa.some ⟨[],rfl,rfl⟩)
 | [x],_,_=>exact aa.p (aa.some ⟨[],rfl,rfl⟩)
 | y::x::q,hr,hn =>
  simp only[cF]at hn;refine aa.n ?_;rcases Om hC (x::q) [] y (by simpa using hr) (by simp; omega)with⟨m,hm,hc,hr⟩|⟨m,J,hm,d,hr⟩
  ·refine aa.loop (P := fun x g => x = 1 ∧ g = _) ⟨m, 1, _, hr, by simp at hm; omega, rfl, rfl⟩ (by (first|rfl|assumption|(simp only [aw,sl]<;>omega))) ?_
   rintro _ _ ⟨rfl,rfl⟩;refine aa.n (aa.some ⟨[],?_,?_⟩)
   ·(dsimp +instances only [Aa,Ab,Ac,Ad,Ae,Af,Ag])
    simp[fi,hc]
   ·simp[fi,hc]
  ·refine aa.loop (P := fun x g => x = 0 ∧ g = _) ⟨m, 0, _, hr, by simp at hm; omega, rfl, rfl⟩ (by (first|rfl|assumption|(simp only [aw,sl]<;>omega))) ?_
   rintro _ _ ⟨rfl,rfl⟩;refine aa.p (aa.some ⟨J,?_,?_⟩)
   ·(dsimp +instances only [Aa,Ab,Ac,Ad,Ae,Af,Ag])
    simp[fi]
   ·simpa[fi,Nat.add_comm]using d
structure Eqv (K:List Kd) (C:List G→Option (List G)) (Q:List G→Prop) (e:List G→List G→Bool):Prop where
 cmp:∀ r s,Q r→Q s→C [.l [r],.l [s]]=some [.t (e r s)]
 eta:∀ r,Q r→aR K r=r
variable {C:List G→Option (List G)} {ee:List G→List G→Bool}
end
end Go.AL

namespace Go.AL
open Go
variable [Dr]
def xT(K:List Kd)(d:List G):Option (Option Nat × List G) :=
 (bif (aB (gi d 3).int (gi d 2).int) then (bif ((a_ (gi d 3).int)&&(aB (gi d 3).int (((gi d 0).rows.length:Nat):Int))) then (bif ((a_ (gi d 3).int)&&(aB (gi d 3).int (((gi d 1).rows.length:Nat):Int))) then (bif (!(aq K (aR K ((gi d 0).rows.getD (((gi d 3).int).toNat) [])) (aR K ((gi d 1).rows.getD (((gi d 3).int).toNat) [])))) then some (some 0,[.t false]) else (bif (aw ((gi d 3).int+1)) then some (none,[.l (gi d 0).rows,.l (gi d 1).rows,.i (gi d 2).int,.i ((gi d 3).int+1)]) else none)) else none) else none) else some (some 1,[]))
def On(K:List Kd)(d:List G):Option (List G) :=
 (bif ((((gi d 0).rows.length:Nat):Int) != (((gi d 1).rows.length:Nat):Int)) then some [.t false] else (a7 true (cd (xT K) [.l (gi d 0).rows,.l (gi d 1).rows,.i (((gi d 0).rows.length:Nat):Int),.i 0]) fun g g1=>(bif ab g 0 then some [.t (gi g1 0).bool] else some [.t true])))
def xU(K:List Kd)(C:List G→Option (List G))(Z:List G)(cp:G→G)(d:List G):Option (Option Nat × List G) :=
 (bif (aB (gi d 3).int (gi d 2).int) then (bif ((a_ (gi d 3).int)&&(aB (gi d 3).int (((gi d 0).rows.length:Nat):Int))) then (ar (C [.l [(aR K ((gi d 0).rows.getD (((gi d 3).int).toNat) []))],cp (gi d 1)]) fun g1=>(bif (gi g1 0).bool then some (some 0,[.i (gi d 3).int]) else (bif (aw ((gi d 3).int+1)) then some (none,[.l (gi d 0).rows,cp (gi d 1),.i (gi d 2).int,.i ((gi d 3).int+1)]) else none))) else none) else some (some 1,[]))
def Oo(K:List Kd)(C:List G→Option (List G))(Z:List G)(cp:G→G)(d:List G):Option (List G) :=
 (a7 true (cd (xU K C Z cp) [.l (gi d 0).rows,cp (gi d 1),.i (((gi d 0).rows.length:Nat):Int),.i 0]) fun g g2=>(bif ab g 0 then some [.i (gi g2 0).int] else some [.i (-1)]))
section
variable {K:List Kd} {Q:List G→Prop}
def lz(K:List Kd):List (List G)→List (List G)→Bool
 | [],[]=>true
 |x::a,y::b=>aq K x y&&lz K a b
 |_,_=>false
theorem GO:∀(K:List Kd) (x:List G),(K.all fun k=>match k with | .list _=>false|_=>true)=true→aq K x x=true
 | [],_,_=>rfl
 | k::K,x,h=>by
  simp only[List.all_cons,ay]at h;simp only[aq,GO K _ h.2,dU];cases k<;>simp only[kW,beq_self_eq_true]
  simp at h
theorem Oq{K:List Kd}(h:(K.all fun k=>match k with | .list _=>false|_=>true)=true):∀ a,lz K a a=true
 | []=>rfl
 |x::a=>by simp[lz,GO K x h,Oq h a]
theorem Ot{K:List Kd}:∀{a b:List (List G)},a.length≠b.length→lz K a b=false
 | [],[],h=>(h rfl).elim
 | [],_::_,_=>rfl
 |_::_,[],_=>rfl
 |x::a,y::b,h=>by simp only[lz,Ot (a:=a) (b:=b) (by simpa using h),Bool.and_false]
theorem Ou(hC:uK K Q):∀(q r p s:List (List G)),(∀ z∈q,Q z)→(∀ z∈r,Q z)→p.length=s.length→q.length=r.length→p.length+q.length<100000 →
  cD (xT K) [.l (p++q),.l (s++r),.i ((p.length+q.length:Nat):Int),.i (p.length:Int)] (q.length+1) fun c g=>(c=0∧g=[.t false]∧lz K q r=false)∨c=1∧lz K q r=true
 | [],[],p,s,d,k,h1,F,I=>by
  refine cD.stop (x:=1) (d':=[]) (aa.toEq ?_) (.inr ⟨rfl,rfl⟩);unfold xT
  (dsimp +instances only[Aa,Ab,Ac,Ad,Ae,Af,Ag])
  (repeat first|refine aa.p ?_|refine aa.n ?_)
  exact aa.some rfl
 | [],_::_,_,_,_,_,_,h,_=>by simp at h
 |_::_,[],_,_,_,_,_,h,_=>by simp at h
 | x::q,y::r,p,s,d,k,h1,F,I=>by
  simp only[cF]at I F;have J:=d x (by simp);have M:=k y (by simp);have g1:(p++x::q).getD (p.length:Int).toNat []=x:=kD _ _ _ _ _ (by simp);have g2:(s++y::r).getD (p.length:Int).toNat []=y:=kD _ _ _ _ _ (by simp[h1]);have hlen:(p++x::q).length=p.length+q.length+1:=by simp; omega
  have B:(s++y::r).length=p.length+q.length+1:=by simp; omega
  cases he:aq K x y with
  | false =>
   refine cD.stop (x:=0) (d':=[.t false]) (aa.toEq ?_) (.inl ⟨rfl,rfl,by simp[lz,he]⟩);unfold xT
   (dsimp +instances only[Aa,Ab,Ac,Ad,Ae,Af,Ag])
   simp only[g1,g2,hlen,B,cF,hC.eta y M,hC.eta x J]
   (repeat first|refine aa.p ?_|refine aa.n ?_)
   try simp only[he]
   (repeat first|refine aa.p ?_|refine aa.n ?_)
   exact aa.some rfl
  | true =>
   have N:=Ou hC q r (p++[x]) (s++[y]) (fun z A=>d z (bS _ A)) (fun z A=>k z (bS _ A)) (by simp[h1]) (by omega) (by simp; omega);have O:lz K (x::q) (y::r)=lz K q r:=by simp[lz,he]
   rw[O];refine cD.next (aa.toEq ?_) N
   unfold xT
   (dsimp +instances only[Aa,Ab,Ac,Ad,Ae,Af,Ag])
   simp only[g1,g2,hlen,B,cF,hC.eta y M,hC.eta x J]
   (repeat first|refine aa.p ?_|refine aa.n ?_)
   try simp only[he]
   (repeat first|refine aa.p ?_|refine aa.n ?_)
   refine aa.some ?_;simp;omega
theorem Zq(hC:uK K Q)(a b:List (List G))(k:∀ y∈a,Q y)(q:∀ y∈b,Q y)(hn:a.length<100000):On K [.l a,.l b]=some [.t (lz K a b)]:=by
 refine aa.toEq ?_;unfold On
 (dsimp +instances only[Aa,Ab,Ac,Ad,Ae,Af,Ag])
 by_cases d:a.length=b.length
 ·(repeat first|refine aa.p ?_|refine aa.n ?_)
  have h:=Ou hC a b [] [] k q rfl d (by simpa using hn);have h0:((0:Nat):Int)=0:=rfl;simp only[mI,gK,dJ,h0]at h;refine aa.loop (h.to (by omega)) (by(first|rfl|assumption|(simp only[aw,sl]<;>omega))) ?_;rintro c g (⟨rfl,rfl,h⟩|⟨rfl,h⟩)
  ·(dsimp +instances only [Aa,Ab,Ac,Ad,Ae,Af,Ag])
   (repeat first|refine aa.p ?_|refine aa.n ?_)
   exact aa.some (by rw[h])
  ·(repeat first|refine aa.p ?_|refine aa.n ?_)
   exact aa.some (by rw[h])
 ·(repeat first|refine aa.p ?_|refine aa.n ?_)
  exact aa.some (by rw[Ot d])
end
end Go.AL

namespace Go.AL
open Go
variable [Dr]
section
variable {K:List Kd} {Z:List G} {Q:List G→Prop} {C:List G→Option (List G)} {cp:G→G} {cap:G} {p:List G→Bool}
structure GP (K:List Kd) (C:List G→Option (List G)) (cp:G→G) (cap:G) (Q:List G→Prop) (p:List G→Bool):Prop where
 cmp:∀ r,Q r→C [.l [r],cap]=some [.t (p r)]
 eta:∀ r,Q r→aR K r=r
 fix:cp cap=cap
theorem Ov(hC:GP K C cp cap Q p):∀(q w:List (List G)),(∀ z∈q,Q z)→w.length+q.length<100000 →
  cD (xU K C Z cp) [.l (w++q),cap,.i ((w.length+q.length:Nat):Int),.i (w.length:Int)] (q.length+1) fun c g=>(c=0∧∃ k x B,q=k++x::B∧(∀ y∈k,p y=false)∧p x=true∧g=[.i ((w.length+k.length:Nat):Int)])∨c=1∧∀ y∈q,p y=false
 | [],w,F,I=>by
  refine cD.stop (x:=1) (d':=[]) (aa.toEq ?_) (.inr ⟨rfl,by simp⟩);unfold xU
  (dsimp +instances only[Aa,Ab,Ac,Ad,Ae,Af,Ag])
  (repeat first|refine aa.p ?_|refine aa.n ?_)
  exact aa.some rfl
 | y::q,w,F,I=>by
  simp only[cF]at I;have A:Q y:=F y (by simp);have g1:(w++y::q).getD (w.length:Int).toNat []=y:=kD _ _ _ _ _ (by simp);have hlen:(w++y::q).length=w.length+q.length+1:=by simp; omega
  cases he:p y with
  | true =>
   refine cD.stop (x:=0) (d':=[.i (w.length:Int)]) (aa.toEq ?_) (.inl ⟨rfl,[],y,q,rfl,by simp,he,by simp⟩);unfold xU
   (dsimp +instances only[Aa,Ab,Ac,Ad,Ae,Af,Ag])
   simp only[g1,hlen,cF,hC.eta y A,hC.fix]
   (repeat first|refine aa.p ?_|refine aa.n ?_)
   refine aa.cE (hC.cmp y A) ?_
   (dsimp +instances only[Aa,Ab,Ac,Ad,Ae,Af,Ag])
   simp only[he]
   (repeat first|refine aa.p ?_|refine aa.n ?_)
   exact aa.some rfl
  | false =>
   have J:=Ov hC q (w++[y]) (fun z d=>F z (bS _ d)) (by simp; omega);refine cD.next (aa.toEq ?_) (J.mono ?_)
   ·unfold xU
    (dsimp +instances only[Aa,Ab,Ac,Ad,Ae,Af,Ag])
    simp only[g1,hlen,cF,hC.eta y A,hC.fix]
    (repeat first|refine aa.p ?_|refine aa.n ?_)
    refine aa.cE (hC.cmp y A) ?_
    (dsimp +instances only[Aa,Ab,Ac,Ad,Ae,Af,Ag])
    simp only[he]
    (repeat first|refine aa.p ?_|refine aa.n ?_)
    refine aa.some ?_;simp;omega
   ·rintro c g (⟨rfl, k, x, B, h1, M, N, O⟩ | ⟨rfl, h⟩)
    ·refine .inl ⟨rfl, y :: k, x, B, by simp [h1], ?_, N, ?_⟩
     ·intro z d
      rcases bC.1 d with rfl|d
      ·exact he
      ·exact M z d
     ·rw[O]; simp; omega
    ·refine .inr ⟨rfl, ?_⟩
     intro z d;rcases bC.1 d with rfl|d
     ·exact he
     ·exact h z d
theorem Zr(hC:GP K C cp cap Q p)(rows:List (List G))(hr:∀ y∈rows,Q y)(hn:rows.length<100000) :
  aa (Oo K C Z cp [.l rows,cap]) fun g=>(∃ d x k,rows=d++x::k∧(∀ y∈d,p y=false)∧p x=true∧g=[.i (d.length:Int)])∨(∀ y∈rows,p y=false)∧g=[.i (-1)]:=by
 unfold Oo
 (dsimp +instances only[Aa,Ab,Ac,Ad,Ae,Af,Ag])
 simp only[hC.fix];have h:=Ov (Z:=Z) hC rows [] hr (by simpa using hn);have h0:((0:Nat):Int)=0:=rfl;simp only[mI,gK,dJ,h0]at h;refine aa.loop (h.to (by omega)) (by(first|rfl|assumption|(simp only[aw,sl]<;>omega))) ?_;rintro c g (⟨rfl,d,x,k,h1,q,A,rfl⟩|⟨rfl,h⟩)
 ·(dsimp +instances only [Aa,Ab,Ac,Ad,Ae,Af,Ag])
  (repeat first|refine aa.p ?_|refine aa.n ?_)
  exact aa.some (.inl ⟨d,x,k,h1,q,A,rfl⟩)
 ·(repeat first|refine aa.p ?_|refine aa.n ?_)
  exact aa.some (.inr ⟨h,rfl⟩)
end
section
variable {K:List Kd} {Z:List G}
def parts (ps:List (List (List G))):List (List G):=ps.map fun p=>[.l p]
end
end Go.AL

namespace Go.AL
open Go
variable [Dr]
section sort
variable {α:Type} {lt:α→α→Bool}
theorem BT(x:α):∀ p:List α,(fH lt x p).Perm (x::p)
 | []=>pn _
 | y::p=>by
  simp only[fH];cases lt x y with
  |true=>exact(List.Perm.cons y (BT x p)).trans (List.Perm.swap x y p)
  |false=>exact pn _
theorem Ow:∀(r p:List α),(iK lt p r).Perm (p++r)
 | [],p=>by simp[iK]
 | x::r,p=>by
  simp only[iK];refine(Ow r (fH lt x p)).trans ?_;refine(List.Perm.append_right r (BT x p)).trans ?_;simpa using(List.perm_middle (a:=x) (l₁:=p) (l₂:=r)).symm
theorem nB(l:List α):(eU lt l).Perm l:=by
 unfold eU;exact(List.reverse_perm _).trans (by simpa using Ow (lt:=lt) l [])
structure fu (lt:α→α→Bool) (Q:α→Prop):Prop where
 tr:∀ a b c,Q a→Q b→Q c→lt a b=false→lt b c=false→lt a c=false
 BU:∀ a b,Q a→Q b→lt a b=true→lt b a=false
variable {Q:α→Prop}
theorem Ox(k:fu lt Q){x:α}(q:Q x):∀{p:List α},(∀ y∈p,Q y)→p.Pairwise (fun a b=>lt a b=false)→(fH lt x p).Pairwise (fun a b=>lt a b=false)
 | [],_,_=>by simp[fH]
 | y::p,B,F=>by
  obtain⟨h1,J⟩:=kO.1 F;have I:=B y cJ;have A:∀ z∈p,Q z:=fun z d=>B z (bS _ d);simp only[fH];cases g:lt x y with
  | true =>
   refine kO.2 ⟨fun z d=>?_,Ox k q A J⟩;rcases bC.1 ((BT x p).mem_iff.1 d)with rfl|d
   ·exact k.BU _ _ q I g
   ·exact h1 z d
  | false =>
   refine kO.2 ⟨fun z d=>?_,F⟩;rcases bC.1 d with rfl|d
   ·exact g
   ·exact k.tr x y z q I (A z d) g (h1 z d)
theorem Oy(k:fu lt Q):∀{r p:List α},(∀ y∈p,Q y)→(∀ y∈r,Q y)→p.Pairwise (fun a b=>lt a b=false)→(iK lt p r).Pairwise (fun a b=>lt a b=false)
 | [],_,_,_,g=>by simpa[iK]using g
 | x::r,p,q,hr,g=>by
  simp only[iK];refine Oy k (fun y d=>?_) (fun y d=>hr y (bS _ d)) (Ox k (hr x cJ) q g);rcases bC.1 ((BT x p).mem_iff.1 d)with rfl|d
  ·exact hr _ cJ
  ·exact q y d
theorem GQ(d:fu lt Q){l:List α}(g:∀ y∈l,Q y):(eU lt l).Pairwise (fun a b=>lt b a=false):=by
 unfold eU;rw[List.pairwise_reverse];exact Oy d (by simp) g List.Pairwise.nil
theorem xV:∀{l r:List α},l.Perm r→(∀ a∈l,∀ b∈l,lt a b=false→lt b a=false→a=b)→l.Pairwise (fun a b=>lt b a=false)→r.Pairwise (fun a b=>lt b a=false)→l=r
 | [],r,d,_,_,_=>d.nil_eq
 |a::l,[],d,_,_,_=>by simpa using d.length_eq
 | a::l,b::r,d,g,h1,F=>by
  obtain⟨I,J⟩:=kO.1 h1;obtain⟨M,N⟩:=kO.1 F;have e:a=b:=by
   have k:b∈a::l:=d.symm.subset cJ;have A:a∈b::r:=d.subset cJ;rcases bC.1 k with e|B
   ·exact e.symm
   ·rcases bC.1 A with e | q
    ·exact e
    ·exact g a cJ b k (M a q) (I b B)
  subst e;rw[xV ((List.perm_cons a).1 d) (fun x O y R=>g x (bS _ O) y (bS _ R)) J N]
end sort
theorem GR{sp:eu}{tl:List G→Option (Option Nat × List G)}{rows:List (List G)}{clock:Nat}{d:List G}{r:Option Nat × List G}(aL:eA rows clock=true)
  (h:∀ b p,p.Perm rows→sp.side d b=true∧∃ d',bP sp.st sp.aT p (sp.init d b)=some d'∧tl d'=some r):iI sp tl rows clock d=some r:=by
 unfold iI;rw[aL];refine xp fun b p g=>?_;obtain⟨h1,d',k,q⟩:=h b p g;rw[h1,cond_true,k];exact q
end Go.AL

namespace Go.AL
open Go
variable [Dr]
section
variable {α:Type} (f:α→Int)
end
section
variable {α:Type} {e:α→α→Bool}
theorem Oz:∀{q:List α} {y z:α},(∀ a∈y::q,∀ b∈y::q,e a b=true→a=b)→z∈q→z=y∨z∈dh e y q
 | x::q,y,z,he,h=>by
  simp only[dh];have d:z∈q→z=x∨z∈dh e x q:=fun h=>Oz (fun a A b B=>he a (bS _ A) b (bS _ B)) h;cases g:e x y with
  | true =>
   have k:=he x (by simp) y (by simp) g;subst k;rcases bC.1 h with rfl|h
   ·exact .inl rfl
   ·exact d h
  | false =>
   right;rcases bC.1 h with rfl|h
   ·exact cJ
   ·rcases d h with rfl | h
    ·exact cJ
    ·exact bS _ h
theorem Zs{l:List α}(he:∀ a∈l,∀ b∈l,e a b=true→a=b){z:α}:z∈fi e l↔z∈l:=by
 refine⟨Ol,fun h=>?_⟩;cases l with
 |nil=>cases h
 | cons x q =>
  simp only[fi];rcases bC.1 h with rfl|h
  ·exact cJ
  ·rcases Oz he h with rfl | h
   ·exact cJ
   ·exact bS _ h
theorem GS:∀(q:List α) (y:α),(dh e y q).Sublist q
 | [],_=>List.Sublist.slnil
 | x::q,y=>by
  simp only[dh];cases e x y with
  |true=>exact(GS q x).cons x
  |false=>exact(GS q x).cons_cons x
theorem Zt(l:List α):(fi e l).Sublist l:=by
 cases l with
 |nil=>exact List.Sublist.slnil
 |cons x q=>exact(GS q x).cons_cons x
theorem GU(hs:∀ a b c:α,e a b=true→e b c=true→e a c=true):∀{q p r:List α} {y a b:α},y::dh e y q=p++a::b::r→(∀ x∈y::q,e x x=true)→(∀ x∈y::q,∀ z∈y::q,e x z=true→x=z)→e b a=false
 | [],p,r,y,a,b,h,_,_=>by
  simp only[dh]at h;have:=congrArg List.length h;simp at this;omega
 | x::q,p,r,y,a,b,h,hr,he=>by
  simp only[dh]at h;cases g:e x y with
  | true =>
   rw[g]at h;simp only[cond_true]at h;have k:=he x (by simp) y (by simp) g;subst k;exact GU hs h (fun z d=>hr z (bS _ d)) (fun z d w hw=>he z (bS _ d) w (bS _ hw))
  | false =>
   rw[g]at h;simp only[cond_false]at h;cases p with
   | nil =>
    simp only[mI,zh]at h;obtain⟨rfl,rfl,_⟩:=h;exact g
   | cons c p =>
    simp only[List.cons_append,zh]at h;exact GU hs h.2 (fun z d=>hr z (bS _ d)) (fun z d w hw=>he z (bS _ d) w (bS _ hw))
end
end Go.AL

namespace Go.AL
open Go
variable [Dr]
section
variable {K:List Kd} {C:List G→Option (List G)} {Q:List G→Prop} {c:List G→List G→Int}
end
end Go.AL

namespace Go.AL
open Go
variable [Dr]
theorem OA{R:List G→List G→Prop}(tr:∀ a b c,R a b→R b c→R a c):∀{l:List (List G)},(∀ k,1≤k→k<l.length→R (l.getD (k-1) []) (l.getD k []))→l.Pairwise R
 | [],_=>List.Pairwise.nil
 | [x],_=>by simp
 | x::y::l,h=>by
  have h0:R x y:=h 1 (by omega) (by simp);have g:=OA tr (l:=y::l) (fun k hk q=>by
   have:=h (k+1) (by omega) (by simpa using q);obtain⟨k,rfl⟩:∃ j,k=j+1:=⟨k-1,by omega⟩
   simpa using this)
  refine kO.2 ⟨fun z d=>?_,g⟩;rcases bC.1 d with rfl|d
  ·exact h0
  ·exact tr _ _ _ h0 ((kO.1 g).1 z d)
theorem Zu{R:List G→List G→Prop}{l:List (List G)}(h:l.Pairwise R)(k:Nat)(hk:1≤k)(d:k<l.length):R (l.getD (k-1) []) (l.getD k []):=by
 have:=List.pairwise_iff_getElem.1 h (k-1) k (by omega) d (by omega);simpa[cG,d,show k-1<l.length by omega]using this
theorem Zv{e:List G→List G→Bool}{R:List G→List G→Prop}(tr:∀ a b c,R a b→R b c→R a c){l:List (List G)}(hr:∀ x∈l,e x x=true)(hs:∀ a b c:List G,e a b=true→e b c=true→e a c=true)
  (he:∀ x∈l,∀ y∈l,e x y=true→x=y) (B:l.Pairwise fun a b=>a=b∨R a b):(fi e l).Pairwise R:=by
 refine OA tr fun k hk d=>?_;cases l with
 |nil=>simp[fi]at d
 | cons x q =>
  have h1:=Zu (ak0 (Zt (e:=e) (x::q)) B) k hk d;have F:k-1<(fi e (x::q)).length:=by omega
  have A:fi e (x::q)=(fi e (x::q)).take (k-1)++(fi e (x::q)).getD (k-1) []::(fi e (x::q)).getD k []::(fi e (x::q)).drop (k+1):=by
   obtain⟨j,rfl⟩:∃ j,k=j+1:=⟨k-1,by omega⟩
   simp only[Nat.add_sub_cancel,cG,bA d,bA (show j<(fi e (x::q)).length by omega),Option.getD_some];rw[akd,akd,List.take_append_drop]
  have g:=GU (e:=e) hs (q:=q) (y:=x) (p:=(fi e (x::q)).take (k-1)) (a:=(fi e (x::q)).getD (k-1) []) (b:=(fi e (x::q)).getD k []) (r:=(fi e (x::q)).drop (k+1)) A hr he;rcases h1 with h1|h1
  ·rw [h1, hr _ (Ol (kC d))] at g
   cases g
  ·exact h1
section
variable {C:List G→Option (List G)} {Q:List G→Prop} {c:List G→List G→Int}
theorem fu.mono{α:Type}{lt:α→α→Bool}{Q A:α→Prop}(h:fu lt Q)(g:∀ a,A a→Q a):fu lt A :=
 ⟨fun a b d k q B=>h.tr a b d (g a k) (g b q) (g d B),fun a b k q=>h.BU a b (g a k) (g b q)⟩
theorem GV{α β:Type}{f:α→β}:∀{l:List α},l.Pairwise (fun a b=>f a≠f b)→∀ a∈l,∀ b∈l,f a=f b→a=b
 | [],_,a,g,_,_,_=>by cases g
 | x::l,h,a,g,b,A,e=>by
  obtain⟨h1,F⟩:=kO.1 h;rcases bC.1 g with B|q
  ·rcases bC.1 A with k | d
   ·rw[B,k]
   ·exact(h1 b d (B▸e)).elim
  ·rcases bC.1 A with k | d
   ·exact(h1 a q (k▸e.symm)).elim
   ·exact GV F a q b d e
def uL(C:List G→Option (List G))(Q:List G→Prop)(c:List G→List G→Int):Prop:=∀ r s,Q r→Q s→∃ v,C [.l [r],.l [s]]=some [.i v]∧(v<0↔c r s<0)
theorem ly.BV{K:List Kd}(h:ly K C Q c):uL C Q c:=fun r s hr hs=>⟨_,h.cmp r s hr hs,Iff.rfl⟩
end
end Go.AL

namespace Go.AL
open Go Go.Proofs
variable [Dr]
variable {C:List G→Option (List G)} {Q:List G→Prop} {c:List G→List G→Int}
theorem OB(hC:uL C Q c){r s:List G}(hr:Q r)(hs:Q s):decide (xI C r s<0)=bU c r s:=by
 obtain⟨v,h,d⟩:=hC r s hr hs;unfold xI bU;rw[h,dG];show decide (v<0)=_
 rw[g_,decide_eq_true_eq,decide_eq_true_eq];exact d
theorem rZ(hC:uL C Q c){rows:List (List G)}(hr:∀ y∈rows,Q y)(h0:rows≠[])(i j:Nat):ltOf (nt C rows) i j=bU c (fT rows i) (fT rows j) :=
 OB hC (hr _ (xJ h0 i)) (hr _ (xJ h0 j))
theorem Zw(hC:uL C Q c)(g:fu (bU c) Q){rows:List (List G)}(hr:∀ y∈rows,Q y)(h0:rows≠[])(hn:rows.length<100000):rW C rows:=by
 have d:=fun i=>hr _ (xJ h0 i);refine⟨fun r h s h'=>by obtain⟨v,e,_⟩:=hC r s (hr r h) (hr s h'); exact⟨v,e⟩,⟨fun x=>?_,fun x y z=>?_,fun x y z=>?_⟩,by omega⟩
 ·rw [rZ hC hr h0]
  cases h:bU c (fT rows x) (fT rows x)with
  |false=>rfl
  |true=>rw[g.BU _ _ (d x) (d x) h]at h; cases h
 ·rw [rZ hC hr h0, rZ hC hr h0, rZ hC hr h0]
  intro h1 k;cases h:bU c (fT rows x) (fT rows z)with
  |true=>rfl
  | false =>
   have:=g.tr _ _ _ (d x) (d z) (d y) h (g.BU _ _ (d y) (d z) k);rw[this]at h1;cases h1
 ·rw [rZ hC hr h0, rZ hC hr h0, rZ hC hr h0]
  exact g.tr _ _ _ (d x) (d y) (d z)
theorem Zx(hC:uL C Q c)(g:fu (bU c) Q)(rows:List (List G))(hr:∀ y∈rows,Q y)(hn:rows.length<100000) :
  ∃ out,oE C [.l rows]=some [.l out]∧out.Perm rows∧out.Pairwise fun a b=>bU c b a=false:=by
 unfold oE;have e:(gi [G.l rows] 0).rows=rows:=rfl;rw[e];by_cases h0:rows=[]
 ·rw [if_pos h0, h0]
  exact⟨[],rfl,pn _,List.Pairwise.nil⟩
 ·have aL := Zw hC g hr h0 hn
  rw[if_neg h0,if_pos aL];have d:=NU aL;refine⟨_,rfl,d,?_⟩;refine ak1 ?_ (YQ aL);intro a b h1 k h;rw[←OB hC (hr b (d.mem_iff.1 k)) (hr a (d.mem_iff.1 h1)),decide_eq_false_iff_not];exact h
theorem BW(hC:uL C Q c)(g:fu (bU c) Q)(rows:List (List G))(hr:∀ y∈rows,Q y)(hn:rows.length<100000)(k:∀ a∈rows,∀ b∈rows,bU c a b=false→bU c b a=false→a=b) :
  oE C [.l rows]=some [.l (eU (bU c) rows)]:=by
 obtain⟨out,h,d,hs⟩:=Zx hC g rows hr hn;rw[h,xV (d.trans (nB (lt:=bU c) rows).symm) (fun a h1 b q=>k a (d.mem_iff.1 h1) b (d.mem_iff.1 q)) hs (GQ g hr)]
end Go.AL

namespace Go.AL
open Go
variable [Dr]
noncomputable abbrev xW(r:List G):Int:=(gi r 0).int
noncomputable abbrev r7(r:List G):Int:=(gi r 1).int
def Zy(r:List G):Prop:=r=[.i (xW r),.i (r7 r)]∧xW r<r7 r
def OC(l:List (List G))(n:Int):Prop:=∃ r∈l,xW r≤n∧n<r7 r
def Zz(l:List (List G)):Prop:=(∀ r∈l,Zy r)∧l.Pairwise fun r s=>r7 r<xW s
structure akJ (out:List (List G)) (a b:Int) (os:List (List G)) (ps:List (List G)) (f:Int):Prop where
 low:a≤f
 at_:f=a∨∃ o∈os,f=r7 o
 past:∀ o∈os,r7 o≤f∨b≤xW o
 mem:∀ n,OC ps n↔a≤n∧n<f∧n<b∧¬ OC os n
 can:Zz (out++ps)
 gap:∀ s∈out++ps,r7 s<f
 many:ps.length≤os.length
end Go.AL

namespace Go.AL
open Go
variable [Dr]
end Go.AL
