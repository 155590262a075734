/-
 What is proved here: a drawn region whose writes to one map stand in no order is as regions in which they stand in one order,of each order; and a range over that map behind it. No program in sight; no condition.
-/
import Derived.Test.YtdabjgppkghiaaaGreatDoorMD
import Derived.Test.YtdabjgppkghiaaaGreatDoorMG
set_option linter.all false
open Array renaming getElem?_eq_some_iff→dM,getElem?_eq_none→pU,replicate→fq
open Bool renaming and_eq_true→aq
open Go.Region renaming wanted→n3,ready→dz,linearise→XA
open Go.Region.linearise renaming go→Xy
open List renaming mem_map→dJ,getElem?_eq_getElem→bC,all_eq_true→cC,getD_eq_getElem?_getD→cD,mem_cons→bN,mem_append→bQ,mem_cons_self→cW,mem_cons_of_mem→da,nodup_cons→gJ,range→dV,mem_range→e_,mem_filter→n_,filter_cons→xl,takeWhile_cons→Xz
open List.Perm renaming refl→pZ
open Nat renaming lt_or_ge→gr,beq→ah,eq_of_beq_eq_true→aR,blt→eg,blt_eq→fJ
open Option.some renaming injEq→aK,inj→fa
open Prod.mk renaming injEq→aN
namespace Go.AL
variable [Dr]
/-! ### XO -/
def bW:Nat→List Nat→List (List Nat)
 |0,_=>[[]]
 |n+1,I=>I.flatMap fun a=>(bW n (I.erase a)).map (a::·)
theorem rW:∀(n:Nat) (I σ:List Nat),I.Nodup→I.length=n→σ.Nodup→(∀ x,x∈σ↔x∈I)→σ∈bW n I
 | 0,I,σ,_,b,_,h=>by
  cases I with
  | nil =>
   cases σ with
   |nil=>simp[bW]
   |cons a q=>exact absurd ((h a).1 cW) (by simp)
  |cons a q=>simp at b
 | n+1,I,σ,g,b,t,h=>by
  cases σ with
  | nil =>
   cases I with
   |nil=>simp at b
   |cons a q=>exact absurd ((h a).2 cW) (by simp)
  | cons a q =>
   have i:a∈I:=(h a).1 cW;obtain⟨l,r⟩:=gJ.1 t;simp only[bW,List.mem_flatMap,dJ];refine⟨a,i,q,rW n (I.erase a) q (g.erase a) (by rw[List.length_erase_of_mem i]; omega) r fun x=>?_,rfl⟩;rw[g.mem_erase_iff];constructor
   ·exact fun k=>⟨fun e=>l (e▸k),(h x).1 (da _ k)⟩
   ·rintro ⟨h1, u⟩
    rcases bN.1 ((h x).2 u)with d|d
    ·exact absurd d h1
    ·exact d
section model
variable {ops:Array Oper}
def hZ(ops:Array Oper):Array Bool→List Nat→Prop
 |listed,[]=>∀ i,i<ops.size→listed.getD i true=true
 |listed,i::v=>i∈dz .any ops listed∧hZ ops (listed.setIfInBounds i true) v
theorem P3{l:List Nat}{p q:Nat→Bool}(h:∀ x,q x=true→p x=true){i:Nat}(hi:i∈l)(h1:p i=true)(d:q i=false):(l.filter q).length<(l.filter p).length:=by
 induction l with
 |nil=>cases hi
 | cons x l g =>
  have hle:∀ m:List Nat,(m.filter q).length≤(m.filter p).length:=fun m=>by
   induction m with
   |nil=>simp
   | cons y m b =>
    simp only[xl];cases a:q y with
    |true=>rw[h y a]; simpa using b
    |false=>cases p y<;>simp<;>omega
  simp only[xl];rcases bN.1 hi with rfl|hi
  ·rw [h1, d]
   have:=hle l;simp;omega
  ·have := g hi
   cases a:q x with
   |true=>rw[h x a]; simpa using this
   |false=>cases p x<;>simp<;>omega
def vY(ops:Array Oper):Bool:=(dV ops.size).all fun i=>match ops[i]? with
 |some o=>o.after.toList.all fun e => !Region.binds .any e||eg e.on i
 |none=>false
theorem P4(k:vY ops=true){listed:Array Bool}(t:listed.size=ops.size)(h:dz .any ops listed=[]):∀ i,i<ops.size→listed.getD i true=true:=by
 intro i
 induction i using Nat.strongRecOn with
 | ind i l =>
  intro hi;cases q:listed.getD i true with
  |true=>rfl
  | false =>
   exfalso;have h1:i∈dz .any ops listed:=by
    have:=cC.1 k i (e_.2 hi);obtain⟨o,b⟩:∃ o,ops[i]? = some o:=⟨_,Array.getElem?_eq_getElem hi⟩
    rw[b]at this;simp only[cC]at this;refine mem_ready.2 ⟨q,o,b,fun e he g=>?_⟩;have a:=this e (by simpa using he);rw[g]at a;simp only[Bool.not_true,Bool.false_or,fJ]at a;have d:=l e.on a (by omega);have r:e.on<listed.size:=by omega
    simp[r]at d⊢;exact d
   rw[h]at h1;cases h1
theorem GH(g:vY ops=true):∀(fuel t:Nat) (listed:Array Bool),listed.size=ops.size→((dV ops.size).filter fun i => !listed.getD i true).length≤fuel →
  hZ ops listed (Xy .any ops fuel t listed [])
 | 0,t,listed,a,hf=>by
  show ∀ i,i<ops.size→listed.getD i true=true
  intro i hi;cases k:listed.getD i true with
  |true=>rfl
  | false =>
   have:i∈(dV ops.size).filter fun i => !listed.getD i true:=n_.2 ⟨e_.2 hi,by simp only[k]; rfl⟩;have:=List.length_pos_of_mem this;omega
 | fuel+1,t,listed,a,hf=>by
  show hZ ops listed (match (dz .any ops listed)[t%(dz .any ops listed).length]? with
   |some i=>Xy .any ops fuel (t / (dz .any ops listed).length) (listed.setIfInBounds i true) [i]
   |none=>[].reverse)
  cases hi:(dz .any ops listed)[t%(dz .any ops listed).length]? with
  | none =>
   have h:dz .any ops listed=[]:=by
    cases hr:dz .any ops listed with
    |nil=>rfl
    | cons x xs =>
     rw[hr]at hi;have b:t%(x::xs).length<(x::xs).length:=Nat.mod_lt _ (by simp);simp at hi;simp at b;omega
   exact P4 g a h
  | some i =>
   have hm:=List.mem_of_getElem? hi;simp only[];rw[linearise_go_acc,List.reverse_singleton,List.singleton_append];refine⟨hm,GH g fuel _ _ (by simpa using a) ?_⟩;obtain⟨h0,o,r,_⟩:=mem_ready.1 hm;have b:i<ops.size:=(dM.1 r).1;have:=P3 (l:=dV ops.size) (p:=fun j => !listed.getD j true) (q:=fun j => !(listed.setIfInBounds i true).getD j true) (i:=i) (fun j d=>by
    by_cases e:i=j
    ·subst e
     have:i<listed.size:=by omega
     simp[this]at d
    ·rw [getD_set_ne true e] at d
     exact d) (e_.2 b) (by simp only[h0]; rfl) (by
    have:i<listed.size:=by omega
    simp[this])
   omega
theorem hZ.GI:∀{v:List Nat} {listed:Array Bool},hZ ops listed v→∀ i∈v,listed.getD i true=false
 | i::v,listed,⟨h1,b⟩,j,a=>by
  rcases bN.1 a with rfl|a
  ·exact(mem_ready.1 h1).1
  ·have := hZ.GI b j a
   by_cases e:i=j
   ·subst e
    exact(mem_ready.1 h1).1
   ·rwa [getD_set_ne true e]at this
theorem hZ.nodup:∀{v:List Nat} {listed:Array Bool},listed.size=ops.size→hZ ops listed v→v.Nodup
 | [],_,_,_=>List.nodup_nil
 | i::v,listed,a,⟨h1,b⟩=>by
  refine gJ.2 ⟨fun hi=>?_,hZ.nodup (by simpa using a) b⟩;have:=b.GI i hi;obtain⟨_,o,g,_⟩:=mem_ready.1 h1;have d:i<listed.size:=by rw[a]; exact(dM.1 g).1
  simp[d]at this
theorem hZ.full:∀{v:List Nat} {listed:Array Bool},hZ ops listed v→∀ i,i<ops.size→listed.getD i true=false→i∈v
 | [],listed,h,i,hi,a=>by
  rw[h i hi]at a;cases a
 | j::v,listed,⟨h1,b⟩,i,hi,a=>by
  by_cases e:j=i
  ·exact e▸cW
  ·exact da _ (b.full i hi (by rw[getD_set_ne true e]; exact a))
def Ah(σ I:List Nat):Array Bool→List Nat→Prop
 |_,[]=>True
 |listed,i::v=>(i∈I→∀ j∈σ.takeWhile (fun x => !ah x i),listed.getD j false=true)∧Ah σ I (listed.setIfInBounds i true) v
theorem GJ{p:Nat→Bool}{j:Nat}:∀{l:List Nat},j∈l.takeWhile p→j∈l
 | x::l,h=>by
  simp only[Xz]at h;split at h
  ·rcases bN.1 h with rfl | h
   ·exact cW
   ·exact da _ (GJ h)
  ·cases h
theorem GK{i:Nat}:∀{u w:List Nat},i∉u→(u++i::w).takeWhile (fun x => !ah x i)=u
 | [],w,_=>by simp
 | x::u,w,h=>by
  have a:ah x i=false:=by
   cases b:ah x i with
   |false=>rfl
   |true=>exact absurd (aR b) (fun e=>h (e▸cW))
  simp only[List.cons_append,Xz,a];simp only[Bool.not_false,if_true];rw[GK (fun hi=>h (da _ hi))]
theorem Ai{σ I:List Nat}:∀{v u:List Nat} {listed:Array Bool},σ=u++v.filter (fun x=>I.contains x)→(∀ j∈u,listed.getD j false=true)→listed.size=ops.size→hZ ops listed v→Ah σ I listed v
 | [],_,_,_,_,_,_=>trivial
 | i::v,u,listed,e,hu,b,⟨h1,k⟩=>by
  have g:=yo h1;have l:i∉u:=fun h=>by rw[hu i h]at g; cases g
  have d:∀ j,listed.getD j false=true→(listed.setIfInBounds i true).getD j false=true:=fun j a=>getD_set_true a;obtain⟨_,o,r,_⟩:=mem_ready.1 h1;have q:i<listed.size:=by rw[b]; exact(dM.1 r).1
  by_cases hi:i∈I
  ·have hf : (i :: v).filter (fun x => I.contains x) = i :: v.filter (fun x => I.contains x) := by simp [xl, hi]
   rw[hf]at e;refine⟨fun _ j a=>?_,Ai (u:=u++[i]) (by simp[e]) (fun j a=>?_) (by simpa using b) k⟩
   ·rw [e, GK l] at a
    exact hu j a
   ·rcases bQ.1 a with h | h
    ·exact d j (hu j h)
    ·rw [List.mem_singleton.1 h]
     simp[q]
  ·have hf : (i :: v).filter (fun x => I.contains x) = v.filter (fun x => I.contains x) := by simp [xl, hi]
   rw[hf]at e;exact⟨fun h=>absurd h hi,Ai (u:=u) e (fun j a=>d j (hu j a)) (by simpa using b) k⟩
def Aj(c σ I:List Nat)(i:Nat)(o:Oper):Array Edge :=
 (o.after.toList.map (fun e => { e with on := c.idxOf e.on }) ++ (match I.contains i with
  |true=>(σ.takeWhile (fun x => !ah x i)).map fun j=>{ on:=c.idxOf j,ground:=(default:Edge).ground }
  |false=>[])).toArray
def fj(ops:Array Oper)(c σ I:List Nat):Array Oper:=(c.map fun i=>match ops[i]? with
 |some o=>{ o with after:=Aj c σ I i o }
 |none=>default).toArray
def k9(ops:Array Oper)(c:List Nat):Bool :=
 ah (c.length+1) ops.size&&(dV c.length).all (fun i=>eg (c.idxOf i) c.length&&ah (c.getD (c.idxOf i) 0) i)&&(dV c.length).all (fun i=>eg (c.getD i 0) c.length&&ah (c.idxOf (c.getD i 0)) i) &&
  (dV c.length).all (fun i=>waits ops ops.size c.length i)&&ops.toList.all (fun o=>match o.guard with|none=>true|some _=>false)&&vY ops
end model
section run
variable {F:Fence} {n:Nat} {P:Program} {ops:Array Oper} {Q:Exit→Act→World→Prop}
def Ak(F:Fence)(n:Nat)(P:Program)(ops:Array Oper)(Q:Exit→Act→World→Prop)(C:Act→World→Prop):Nat→Array Bool→Act→World→Prop
 |0,listed,a,w=>dz .any ops listed=[]∧C a w
 |fuel+1,listed,a,w=>(dz .any ops listed=[]→C a w)∧∀ i∈dz .any ops listed,wpOpIn F n P ops Q i (Ak F n P ops Q C fuel (listed.setIfInBounds i true)) a w
theorem Al{pf:FuncId→Bool}{s':St}{C:Act→World→Prop}:∀(fuel:Nat) (listed:Array Bool) (s:St) (E:Env) (a:Act),
  br s E a→jZ P pf ops s' fuel listed s→(∀ d w',dm E s' d w'→C d w')→∀ ro:Option Nat,Ak (fz ro) 0 P ops Q C fuel listed a E.w
 |0,_,s,E,a,hs,h,b,_=>⟨h.1,b _ _ (h.2▸dm.refl hs)⟩
 | fuel+1,listed,s,E,a,hs,h,b,ro=>by
  refine⟨fun h0=>b _ _ (h.1 h0▸dm.refl hs),fun i hi=>?_⟩;have h1:=h.2 i hi;unfold mW at h1;cases g:ops[i]? with
  | none =>
   rw[g]at h1;unfold wpOpIn;simp only[g];exact Al fuel _ s E a hs h1 b ro
  | some o =>
   rw[g]at h1;obtain⟨v,H',q,r⟩:=h1;refine uk hs g q (fun d w' t=>?_) ro;obtain⟨k,r',g1,g2⟩:=t;exact Al fuel _ _ { w:=w',H:=H',loc:=k,X:=E.X.re r' } d g1 r (fun a2 u l=>b a2 u (dm.after g2 l)) ro
theorem P5{b:Array Oper}{i j:Nat}{o:Oper}{es:Array Edge}(h:ops[i]? = some o)(h':b[j]? = some { o with after:=es })(d:o.guard=none){K:Act→World→Prop}{a:Act}{w:World}
  (hw:wpOpIn F n P b Q j K a w):wpOpIn F n P ops Q i K a w:=by
 unfold wpOpIn at hw⊢;simp only[h,h']at hw⊢;have g:n3 o (yielded ops a.tmps)=true:=by unfold n3; rw[d]
 have k:n3 { o with after:=es } (yielded b a.tmps)=true:=by unfold n3; rw[d]
 rw[if_pos k]at hw;rw[if_pos g];exact hw
theorem P6{c σ I:List Nat}{k i:Nat}{o:Oper}(hk:c[k]? = some i)(a:ops[i]? = some o):(fj ops c σ I)[k]? = some { o with after:=Aj c σ I i o }:=by
 unfold fj;simp[hk,a]
theorem P7{c σ I:List Nat}(Yj:k9 ops c=true)(hI:∀ i∈I,i<c.length)(Yn:∀ i∈σ,i<c.length):∀(v:List Nat) (fuel:Nat) (listed g:Array Bool) (a:Act) (w:World),
  listed.size=ops.size→(∀ i,i<c.length→g.getD (c.idxOf i) true=listed.getD i true)→(∀ i,i<c.length→c.idxOf i<g.size)→g.size=c.length→listed.getD c.length true=false→lG ops listed→hZ ops listed v→Ah σ I listed v →
  Ak F n P (fj ops c σ I) Q (fun a w=>wpOpsIn F n P ops Q [c.length] a w) fuel g a w→wpOpsIn F n P ops Q v a w:=by
 have N:=Yj;unfold k9 at N;simp only[aq,cC,e_,fJ]at N;obtain⟨⟨⟨⟨⟨k1,k2⟩,k3⟩,k4⟩,k5⟩,k6⟩:=N;have k1:=aR k1;have O:∀ i,i<c.length→c[c.idxOf i]? = some i:=fun i hi=>by
  have h1:=(k2 i hi).1;have d:=aR (k2 i hi).2;rw[bC h1];rw[cD,bC h1]at d;exact congrArg some d
 have Yh:∀ i j,i<c.length→j<c.length→c.idxOf i=c.idxOf j→i=j:=fun i j hi b e=>by
  have h1:=O i hi;rw[e,O j b]at h1;exact(fa h1).symm
 have Yk:∀{o:Oper} {i:Nat},ops[i]? = some o→o.guard=none:=fun {o i} r=>by
  have:=k5 o (by have:=Array.mem_of_getElem? r; simpa using this);cases hg:o.guard with
  |none=>rfl
  |some _=>rw[hg]at this; cases this
 intro v
 induction v with
 | nil =>
  intro fuel listed g a w Ye u B Yc t _ q _ _;have:=q c.length (by omega);rw[t]at this;cases this
 | cons i v ih =>
  intro fuel listed g a w Ye u B Yc t Yf q Yd hw;obtain⟨hr,q⟩:=q;obtain⟨hu,o,r,Yi⟩:=mem_ready.1 hr;have hi:i<ops.size:=(dM.1 r).1;by_cases e:i=c.length
  ·subst e
   have Y:∀ j,j<c.length→listed.getD j true=true:=fun j b=>by
    have:=ur Yf _ _ _ (uu hr) (k4 j b);have y:j<listed.size:=by omega
    simp[y]at this⊢;exact this
   have hv:v=[]:=by
    cases v with
    |nil=>rfl
    | cons j v =>
     obtain⟨h1,_⟩:=q;obtain⟨d,oj,Yl,_⟩:=mem_ready.1 h1;have b:j<ops.size:=(dM.1 Yl).1;by_cases e:c.length=j
     ·subst e
      have:c.length<listed.size:=by omega
      simp[this]at d
     ·rw [getD_set_ne true e, Y j (by omega)] at d
      cases d
   subst hv;have Yg:dz .any (fj ops c σ I) g=[]:=by
    apply List.eq_nil_iff_forall_not_mem.2;intro k hk;obtain⟨h0,o',D,_⟩:=mem_ready.1 hk;have R:k<c.length:=by
     have:=(dM.1 D).1;simpa[fj]using this
    have U:=(k3 k R).1;have ek:=aR (k3 k R).2;have Yo:c[k]? = some (c.getD k 0):=by rw[cD,bC R]; rfl
    have:=u _ U;rw[ek,Y _ U,h0]at this;cases this
   cases fuel with
   |zero=>exact hw.2
   |succ fuel=>exact hw.1 Yg
  ·have J : i < c.length := by omega
   have D:=P6 (σ:=σ) (I:=I) (O i J) r;have M:c.idxOf i∈dz .any (fj ops c σ I) g:=by
    refine mem_ready.2 ⟨by rw[u i J]; exact hu,_,D,fun x l hb=>?_⟩;have on:∀ j,j<c.length→listed.getD j false=true→g.getD (c.idxOf j) false=true:=fun j b h=>by
     have h1:listed.getD j true=true:=by
      have y:j<listed.size:=by omega
      simp[y]at h⊢;exact h
     have d:=u j b;rw[h1]at d;have V:=B j b;simp[V]at d⊢;exact d
    simp only[Aj,List.mem_toArray,bQ,dJ]at l;rcases l with⟨A,Ym,rfl⟩|l
    ·have h1 := Yi A (by simpa using Ym) hb
     have d:A.on<listed.size:=by
      rcases gr A.on listed.size with h|h
      ·exact h
      ·simp[pU h]at h1
     have U:A.on≠c.length:=fun e=>by
      rw[e]at h1 d;simp[d]at h1 t;rw[t]at h1;cases h1
     exact on A.on (by omega) h1
    ·cases W : I.contains i with
     |false=>rw[W]at l; cases l
     | true =>
      rw[W]at l;obtain⟨j,b,rfl⟩:=dJ.1 l;exact on j (Yn j (GJ b)) (Yd.1 (by simpa using W) j b)
   cases fuel with
   |zero=>rw[hw.1]at M; cases M
   | succ fuel =>
    rw[wpOpsIn_cons];refine wpOpIn_mono (fun a w h=>?_) (P5 r D (Yk r) (hw.2 _ M));refine ih fuel (listed.setIfInBounds i true) (g.setIfInBounds (c.idxOf i) true) a w (by simpa using Ye) (fun j b=>?_) (fun j b=>by simpa using B j b) (by simpa using Yc) ?_ (qv Yf hr) q Yd.2 h
    ·by_cases X : i = j
     ·subst X
      have y:i<listed.size:=by omega
      have V:=B i J;simp[y,V]
     ·rw[getD_set_ne true X,getD_set_ne true (fun h=>X (Yh i j J b h)),u j b]
    ·rw [getD_set_ne true e]
     exact t
end run
end Go.AL

namespace Go.AL
variable [Dr]
section range
variable {P:Program} {τ:al} {L:LT} {m:Nat} {sp:dS} {aH be aL:Array Oper} {body:Code}
theorem P8{pf:FuncId→Bool}{ops:Array Oper}{R:gC}{W:fP}{s s':St}(b:jx pf ops=true)(d:lJ ops R W)(h:mY P pf ops R W ops.toList 0 s s') :
  jZ P pf ops s' ops.size (fq ops.size false) s:=by
 have:=uC _ _ _ (yB (P:=P) (s':=s') b d ops.toList 0 (fq ops.size false) s (by simp) (by
  intro j a;exfalso;rcases gr j ops.size with h'|h'
  ·simp[h']at a
  ·simp[pU (xs:=fq ops.size false) (by simpa using h')]at a) (by simp) (by intro j a; simp[a]) h)
 simpa using this
def Tree.mh:Tree→Option (Bool × bt × aj)
 | .side b t=>match t.mh with
  |some (c,x,s)=>some (b&&c,x,s)
  |none=>none
 |.done x s=>some (true,x,s)
 |_=>none
theorem GL:∀{t:Tree} {x:bt} {s:aj},t.mh=some (true,x,s)→t.holds fun a s'=>a=x∧s'=s
 |.fail,_,_,h=>by cases h
 |.ask _ _ _,_,_,h=>by cases h
 | .done _ _,_,_,h=>by
  cases h;exact⟨rfl,rfl⟩
 | .side b t,x,s,h=>by
  unfold Tree.mh at h;split at h
  ·rename_i c a s' e
   simp only[aK,aN,aq]at h;obtain⟨⟨rfl,rfl⟩,rfl,rfl⟩:=h;exact⟨rfl,GL e⟩
  ·cases h
def P9(P:Program)(τ:al)(ops:Array Oper)(s:aj):aj:=match (lS P τ ops ops.toList 0 s ⟨[],[]⟩ fun s=>.done .normal s).mh with
 |some (_,_,s1)=>s1
 |none=>s
theorem P_(a:ao P τ){ops:Array Oper}{s s1:aj}(d:jx τ.pf ops=true)(h:(lS P τ ops ops.toList 0 s ⟨[],[]⟩ fun s=>.done .normal s).mh=some (true,.normal,s1)) :
  jZ P τ.pf ops s1.den ops.size (fq ops.size false) s.den:=by
 have h0:(⟨[],[]⟩:Acc).ok ops 0:=⟨by simp,by simp,by simp[lJ]⟩
 obtain⟨s',b,h1,_,g,i⟩:=zb a h0 (GL h);obtain⟨_,rfl⟩:=i;exact P8 d h1 g
def ml(r0 b0 r1 b1 r2:Nat)(aH be aL:Array Oper)(t2:Tmp)(body:Code):Code :=
 .seq (.region r0 aH true) (.block b0 (.loop (.seq (.region r1 be false) (.seq (.cond (.tmp t2) .skip (.exit b0)) (.block b1 (.seq (.region r2 aL false) body))))))
theorem P'{ro:Option Nat}{r0 b0 r1 b1 r2:Nat}{aH be aL:Array Oper}{t2:Tmp}{body:Code}(h:dv ro (ml r0 b0 r1 b1 r2 aH be aL t2 body)):dv ro body:=h.imp id fun h=>by
 simpa[ml,eH]using h
theorem Qa(hm:P.follows .mixedOrders=true)(R:ao P τ)(U:ay P m L body)(ho:kZ P sp aH be aL)
  (Ye:∀ d,(aI sp.inv d).fr[sp.t1]? = some .undef) (Yf:∀ d,(aI sp.inv d).fr[sp.t2]? = some .undef) (Yg:∀ d,(aI sp.inv d).fr[sp.it]? = some (.lit (.pointer (some ⟨sp.a8 d,0,none⟩))))
  {r0 r1 b0 b1 r2:Nat} (hr:rH P τ L m sp aL body b1) {I:List Nat} {c:List Nat→List Nat} (B:I.Nodup) (A:∀ i∈I,i+1<aH.size) (l:∀ σ∈bW I.length I,k9 aH (c σ)=true)
  {s:aj} {s1:List Nat→aj} {d:List G} {rows:List Nat→List (List G)} {clock:List Nat→Nat}
  (hp:∀ σ∈bW I.length I,jZ P τ.pf (fj aH (c σ) σ I) (s1 σ).den (fj aH (c σ) σ I).size (fq (fj aH (c σ) σ I).size false) s.den)
  (hx:∀ σ∈bW I.length I,(s1 σ).eval (.tmp sp.y)=.map sp.id) (hid:∀ σ∈bW I.length I,(s1 σ).H[sp.id]? = some (.map sp.K sp.V (rows σ) (clock σ))) (hn:∀ σ∈bW I.length I,((rows σ).map b9).Nodup)
  (Yh:∀ σ∈bW I.length I,∀ r∈rows σ,b9 r<clock σ) (Yi:∀ σ∈bW I.length I,∀ b,eJ m sp.inv sp.ps (fi sp.opens (sp.s2 (s1 σ) b))=some (true,sp.init d b)) (Yc:∀ b,sp.a8 (sp.init d b)=b)
  (W:∀ σ∈bW I.length I,∀ b p,p.Perm (rows σ)→(ch sp.st sp.a8 p (sp.init d b)).isSome=true) (E:Env) (a:Act) (hs:br s.den E a) (ro:Option Nat) (Yj:dv ro body) :
  (ml r0 b0 r1 b1 r2 aH be aL sp.t2 body).wpIn (fz ro) 0 P (fun e D J=>e=.normal∧∃ σ∈bW I.length I,∃ b p d',p.Perm (rows σ)∧ch sp.st sp.a8 p (sp.init d b)=some d'∧cT m E (aI sp.inv d').den D J) a E.w:=by
 refine wpIn_seq (wpIn_region_draw fun t=>?_);simp only[Region.schedule,hm,Bool.true_or,if_true];have N:∀ σ∈bW I.length I,vY aH=true∧(c σ).length+1=aH.size:=fun σ g=>by
  have:=l σ g;unfold k9 at this;simp only[aq]at this;exact⟨this.2,aR this.1.1.1.1.1⟩
 have Yk:I∈bW I.length I:=rW _ _ _ B rfl B fun _=>Iff.rfl;have k:hZ aH (fq aH.size false) (XA .any aH t):=GH (N I Yk).1 _ _ _ (by simp) (by
  refine Nat.le_trans (List.length_filter_le _ _) ?_;simp)
 generalize XA .any aH t=v at k⊢;have Yl:=k.nodup (by simp);have Y:∀ i,i<aH.size→i∈v:=fun i hi=>k.full i hi (by simp[hi]);have g:v.filter (fun x=>I.contains x)∈bW I.length I:=rW _ _ _ B rfl (Yl.filter _) fun x=>by
  rw[n_];constructor
  ·exact fun h=>by simpa using h.2
  ·exact fun h=>⟨Y x (by have:=A x h; omega),by simpa using h⟩
 generalize O:v.filter (fun x=>I.contains x)=σ at g;have hlen:=(N σ g).2;have Ym:∀ i∈σ,i<(c σ).length:=fun i hi=>by
  rw[←O,n_]at hi;have:=A i (by simpa using hi.2);omega
 have Yn:(fj aH (c σ) σ I).size=(c σ).length:=by simp[fj]
 have Yo:(c σ).length<aH.size:=by omega
 have Yp:(fq aH.size false).getD (c σ).length true=false:=by simp[Yo]
 refine P7 (l σ g) (fun i hi=>by have:=A i hi; omega) Ym v (c σ).length (fq aH.size false) (fq (c σ).length false) a _ (by simp) (fun i hi=>?_) (fun i hi=>?_) (by simp) Yp
  (fun j q=>?_) k (Ai (u:=[]) (by rw[O]; rfl) (fun j q=>by cases q) (by simp) k) ?_
 ·have h1:(c σ).idxOf i<(c σ).length:=by
   have:=l σ g;unfold k9 at this;simp only[aq,cC,e_,fJ]at this;exact(this.1.1.1.1.2 i hi).1
  have M:i<aH.size:=by omega
  simp[h1,M]
 ·have := l σ g
  unfold k9 at this;simp only[aq,cC,e_,fJ]at this;simpa using(this.1.1.1.1.2 i hi).1
 ·exfalso
  rcases gr j aH.size with h'|h'
  ·simp[h']at q
  ·simp[pU (xs:=fq aH.size false) (by simpa using h')]at q
 ·have Yq : br s.den { E with w := { E.w with drawn := E.w.drawn + 1 } } a := ⟨hs.H, cR (Env.fK (Ext.drawn E.w _)) _ hs.fr, qa hs.heap (Env.fK (Ext.drawn E.w _)) hs.defers, hs.heap.ext (Ext.drawn E.w _)⟩
  have h0:=hp σ g;rw[Yn]at h0;refine Al (pf:=τ.pf) (s':=(s1 σ).den) (c σ).length _ s.den { E with w:={ E.w with drawn:=E.w.drawn+1 } } a Yq h0 (fun D J Yr=>?_) ro;obtain⟨Yd,q1,h1,M⟩:=Yr;have Ys:aH.toList.dropLast.length=(c σ).length:=by simp; omega
  rw[←Ys];refine Pp hm R U ho Ye Yf Yg (Pn hm R U hr) (hx σ g) (hid σ g) (hn σ g) (Yh σ g) (Yi σ g) Yc (W σ g) { w:=J,H:=(s1 σ).den.H,loc:=Yd,X:=_ } D h1 ro Yj fun a2 w2 ⟨b,p,d',g1,g2,g3⟩=>?_;exact⟨rfl,σ,g,b,p,d',g1,g2,cT.after (Env.fK (Ext.drawn E.w _)).toM (cT.after M.toM g3)⟩
noncomputable def mn{α β:Type}(l:List α)(k:α→Option β):Option β :=
 open Classical in if h:∃ r,∀ x∈l,k x=some r then some h.choose else none
theorem GM{α β:Type}{l:List α}{k:α→Option β}{r:β}(h:mn l k=some r):∀ x∈l,k x=some r:=by
 unfold mn at h;split at h
 ·rename_i a
  cases h;exact a.choose_spec
 ·cases h
theorem Qb{α β:Type}{l:List α}{k:α→Option β}{r:β}{y:α}(b:y∈l)(h:∀ x∈l,k x=some r):mn l k=some r:=by
 cases a:mn l k with
 | some r' =>
  have h1:=GM a y b;rw[h y b]at h1;exact h1.symm
 | none =>
  unfold mn at a;rw[dif_pos ⟨r,h⟩]at a;cases a
theorem Qc(hm:P.follows .mixedOrders=true)(A:ao P τ){q:bI}{o:l4}(hL:ay P m L body)(u:kZ P sp aH be aL)
  (N:∀ d,(aI sp.inv d).fr[sp.t1]? = some .undef) (O:∀ d,(aI sp.inv d).fr[sp.t2]? = some .undef) (R:∀ d,(aI sp.inv d).fr[sp.it]? = some (.lit (.pointer (some ⟨sp.a8 d,0,none⟩))))
  {r0 r1 b0 b1 r2:Nat} (hr:rH P τ L m sp aL body b1) {I:List Nat} {c:List Nat→List Nat} (v:I.Nodup) (U:∀ i∈I,i+1<aH.size) (hc:∀ σ∈bW I.length I,k9 aH (c σ)=true)
  {rows:List Nat→List G→List (List G)} {clock:List Nat→List G→Nat} {sd:List Nat→List G→Bool} {pre:List Nat→List G→aj} (hB:∀ σ∈bW I.length I,jx τ.pf (fj aH (c σ) σ I)=true)
  (hy:∀ σ∈bW I.length I,∀ d,(lS P τ (fj aH (c σ) σ I) (fj aH (c σ) σ I).toList 0 (aI q.inv d) ⟨[],[]⟩ fun s=>.done .normal s).mh=some (sd σ d,.normal,pre σ d))
  (hx:∀ σ∈bW I.length I,∀ d,(pre σ d).eval (.tmp sp.y)=.map sp.id) (hid:∀ σ∈bW I.length I,∀ d,(pre σ d).H[sp.id]? = some (.map sp.K sp.V (rows σ d) (clock σ d)))
  (W:∀ σ∈bW I.length I,∀ d b,eJ m sp.inv sp.ps (fi sp.opens (sp.s2 (pre σ d) b))=some (sp.side d b,sp.init d b)) (J:∀ d b,sp.a8 (sp.init d b)=b)
  (X:q.outs[0]? = some o) (Y:o.x=.normal) {es:List G→Bool} {e:List G→List G} (M:∀ d,eJ m o.S o.ps (aI sp.inv d)=some (es d,e d))
  (Yc:∀ d,q.st d=mn (bW I.length I) fun σ=>bif sd σ d then hY sp (fun d=>bif es d then some (some 0,e d) else none) (rows σ d) (clock σ d) d else none) :
  pj P m (ml r0 b0 r1 b1 r2 aH be aL sp.t2 body) q:=by
 intro d i d' h;rw[Yc]at h;have w:=GM h;have Yd:I∈bW I.length I:=rW _ _ _ v rfl v fun _=>Iff.rfl;have k:∀ σ∈bW I.length I,sd σ d=true:=fun σ g=>by
  have:=w σ g;cases hs:sd σ d with
  |true=>rfl
  |false=>rw[hs]at this; cases this
 have B:∀ σ∈bW I.length I,hY sp (fun d=>bif es d then some (some 0,e d) else none) (rows σ d) (clock σ d) d=some (some i,d'):=fun σ g=>by
  have:=w σ g;rw[k σ g]at this;exact this
 have t:∀ σ∈bW I.length I,jG (rows σ d) (clock σ d)=true:=fun σ g=>by
  have:=B σ g;unfold hY at this;cases u:jG (rows σ d) (clock σ d)with
  |true=>rfl
  |false=>rw[u]at this; cases this
 have r:∀ σ∈bW I.length I,∀ b p,p.Perm (rows σ d)→sp.side d b=true∧∃ d1,ch sp.st sp.a8 p (sp.init d b)=some d1∧es d1=true∧i=0∧d'=e d1:=by
  intro σ g b p l;have h1:=B σ g;unfold hY at h1;rw[t σ g]at h1;simp only[cond_true]at h1;have:=zO h1 b p l;cases k:sp.side d b with
  |false=>rw[k]at this; cases this
  | true =>
   rw[k]at this;simp only[cond_true]at this;cases hf:ch sp.st sp.a8 p (sp.init d b)with
   |none=>rw[hf]at this; cases this
   | some d1 =>
    rw[hf]at this;refine⟨rfl,d1,rfl,?_⟩;simp only[Option.bind_some]at this;cases he:es d1 with
    |false=>rw[he]at this; cases this
    | true =>
     rw[he]at this;simp only[cond_true,aK,aN]at this;exact⟨rfl,this.1.symm,this.2.symm⟩
 obtain⟨_,d1,_,_,rfl,_⟩:=r I Yd 0 (rows I d) (pZ _);refine⟨o,X,fun ro Ye E a hs=>wpIn_mono (Qa hm A hL u N O R hr v U hc (s1:=fun σ=>pre σ d) (rows:=fun σ=>rows σ d) (clock:=fun σ=>clock σ d) (d:=d) (fun σ g=>P_ A (hB σ g) (by rw[hy σ g d,k σ g])) (fun σ g=>hx σ g d) (fun σ g=>hid σ g d)
  (fun σ g=>(zP (t σ g)).1) (fun σ g=>(zP (t σ g)).2) (fun σ g b=>by rw[W σ g d b,(r σ g b (rows σ d) (pZ _)).1]) (J d) (fun σ g b p l=>?_) E a hs ro (P' Ye)) fun e1 a1 w1 hq=>?_⟩
 ·obtain ⟨_, d2, h2, _⟩ := r σ g b p l
  rw[h2];rfl
 ·obtain ⟨rfl, σ, g, b, p, d2, l, hf, hM⟩ := hq
  obtain⟨_,d3,D,h4,_,rfl⟩:=r σ g b p l;rw[hf]at D;cases D;rw[Y];refine⟨rfl,cT.weaken hM (iC (ps:=o.ps) ?_)⟩;rw[M,h4]
theorem Qd{r0 r1 b0 b1 r2 t2:Nat}(h:ay P m L (ml r0 b0 r1 b1 r2 aH be aL t2 body)):ay P m L body:=by
 refine h.sub (fun p a=>?_) (fun p a=>?_)
 ·simp only [bk, ml, bQ]
  right;split
  ·simp only [bN, bk, bQ]
   exact .inr (.inr (.inr (.inr a)))
  ·simp only [bk, bQ]
   exact .inr (.inr (.inr a))
 ·simp only [bl, ml, bQ]
  exact .inr (.inr (.inr (.inr (.inr (.inr (.inr (.inr a)))))))
theorem ay.Qe(hm:P.follows .mixedOrders=true)(O:ao P τ){fn:Func}{q:bI}{o:l4}{r0 b0 r1 b1 r2:Nat}{I:List Nat}{c:List Nat→List Nat}{rows:List Nat→List G→List (List G)}{clock:List Nat→List G→Nat}{sd:List Nat→List G→Bool}
  (R:jD q.key (bl (aY fn))=true) (U:ay P m L (aY fn)) (hk:jH (.seq (cutAt fn q.key) .skip)=aH) (Yc:zT (.seq (cutAt fn q.key) .skip)=be) (Yd:pk (.seq (cutAt fn q.key) .skip)=aL) (Ye:rJ (.seq (cutAt fn q.key) .skip)=body)
  (k:cutAt fn q.key=ml r0 b0 r1 b1 r2 aH be aL sp.t2 body)
  (a:(vO P sp aH&&vP sp be&&vQ sp aL)=true)
  (hr:rH P τ L m sp aL body b1)
  (v:∀ d,(aI sp.inv d).fr[sp.t1]? = some .undef) (w:∀ d,(aI sp.inv d).fr[sp.t2]? = some .undef) (A:∀ d,(aI sp.inv d).fr[sp.it]? = some (.lit (.pointer (some ⟨sp.a8 d,0,none⟩))))
  (W:nodupB I=true) (l:(I.all fun i=>eg (i+1) aH.size)=true) (g:((bW I.length I).all fun σ=>k9 aH (c σ)&&jx τ.pf (fj aH (c σ) σ I))=true)
  {pre:List Nat→List G→aj} (X:∀ σ∈bW I.length I,∀ d,(lS P τ (fj aH (c σ) σ I) (fj aH (c σ) σ I).toList 0 (aI q.inv d) ⟨[],[]⟩ fun s=>.done .normal s).mh=some (sd σ d,.normal,pre σ d))
  (Y:∀ σ∈bW I.length I,∀ d,(pre σ d).eval (.tmp sp.y)=.map sp.id) (hid:∀ σ∈bW I.length I,∀ d,(pre σ d).H[sp.id]? = some (.map sp.K sp.V (rows σ d) (clock σ d)))
  (B:∀ σ∈bW I.length I,∀ d b,eJ m sp.inv sp.ps (fi sp.opens (sp.s2 (pre σ d) b))=some (sp.side d b,sp.init d b)) (t:∀ d b,sp.a8 (sp.init d b)=b)
  (D:q.outs[0]? = some o) (J:o.x=.normal) {es:List G→Bool} {e:List G→List G} (u:∀ d,eJ m o.S o.ps (aI sp.inv d)=some (es d,e d))
  (M:∀ d,q.st d=mn (bW I.length I) fun σ=>bif sd σ d then hY sp (fun d=>bif es d then some (some 0,e d) else none) (rows σ d) (clock σ d) d else none) :
  ay P m (L.gk m q) (aY fn):=by
 refine ay.Gp R U fun r=>?_;rw[k]at r;have N:=Qd r;simp only[aq]at a;simp only[cC,aq,fJ]at g l;rw[k];exact Qc hm O N (Gq a.1.1 a.1.2 a.2) v w A hr (nu W) l (fun σ h=>(g σ h).1) (fun σ h=>(g σ h).2) X Y hid B t D J u M
end range
end Go.AL
