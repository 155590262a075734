/-
 What is proved here: rules by which lifted functions are shown to give what they should. No program in sight; no condition.
-/
import Derived.Test.YtpgfflhcmodgdaaGreatDoorMD
import Derived.Test.YtpgfflhcmodgdaaGreatDoorMH
set_option linter.all false
set_option backward.dsimp.instances true
open Bool renaming and_true->jQ,and_eq_true->aO,eq_iff_iff->s_
open List renaming length_cons->cz,getElem?_eq_getElem->cB,getD_eq_getElem?_getD->dc,length_append->fV,mem_cons->c_,mem_append->dm,replicate->cn,mem_cons_self->dx,mem_cons_of_mem->dh,length_nil->km,length_replicate->vt,pairwise_cons->nf
open List.Pairwise renaming sublist->as8,imp_of_mem->as9
open List.Perm renaming refl->Jr
open List.cons renaming injEq->Jd
open Nat renaming le_refl->aV,beq->aD,ble->dv
namespace Go.AL
open Go
variable [Dr]
variable {β:Type} {P Q:Nat->LG->Prop} {b c:Bool} {d:LG} {st:LG->bp} {t:Option LG}
def aa(x:Option β)(Q:β->Prop):Prop:=∃r,x=some r/\Q r
def kT(st:LG->bp)(d:LG)(Q:Nat->LG->Prop):Prop:=∃n x h,jH st n d x h/\n<=1000000/\Q x h
namespace aa
variable {β:Type} {Q:β->Prop}
theorem some{r:β}(h:Q r):aa (some r) Q:=⟨r,rfl,h⟩
theorem pos{x y:Option β}(h:b=true)(d:aa x Q):aa (bif b then x else y) Q:=by subst h; exact d
theorem neg{x y:Option β}(h:b=false)(d:aa y Q):aa (bif b then x else y) Q:=by subst h; exact d
theorem test{x y:Option β}(d:b=true->aa x Q)(h:b=false->aa y Q):aa (bif b then x else y) Q:=by
 cases b with
 |true=>exact d rfl
 |false=>exact h rfl
theorem call{k:LG->Option β}{P:LG->Prop}(h:aa t P)(d:∀g,P g->aa (k g) Q):aa (aI t k) Q:=by
 obtain⟨r,h,v⟩:=h;subst h;exact d r v
theorem jx{k:LG->Option β}{P:LG->Prop}(h:aa t P)(d:c=true)(v:∀g,P g->aa (k g) Q):aa (i_ (c&&t.isSome) t k) Q:=by
 obtain⟨r,h,y⟩:=h;subst h d;exact v r y
theorem loop{k:Nat->LG->Option β}(h:kT st d P)(v:c=true)(y:∀x g,P x g->aa (k x g) Q):aa (be c (bR st d) k) Q:=by
 obtain⟨n,x,I,h,hn,M⟩:=h;rw[h.adX hn];subst v;exact y x I M
theorem tail{t:bp}{k:Nat->LG->Option β}(h:aa t fun o=>∃ x,o.1=Option.some x/\P x o.2)(y:c=true)(I:∀ x g,P x g->aa (k x g) Q):
  aa (be c (c7 t) k) Q:=by
 obtain⟨⟨o,d⟩,rfl,x,v,M⟩:=h;simp only at v;subst v y;exact I x d M
theorem mono{x:Option β}{P:β->Prop}(h:aa x P)(d:∀r,P r->Q r):aa x Q:=by
 obtain⟨r,h,k⟩:=h;exact⟨r,h,d r k⟩
theorem eq{x:Option β}{r:β}(h:x=Option.some r):aa x (fun g=>g=r):=⟨r,h,rfl⟩
theorem toEq{x:Option β}{r:β}(h:aa x (fun g=>g=r)):x=Option.some r:=by
 obtain⟨d,h,rfl⟩:=h;exact h
end aa
theorem kT.stop{st:LG->bp}{d d':LG}{x:Nat}{Q:Nat->LG->Prop}(h:st d=some (some x,d'))(hq:Q x d'):kT st d Q:=⟨1,x,d',.stop h,ab,hq⟩
def aR(st:LG->bp)(d:LG)(m:Nat)(Q:Nat->LG->Prop):Prop:=∃n x h,jH st n d x h/\n<=m/\Q x h
theorem aR.stop{st:LG->bp}{d d':LG}{x m:Nat}{Q:Nat->LG->Prop}(h:st d=some (some x,d'))(hq:Q x d'):aR st d (m+1) Q:=⟨1,x,d',.stop h,ab,hq⟩
theorem aR.next{st:LG->bp}{d d1:LG}{m:Nat}{Q:Nat->LG->Prop}(h:st d=some (none,d1))(hr:aR st d1 m Q):aR st d (m+1) Q:=by
 obtain⟨n,x,k,h1,y,v⟩:=hr;exact⟨n+1,x,k,.next h h1,ab,v⟩
theorem aR.to{m:Nat}(h:aR st d m Q)(hm:m<=1000000):kT st d Q:=by
 obtain⟨n,x,k,h1,y,v⟩:=h;exact⟨n,x,k,h1,ab,v⟩
theorem kT.mono(h:kT st d P)(hq:∀x g,P x g->Q x g):kT st d Q:=by
 obtain⟨n,x,k,h1,v,y⟩:=h;exact⟨n,x,k,h1,v,hq _ _ y⟩
theorem aR.mono{m:Nat}(h:aR st d m P)(hq:∀x g,P x g->Q x g):aR st d m Q:=by
 obtain⟨n,x,k,h1,v,y⟩:=h;exact⟨n,x,k,h1,v,hq _ _ y⟩
theorem ae9{p:Prop}{i:Decidable p}:(@decide p i=true)↔p:=au
theorem ae_{p:Prop}{i:Decidable p}:(@decide p i=false)↔¬ p:=au
theorem ae'{a b:Nat}:aD a b=true↔a=b:=au
theorem Aa(a:G)(l:LG):gi (a::l) 0=a:=rfl
theorem Ab(a:G)(l:LG)(i:Nat):gi (a::l) (i+1)=gi l i:=rfl
theorem Ac(r:LG)(l:LL):(G.l (r::l)).rV=r:=rfl
theorem Ad(l:LL):(G.l l).rZ=l:=rfl
theorem Ae(n:Int):(G.i n).iV=n:=rfl
theorem Af(s:BY):(G.s s).sV=s:=rfl
theorem Ag(b:Bool):(G.t b).bV=b:=rfl
attribute [go_sem] Aa Ab Ac Ad Ae Af Ag
theorem sl:(∀a b:Int,aN a b=decide (a<b))/\(∀a b:Int,bq a b=decide (a<=b))/\(∀n:Int,cO n=decide (0<=n))/\(∀b:Bool,(b&&true)=b)/\(∀b:Bool,(true&&b)=b) /\
  (∀a b:Bool,((a&&b)=true)=(a=true/\b=true))/\(∀a b:Bool,((a&&b)=false)=(a=false\/b=false))/\(∀(p:Prop) (i:Decidable p),(@decide p i=true)=p)/\(∀(p:Prop) (i:Decidable p),(@decide p i=false)=¬ p) /\
  (∀b:Bool,((!b)=true)=(b=false))/\(∀b:Bool,((!b)=false)=(b=true))/\(∀a b:Int,((a==b)=true)=(a=b))/\(∀a b:Int,((a==b)=false)=¬ (a=b))/\(∀a b:Int,((a != b)=true)=¬ (a=b))/\(∀a b:Int,((a != b)=false)=(a=b)) /\
  (∀(α:Type) (a b:α),(a≠b)=¬ (a=b))/\(∀a b:Nat,(aD a b=true)=(a=b))/\(∀a b:Nat,(dv a b=true)=(a<=b))/\(∀a b:Nat,(Nat.blt a b=true)=(a<b)) /\
  (∀(l:LL) (i:Nat) (x:LG),(l.set i x).length=l.length)/\(∀(α:Type) (l r:List α),(l++r).length=l.length+r.length)/\(∀(n:Nat) (x:LG),(cn n x).length=n) /\
  (∀(α:Type) (x:α) (l:List α),(x::l).length=l.length+1)/\(∀α:Type,([]:List α).length=0)/\(∀(l:LL) (n:Nat),(l.take n).length=min n l.length)/\(∀(l:LL) (n:Nat),(l.drop n).length=l.length-n) /\
  (∀n:Nat,((n:Int)).toNat=n)/\(∀p:Prop,(True/\p)=p)/\(∀p:Prop,(p/\True)=p)/\(∀a b:Bool,((a==b)=true)=(a=b)):=
 ⟨cS,fe,lq,jQ,Bool.true_and,aO,fun a b=>by cases a<;>cases b<;>simp,fun _ _=>propext ae9,fun _ _=>propext ae_,fun b=>by cases b<;>simp,fun b=>by cases b<;>simp,
  fun a b=>by simp,fun a b=>by simp,fun a b=>by simp,fun a b=>by simp,fun _ a b=>rfl,fun a b=>propext ae',fun a b=>by simp,fun a b=>by simp,fun l i x=>List.length_set,fun _ l r=>fV,fun n x=>vt,
  fun _ x l=>rfl,fun _=>rfl,fun l n=>List.length_take,fun l n=>List.length_drop,fun n=>Int.toNat_natCast n,fun p=>true_and p,fun p=>and_true p,fun a b=>by cases a<;>cases b<;>simp⟩
theorem fg{p:Prop}(h:p:=by first|rfl|assumption|(simp only[aA,sl]<;>omega)):p:=h
theorem aa.p{Q:β->Prop}{x y:Option β}(d:aa x Q)(h:b=true:=by first|rfl|assumption|(simp only[aA,sl]<;>omega)):aa (bif b then x else y) Q:=aa.pos h d
theorem aa.n{Q:β->Prop}{x y:Option β}(d:aa y Q)(h:b=false:=by first|rfl|assumption|(simp only[aA,sl]<;>omega)):aa (bif b then x else y) Q:=aa.neg h d
theorem aa.cE{Q:β->Prop}{r:LG}{k:LG->Option β}(h:t=Option.some r)(d:aa (k r) Q):aa (aI t k) Q:=aa.call (aa.eq h) fun _ e=>by subst e; exact d

end Go.AL

namespace Go.AL
open Go
variable [Dr]
def SN{v:Type}{st:LG->bp}(mk:v->Nat->LG)(n:Nat)(d:v->Nat × LG)(I:v->Nat->Prop)(E:Nat->LG->Prop)
  (M:∀s i,I s i->i<n->aa (st (mk s i)) fun o=>(∃s',o=(none,mk s' (i+1))/\I s' (i+1))\/∃c g,o=(some c,g)/\E c g)
  (N:∀s,I s n->aa (st (mk s n)) fun o=>o=(some (d s).1,(d s).2)) :
  ∀(k:Nat) (s:v) (i:Nat),i+k=n->I s i->aR st (mk s i) (k+1) fun c g=>(∃s',I s' n/\c=(d s').1/\g=(d s').2)\/E c g
 |0,s,i,hi,y=>by
  have e:i=n:=hi;subst e;obtain⟨o,h,rfl⟩:=N s y
  grind[aR.stop]
 |k+1,s,i,hi,y=>by
  obtain⟨o,h,⟨s',rfl,O⟩|⟨c,g,rfl,U⟩⟩:=M s i y ab
  ·exact aR.next h (SN mk n d I E M N k s' (i+1) ab O)
  grind[aR.stop]
variable {rZ:LL} {st:LG->bp} {α:Type} {K:List Kd}
theorem afa{i:Nat}(h:i<rZ.length):rZ.getD i []∈rZ:=by
 rw[dc,cB h];exact List.getElem_mem h
theorem afb{i:Nat}(h:i<rZ.length):rZ.take (i+1)=rZ.take i++[rZ.getD i []]:=by
 rw[List.take_add_one,dc,cB h];rfl
theorem SO{σ:Type}(mk:σ->Nat->LG)(rZ:LL)(d:σ->Nat × LG)(I:σ->Nat->Prop)(E:Nat->LG->Prop)(s:σ)
  (y:rZ.length<999999) (h0:I s 0)
  (h:∀s i x,I s i->i<rZ.length->rZ.getD i []=x->x∈rZ->rZ.take (i+1)=rZ.take i++[x]->aa (st (mk s i)) fun o=>(∃s',o=(none,mk s' (i+1))/\I s' (i+1))\/∃c g,o=(some c,g)/\E c g)
  (k:∀s,I s rZ.length->aa (st (mk s rZ.length)) fun o=>o=(some (d s).1,(d s).2)) :
  kT st (mk s 0) fun c g=>(∃s',I s' rZ.length/\c=(d s').1/\g=(d s').2)\/E c g:=
 (SN mk rZ.length d I E (fun s i v hi=>h s i _ v hi rfl (afa hi) (afb hi)) k rZ.length s 0 ab h0).to ab
theorem uu{σ:Type}(mk:σ->Nat->LG)(rZ:LL)(k:σ->Nat × LG)(I:σ->Nat->Prop)(s:σ)
  (y:rZ.length<999999) (h0:I s 0)
  (v:∀s i x,I s i->i<rZ.length->rZ.getD i []=x->x∈rZ->rZ.take (i+1)=rZ.take i++[x]->aa (st (mk s i)) fun o=>∃s',o=(none,mk s' (i+1))/\I s' (i+1))
  (M:∀s,I s rZ.length->aa (st (mk s rZ.length)) fun o=>o=(some (k s).1,(k s).2)) :
  kT st (mk s 0) fun c g=>∃s',I s' rZ.length/\c=(k s').1/\g=(k s').2:=
 (SO mk rZ k I (fun _ _=>False) s y h0 (fun s i x a b c d e=>(v s i x a b c d e).mono fun _ h=>.inl h) M).mono fun _ _ h=>h.elim id False.elim
theorem Mw[BEq α][LawfulBEq α](a b:α):(a==b)=(b==a):=by
 rw[s_];simp only[beq_iff_eq];exact eq_comm
theorem afc{k:Kd}{a b:G}:tC k a b=tC k b a:=by
 cases k
 ·exact Mw _ _
 ·exact Mw _ _
 ·exact Mw _ _
 ·rfl
theorem afd{k:Kd}{a b c:G}(h1:tC k a b=true)(d:tC k b c=true):tC k a c=true:=by
 cases k<;>simp only[tC,beq_iff_eq]at *<;>grind
theorem oz:∀{K:List Kd} {a b:LG},aZ K a b=aZ K b a
 |[],_,_=>rfl
 |k::K,a,b=>by simp only[aZ,afc (a:=a.headD default),oz (K:=K) (a:=a.tail)]
theorem wP:∀{K:List Kd} {a b c:LG},aZ K a b=true->aZ K b c=true->aZ K a c=true
 |[],_,_,_,_,_=>rfl
 |k::K,a,b,c,h1,d=>by
  simp only[aZ,aO]at *;exact⟨afd h1.1 d.1,wP h1.2 d.2⟩
theorem afe{a b c:LG}(h:aZ K a b=true):aZ K a c=aZ K b c:=by
 rw[s_]
 grind[wP,oz]
theorem yW{a b c:LG}(h:aZ K a b=true):aZ K c a=aZ K c b:=by
 rw[oz,afe h,oz]
theorem qY(ks:List Kd)(key:LG):∀(rZ:LL) (i:Nat),cH ks key rZ i=(cH ks key rZ 0).map fun p=>(p.1+i,p.2)
 |[],i=>rfl
 |r::rs,i=>by
  simp only[cH];cases aZ ks key (gi r 0).rV with
  |true=>simp
  |false=>
   simp only[cF];rw[qY ks key rs (i+1),qY ks key rs (0+1),Option.map_map];congr 1
   grind
theorem aff(ks:List Kd)(key z:LG):cR ks [] key z=z:=rfl
theorem CH(ks:List Kd)(r:LG)(rs:LL)(key z:LG):cR ks (r::rs) key z=bif aZ ks key (gi r 0).rV then (gi r 1).rV else cR ks rs key z:=by
 unfold cR;simp only[cH];cases aZ ks key (gi r 0).rV with
 |true=>rfl
 |false=>
  grind[qY]
theorem GO(ks:List Kd)(key:LG):dJ ks [] key=false:=rfl
theorem yX(ks:List Kd)(r:LG)(rs:LL)(key:LG):dJ ks (r::rs) key=(aZ ks key (gi r 0).rV||dJ ks rs key):=by
 unfold dJ;simp only[cH];cases aZ ks key (gi r 0).rV with
 |true=>rfl
 |false=>
  grind[qY]
theorem GP(ks:List Kd)(key val:LG)(c:Nat):dV ks [] key val c=[[.l [key],.l [val],.i c]]:=rfl
theorem GQ(ks:List Kd)(r:LG)(rs:LL)(key val:LG)(c:Nat) :
  dV ks (r::rs) key val c=bif aZ ks key (gi r 0).rV then [.l [key],.l [val],.i (gi r 2).iV]::rs else r::dV ks rs key val c:=by
 unfold dV;simp only[cH];cases aZ ks key (gi r 0).rV with
 |true=>rfl
 |false=>
  grind[qY]
theorem wQ(ks:List Kd)(k v key z:LG)(c:Nat):∀ rZ:LL,cR ks (dV ks rZ k v c) key z=bif aZ ks key k then v else cR ks rZ key z
 |[]=>by simp only[GP,CH,aff]; rfl
 |r::rs=>by
  rw[GQ,CH];cases h:aZ ks k (gi r 0).rV with
  |true=>
   simp only[cT,CH];have e:aZ ks key (gi r 0).rV=aZ ks key k:=(yW h).symm;rw[e];cases d:aZ ks key k with
   |true=>simp only[Aa,Ac,d,cT]; rfl
   |false=>simp only[Aa,Ac,d,cF]
  |false=>
   simp only[cF,CH,wQ ks k v key z c rs];cases d:aZ ks key (gi r 0).rV with
   |false=>rfl
   |true=>
    cases y:aZ ks key k with
    |false=>rfl
    |true=>
     grind[wP,oz]
theorem CI(ks:List Kd)(k v key:LG)(c:Nat):∀ rZ:LL,dJ ks (dV ks rZ k v c) key=(aZ ks key k||dJ ks rZ key)
 |[]=>by simp only[GP,yX,GO]; rfl
 |r::rs=>by
  rw[GQ,yX];cases h:aZ ks k (gi r 0).rV with
  |true=>
   simp only[cT,yX];have e:aZ ks key (gi r 0).rV=aZ ks key k:=(yW h).symm;rw[e];simp only[Aa,Ac]
   grind
  |false=>
   simp only[cF,yX,CI ks k v key c rs]
   grind
def CJ(K:List Kd)(C:LG->Option LG)(d:LG):bp:=
 (bif (aN (gi d 1).iV (gi d 4).iV) then (bif ((cO (gi d 4).iV)&&(aN (gi d 4).iV (((gi d 0).rZ.length:Nat):Int))) then (bif (decide ((0+((gi d 4).iV).toNat)<(gi d 0).rZ.length)) then (bif (aA ((gi d 4).iV-1)) then (bif ((cO ((gi d 4).iV-1))&&(aN ((gi d 4).iV-1) (((gi d 0).rZ.length:Nat):Int))) then (bif (decide ((0+((gi d 4).iV-1).toNat)<(gi d 0).rZ.length)) then (aI (C [.l [(bg K ((gi d 0).rZ.getD (0+((gi d 4).iV).toNat) []))],.l [(bg K ((gi d 0).rZ.getD (0+((gi d 4).iV-1).toNat) []))]]) fun h=>(bif (aN (gi h 0).iV 0) then (bif (aA ((gi d 4).iV-1)) then (bif (aA ((gi d 4).iV-1)) then (bif ((cO ((gi d 4).iV-1))&&(aN ((gi d 4).iV-1) (((gi d 0).rZ.length:Nat):Int))) then (bif (decide ((0+((gi d 4).iV-1).toNat)<(gi d 0).rZ.length)) then (bif ((cO (gi d 4).iV)&&(aN (gi d 4).iV (((gi d 0).rZ.length:Nat):Int))) then (bif (decide ((0+((gi d 4).iV).toNat)<(gi d 0).rZ.length)) then (bif ((cO (gi d 4).iV)&&(aN (gi d 4).iV (((gi d 0).rZ.length:Nat):Int))) then (bif (decide ((0+((gi d 4).iV).toNat)<(gi d 0).rZ.length)) then (bif ((cO ((gi d 4).iV-1))&&(aN ((gi d 4).iV-1) (((gi d 0).rZ.length:Nat):Int))) then (bif (decide ((0+((gi d 4).iV-1).toNat)<((gi d 0).rZ.set (0+((gi d 4).iV).toNat) (eh K ((gi d 0).rZ.getD (0+((gi d 4).iV).toNat) []) 0 (bg K ((gi d 0).rZ.getD (0+((gi d 4).iV-1).toNat) [])))).length)) then (bif (aA ((gi d 4).iV-1)) then (bif ((aD (gi d 0).rZ.length (((gi d 0).rZ.set (0+((gi d 4).iV).toNat) (eh K ((gi d 0).rZ.getD (0+((gi d 4).iV).toNat) []) 0 (bg K ((gi d 0).rZ.getD (0+((gi d 4).iV-1).toNat) [])))).set (0+((gi d 4).iV-1).toNat) (eh K (((gi d 0).rZ.set (0+((gi d 4).iV).toNat) (eh K ((gi d 0).rZ.getD (0+((gi d 4).iV).toNat) []) 0 (bg K ((gi d 0).rZ.getD (0+((gi d 4).iV-1).toNat) [])))).getD (0+((gi d 4).iV-1).toNat) []) 0 (bg K ((gi d 0).rZ.getD (0+((gi d 4).iV).toNat) [])))).length)&&true) then some (none,[.l (((gi d 0).rZ.set (0+((gi d 4).iV).toNat) (eh K ((gi d 0).rZ.getD (0+((gi d 4).iV).toNat) []) 0 (bg K ((gi d 0).rZ.getD (0+((gi d 4).iV-1).toNat) [])))).set (0+((gi d 4).iV-1).toNat) (eh K (((gi d 0).rZ.set (0+((gi d 4).iV).toNat) (eh K ((gi d 0).rZ.getD (0+((gi d 4).iV).toNat) []) 0 (bg K ((gi d 0).rZ.getD (0+((gi d 4).iV-1).toNat) [])))).getD (0+((gi d 4).iV-1).toNat) []) 0 (bg K ((gi d 0).rZ.getD (0+((gi d 4).iV).toNat) [])))),.i (gi d 1).iV,.i (gi d 2).iV,.i (gi d 3).iV,.i ((gi d 4).iV-1)]) else none) else none) else none) else none) else none) else none) else none) else none) else none) else none) else none) else none) else (bif ((aD (gi d 0).rZ.length (gi d 0).rZ.length)&&true) then some (some 0,[.l (gi d 0).rZ,.i (gi d 1).iV,.i (gi d 2).iV,.i (gi d 3).iV]) else none))) else none) else none) else none) else none) else none) else (bif ((aD (gi d 0).rZ.length (gi d 0).rZ.length)&&true) then some (some 0,[.l (gi d 0).rZ,.i (gi d 1).iV,.i (gi d 2).iV,.i (gi d 3).iV]) else none))
def yY(K:List Kd)(C:LG->Option LG)(d:LG):bp:=
 (bif (aN (gi d 3).iV (gi d 2).iV) then (be ((aD (gi d 0).rZ.length (gi d 0).rZ.length)&&true) (bR (CJ K C) [.l (gi d 0).rZ,.i (gi d 1).iV,.i (gi d 2).iV,.i (gi d 3).iV,.i (gi d 3).iV]) fun k h=>(bif (aA ((gi h 3).iV+1)) then (bif ((aD (gi h 0).rZ.length (gi h 0).rZ.length)&&true) then some (none,[.l (gi h 0).rZ,.i (gi h 1).iV,.i (gi h 2).iV,.i ((gi h 3).iV+1)]) else none) else none)) else some (some 0,[.l (gi d 0).rZ]))
def qZ(K:List Kd)(C:LG->Option LG)(d:LG):Option LG:=
 (bif (aA ((gi d 1).iV+1)) then (be ((aD (gi d 0).rZ.length (gi d 0).rZ.length)&&true) (bR (yY K C) [.l (gi d 0).rZ,.i (gi d 1).iV,.i (gi d 2).iV,.i ((gi d 1).iV+1)]) fun k h=>some [.l (gi h 0).rZ]) else none)
def wR(K:List Kd)(C:LG->Option LG)(d:LG):bp:=
 (bif (bq (gi d 4).iV (gi d 1).iV) then (i_ (((aD (gi d 0).rZ.length (gi d 0).rZ.length)&&true)&&((qZ K C) [.l (gi d 0).rZ,.i (gi d 3).iV,.i (gi d 4).iV]).isSome) ((qZ K C) [.l (gi d 0).rZ,.i (gi d 3).iV,.i (gi d 4).iV]) fun h=>(bif (aA ((gi d 4).iV+(gi d 2).iV)) then (bif ((aD (gi d 0).rZ.length (gi h 0).rZ.length)&&true) then some (none,[.l (gi h 0).rZ,.i (gi d 1).iV,.i (gi d 2).iV,.i (gi d 4).iV,.i ((gi d 4).iV+(gi d 2).iV)]) else none) else none)) else (bif ((aD (gi d 0).rZ.length (gi d 0).rZ.length)&&true) then some (some 0,[.l (gi d 0).rZ,.i (gi d 1).iV,.i (gi d 2).iV,.i (gi d 3).iV]) else none))
def afg(K:List Kd)(C:LG->Option LG)(d:LG):bp:=
 (bif (bq (gi d 4).iV (gi d 1).iV) then (bif (aA ((gi d 3).iV+(gi d 2).iV)) then none else none) else (bif ((aD (gi d 0).rZ.length (gi d 0).rZ.length)&&true) then some (some 0,[.l (gi d 0).rZ,.i (gi d 1).iV,.i (gi d 2).iV,.i (gi d 3).iV]) else none))
def Mx(K:List Kd)(C:LG->Option LG)(d:LG):bp:=
 (bif (aN (gi d 2).iV (gi d 1).iV) then (bif (aA (2*(gi d 2).iV)) then (be ((aD (gi d 0).rZ.length (gi d 0).rZ.length)&&true) (bR (afg K C) [.l (gi d 0).rZ,.i (gi d 1).iV,.i (gi d 2).iV,.i 0,.i (2*(gi d 2).iV)]) fun k h=>(bif (aA ((gi h 3).iV+(gi h 2).iV)) then (bif (aN ((gi h 3).iV+(gi h 2).iV) (gi h 1).iV) then none else (bif (aA ((gi h 2).iV*2)) then (bif ((aD (gi h 0).rZ.length (gi h 0).rZ.length)&&true) then some (none,[.l (gi h 0).rZ,.i (gi h 1).iV,.i ((gi h 2).iV*2)]) else none) else none)) else none)) else none) else some (some 0,[.l (gi d 0).rZ]))
def GR(K:List Kd)(C:LG->Option LG)(d:LG):Option LG:=
 (be ((aD (gi d 0).rZ.length (gi d 0).rZ.length)&&true) (bR (wR K C) [.l (gi d 0).rZ,.i (gi d 1).iV,.i 20,.i 0,.i 20]) fun y h=>(i_ (((aD (gi h 0).rZ.length (gi h 0).rZ.length)&&true)&&((qZ K C) [.l (gi h 0).rZ,.i (gi h 3).iV,.i (gi h 1).iV]).isSome) ((qZ K C) [.l (gi h 0).rZ,.i (gi h 3).iV,.i (gi h 1).iV]) fun k=>(be ((aD (gi h 0).rZ.length (gi k 0).rZ.length)&&true) (bR (Mx K C) [.l (gi k 0).rZ,.i (gi h 1).iV,.i (gi h 2).iV]) fun I v=>some [.l (gi v 0).rZ])))
def SP(K:List Kd)(C:LG->Option LG)(d:LG):Option LG:=
 (i_ (((aD (gi d 0).rZ.length (gi d 0).rZ.length)&&true)&&((GR K C) [.l (gi d 0).rZ,.i (((gi d 0).rZ.length:Nat):Int)]).isSome) ((GR K C) [.l (gi d 0).rZ,.i (((gi d 0).rZ.length:Nat):Int)]) fun h=>some [.l (gi h 0).rZ])
theorem nD(l:List α)(x:α)(q:List α)(z:α)(n:Nat)(h:n=l.length):(l++x::q).getD n z=x:=by subst h; simp
theorem GS(l:List α)(x y:α)(q:List α)(n:Nat)(h:n=l.length):(l++x::q).set n y=l++y::q:=by subst h; simp
def ir{α:Type}(lt:α->α->Bool)(x:α):List α->List α
 |[]=>[x]
 |y::p=>bif lt x y then y::ir lt x p else x::y::p
def l4{α:Type}(lt:α->α->Bool):List α->List α->List α
 |p,[]=>p
 |p,x::r=>l4 lt (ir lt x p) r
def eP(lt:α->α->Bool)(l:List α):List α:=(l4 lt [] l).reverse
theorem yZ{α:Type}(lt:α->α->Bool)(x:α):∀ p,(ir lt x p).length=p.length+1
 |[]=>rfl
 |y::p=>by
  simp only[ir];cases lt x y with
  |true=>simp[yZ lt x p]
  |false=>simp
theorem GU{α:Type}{Q:α->Prop}{lt:α->α->Bool}{x:α}(h:Q x):∀{p:List α},(∀ y∈p,Q y)->∀ y∈ir lt x p,Q y
 |[],_,y,d=>by simp[ir]at d; exact d▸h
 |z::p,k,y,d=>by
  simp only[ir]at d;cases v:lt x z with
  |true=>
   rw[v]at d;rcases c_.1 d with rfl|d
   grind
   ·exact GU h (fun y d=>k y (dh _ d)) y d
  |false=>
   grind
theorem SQ{α:Type}(lt:α->α->Bool):∀(p r:List α),(l4 lt p r).length=p.length+r.length
 |p,[]=>rfl
 |p,x::r=>by simp only[l4,SQ lt,yZ,cz]; omega
theorem SR{α:Type}{Q:α->Prop}{lt:α->α->Bool}:∀{r p:List α},(∀ y∈p,Q y)->(∀ y∈r,Q y)->∀ y∈l4 lt p r,Q y
 |[],_,d,_=>d
 |x::r,p,d,hr=>by
  simp only[l4];exact SR (GU (hr x dx) d) fun y h=>hr y (dh _ h)
theorem y8(lt:α->α->Bool)(l:List α):(eP lt l).length=l.length:=by simp[eP,SQ]
theorem afh{Q:α->Prop}{lt:α->α->Bool}{l:List α}(h:∀y∈l,Q y):∀y∈eP lt l,Q y:=by
 intro y d;exact SR (p:=[]) au h y (by simpa[eP]using d)
theorem CK:∀(K:List Kd) (r:LG),(bg K r).length=K.length
 |[],_=>rfl
 |k::K,r=>by simp[bg,CK K]
theorem y9{r d:LG}(h:d.length=K.length):eh K r 0 d=d:=by
 simp[eh,h,KQ,List.drop_eq_nil_of_le]
section
variable {K:List Kd} {C:LG->Option LG} {Q:LG->Prop} {c:LG->LG->Int}
structure y_ (K:List Kd) (C:LG->Option LG) (Q:LG->Prop) (c:LG->LG->Int):Prop where
 cmp:∀r s,Q r->Q s->C [.l [r],.l [s]]=some [.i (c r s)]
 eta:∀r,Q r->bg K r=r
def cr(c:LG->LG->Int)(r s:LG):Bool:=aN (c r s) 0
theorem SS(hC:y_ K C Q c):∀(p q:LL) (x:LG) (b i:Int) (j:Nat),(∀y∈p,Q y)->Q x->p.length<1000000->j=p.length ->
  ∃m,m<=p.length+1/\jH (CJ K C) m [.l (p.reverse++x::q),.i 0,.i b,.i i,.i (j:Int)] 0 [.l ((ir (cr c) x p).reverse++q),.i 0,.i b,.i i]
 |[],q,x,b,i,j,_,_,_,d=>by
  simp only[km]at d;subst d;refine⟨1,au,.stop (aa.toEq ?_)⟩;unfold CJ
  (dsimp only[go_sem])
  refine aa.n (aa.p (aa.some ?_));rfl
 |y::p,q,x,b,i,j,N,h,hl,d=>by
  have v:=N y dx;have O:(y::p).reverse++x::q=(p.reverse++[y])++x::q:=au;have e2:(y::p).reverse++x::q=p.reverse++y::x::q:=au;simp only[cz]at hl d;have U:((y::p).reverse++x::q).getD (0+(j:Int).toNat) []=x:=by rw[O]; grind
  have W:((y::p).reverse++x::q).getD (0+((j:Int)-1).toNat) []=y:=by rw[e2]; simp_all
  have I:((y::p).reverse++x::q).length=p.length+q.length+2:=bS;have M:=hC.cmp x y h v;cases k:cr c x y with
  |false=>
   refine⟨1,au,.stop (aa.toEq ?_)⟩;unfold CJ
   (dsimp only[go_sem])
   simp only[I,U,W,hC.eta x h,hC.eta y v];refine aa.p (aa.p (aa.p (aa.p (aa.p (aa.p (aa.call (aa.eq M) ?_))))));rintro _ rfl
   (dsimp only[go_sem])
   refine aa.neg k (aa.p (aa.some ?_));simp[ir,k]
  |true=>
   obtain⟨m,hm,hr⟩:=SS hC p (y::q) x b i (j-1) (fun z hz=>N z (dh _ hz)) h ab ab;refine⟨m+1,bS,.next (aa.toEq ?_) (by
    have e:(ir (cr c) x (y::p)).reverse++q=(ir (cr c) x p).reverse++y::q:=by simp[ir,k]
    rw[e]; exact hr)⟩
   have s1:((y::p).reverse++x::q).set (0+(j:Int).toNat) y=p.reverse++y::y::q:=by
    rw[O,GS _ _ _ _ _ (by simp[d])]; simp
   have s2:(p.reverse++y::y::q).set (0+((j:Int)-1).toNat) x=p.reverse++x::y::q:=GS _ _ _ _ _ (by simp[d]);have hl2:(p.reverse++y::y::q).length=p.length+q.length+2:=bS;have hl3:(p.reverse++x::y::q).length=p.length+q.length+2:=bS;have ky:y.length=K.length:=by rw[<-hC.eta y v,CK]
   have kx:x.length=K.length:=by rw[<-hC.eta x h,CK]
   unfold CJ
   (dsimp only[go_sem])
   simp only[I,U,W,hC.eta x h,hC.eta y v,y9 ky,y9 kx,s1,s2,hl2,hl3];refine aa.p (aa.p (aa.p (aa.p (aa.p (aa.p (aa.call (aa.eq M) ?_))))));rintro _ rfl
   (dsimp only[go_sem])
   refine aa.pos k ?_;refine aa.p (aa.p (aa.p (aa.p (aa.p (aa.p (aa.p (aa.p (aa.p (aa.p (aa.p (aa.p (aa.some ?_))))))))))))
   simp_all
theorem SU(hC:y_ K C Q c):∀(r p:LL) (i n:Nat),(∀y∈p,Q y)->(∀y∈r,Q y)->i=p.length->n=p.length+r.length->n<100000 ->
  ∃m,m<=r.length+1/\jH (yY K C) m [.l (p.reverse++r),.i 0,.i (n:Int),.i (i:Int)] 0 [.l (l4 (cr c) p r).reverse]
 |[],p,i,n,_,_,hi,hn,d=>by
  refine⟨1,au,.stop (aa.toEq ?_)⟩;simp only[km]at hn;unfold yY
  (dsimp only[go_sem])
  refine aa.n (aa.some ?_);simp[l4]
 |x::r,p,i,n,h,hr,hi,hn,d=>by
  simp only[cz]at hn;obtain⟨k,M,h1⟩:=SS hC p r x (n:Int) (i:Int) i h (hr x dx) ab hi;obtain⟨m,hm,v⟩:=SU hC r (ir (cr c) x p) (i+1) n (GU (hr x dx) h) (fun y I=>hr y (dh _ I)) (by rw[yZ,hi]) (by rw[yZ]; omega) d;refine⟨m+1,bS,.next (aa.toEq ?_) v⟩;unfold yY
  (dsimp only[go_sem])
  refine aa.p (aa.loop (P:=fun x g=>g=_) ⟨k,0,_,h1,ab,rfl⟩ fg ?_);rintro _ _ rfl
  (dsimp only[go_sem])
  refine aa.p (aa.p (aa.some ?_));rfl
theorem afi(hC:y_ K C Q c)(rZ:LL)(hr:∀y∈rZ,Q y)(hn:rZ.length<100000):qZ K C [.l rZ,.i 0,.i (rZ.length:Int)]=some [.l (eP (cr c) rZ)]:=by
 refine aa.toEq ?_;unfold qZ
 (dsimp only[go_sem])
 refine aa.p ?_;cases rZ with
 |nil=>
  refine aa.loop (P:=fun x g=>g=[.l []]) ⟨1,0,_,.stop (aa.toEq (?_:aa _ (fun g=>g=(some 0,[G.l []])))),ab,rfl⟩ fg ?_
  ·unfold yY
   (dsimp only[go_sem])
   exact aa.n (aa.some rfl)
  ·rintro _ _ rfl
   exact aa.some rfl
 |cons x r=>
  simp only[cz]at hn;obtain⟨m,hm,h⟩:=SU hC r [x] 1 (r.length+1) (by simpa using hr x dx) (fun y d=>hr y (dh _ d)) rfl bS ab;refine aa.loop (P:=fun y g=>g=_) ⟨m,0,_,h,ab,rfl⟩ fg ?_;rintro _ _ rfl;exact aa.some rfl
theorem afj(rZ:LL)(a b:Nat)(h:b<=a)(hn:a<100000):qZ K C [.l rZ,.i (a:Int),.i (b:Int)]=some [.l rZ]:=by
 refine aa.toEq ?_;unfold qZ
 (dsimp only[go_sem])
 refine aa.p ?_;refine aa.loop (P:=fun x g=>g=[.l rZ]) ⟨1,0,_,.stop (aa.toEq (?_:aa _ (fun g=>g=(some 0,[G.l rZ])))),ab,rfl⟩ fg ?_
 ·unfold yY
  (dsimp only[go_sem])
  exact aa.n (aa.some rfl)
 ·rintro _ _ rfl
  exact aa.some rfl
theorem afk(hC:y_ K C Q c)(rZ:LL)(hr:∀y∈rZ,Q y)(hn:rZ.length<=20):GR K C [.l rZ,.i (rZ.length:Int)]=some [.l (eP (cr c) rZ)]:=by
 refine aa.toEq ?_;unfold GR
 (dsimp only[go_sem])
 have d:=afi hC rZ hr ab;have k:=y8 (cr c) rZ;have I:∀h:LL,h.length=rZ.length->kT (Mx K C) [.l h,.i (rZ.length:Int),.i 20] fun _ g=>g=[.l h]:=by
  intro h O;refine kT.stop (x:=0) (aa.toEq ?_) rfl;unfold Mx
  (dsimp only[go_sem])
  exact aa.n (aa.some rfl)
 by_cases v:rZ.length=20
 ·have h1:wR K C [.l rZ,.i (rZ.length:Int),.i 20,.i 0,.i 20]=some (none,[.l (eP (cr c) rZ),.i (rZ.length:Int),.i 20,.i 20,.i 40]):=by
   refine aa.toEq ?_;unfold wR
   (dsimp only[go_sem])
   have d:qZ K C [.l rZ,.i 0,.i 20]=some [.l (eP (cr c) rZ)]:=by rw[v]at d; exact d
   refine aa.p (aa.jx (aa.eq d) fg ?_);rintro _ rfl
   (dsimp only[go_sem])
   exact aa.p (aa.p (aa.some rfl))
  have M:wR K C [.l (eP (cr c) rZ),.i (rZ.length:Int),.i 20,.i 20,.i 40]=some (some 0,[.l (eP (cr c) rZ),.i (rZ.length:Int),.i 20,.i 20]):=by
   refine aa.toEq ?_;unfold wR
   (dsimp only[go_sem])
   exact aa.n (aa.p (aa.some rfl))
  refine aa.loop (P:=fun x g=>g=_) ⟨2,0,_,.next h1 (.stop M),ab,rfl⟩ fg ?_;rintro _ _ rfl
  (dsimp only[go_sem])
  have N:qZ K C [.l (eP (cr c) rZ),.i 20,.i (rZ.length:Int)]=some [.l (eP (cr c) rZ)]:=by
   rw[v]; exact afj _ 20 20 ab ab
  refine aa.jx (aa.eq N) fg ?_;rintro _ rfl
  (dsimp only[go_sem])
  refine aa.loop (I _ k) fg ?_;rintro _ _ rfl;exact aa.some rfl
 ·have h1:wR K C [.l rZ,.i (rZ.length:Int),.i 20,.i 0,.i 20]=some (some 0,[.l rZ,.i (rZ.length:Int),.i 20,.i 0]):=by
   refine aa.toEq ?_;unfold wR
   (dsimp only[go_sem])
   exact aa.n (aa.p (aa.some rfl))
  refine aa.loop (P:=fun x g=>g=_) ⟨1,0,_,.stop h1,ab,rfl⟩ fg ?_;rintro _ _ rfl
  (dsimp only[go_sem])
  refine aa.jx (aa.eq d) fg ?_;rintro _ rfl
  (dsimp only[go_sem])
  refine aa.loop (I _ k) fg ?_;rintro _ _ rfl;exact aa.some rfl
theorem afl(hC:y_ K C Q c)(rZ:LL)(hr:∀y∈rZ,Q y)(hn:rZ.length<=20):SP K C [.l rZ]=some [.l (eP (cr c) rZ)]:=by
 refine aa.toEq ?_;unfold SP
 (dsimp only[go_sem])
 refine aa.jx (aa.eq (afk hC rZ hr hn)) fg ?_;rintro _ rfl;exact aa.some rfl
end
def uv(K:List Kd)(Z:LG)(d:LG):bp:=
 (bif (aN (gi d 4).iV (((gi d 3).iV.toNat:Nat):Int)) then (bif ((cO (gi d 4).iV)&&(aN (gi d 4).iV (((gi d 3).iV.toNat:Nat):Int))) then (bif (decide (((gi d 2).iV.toNat+((gi d 4).iV).toNat)<(gi d 0).rZ.length)) then (bif (aA ((gi d 4).iV-1)) then (bif ((cO ((gi d 4).iV-1))&&(aN ((gi d 4).iV-1) (((gi d 3).iV.toNat:Nat):Int))) then (bif (decide (((gi d 2).iV.toNat+((gi d 4).iV-1).toNat)<(gi d 0).rZ.length)) then (bif (!(aZ K (bg K ((gi d 0).rZ.getD ((gi d 2).iV.toNat+((gi d 4).iV).toNat) [])) (bg K ((gi d 0).rZ.getD ((gi d 2).iV.toNat+((gi d 4).iV-1).toNat) [])))) then (bif ((cO (gi d 4).iV)&&(aN (gi d 4).iV (((gi d 3).iV.toNat:Nat):Int))) then (bif (decide (((gi d 2).iV.toNat+((gi d 4).iV).toNat)<(gi d 0).rZ.length)) then (bif ((cO (gi d 1).iV)&&(aN (gi d 1).iV (((gi d 0).rZ.length:Nat):Int))) then (bif (decide ((0+((gi d 1).iV).toNat)<(gi d 0).rZ.length)) then (bif (aA ((gi d 1).iV+1)) then (bif (aA ((gi d 4).iV+1)) then (bif ((aD (gi d 0).rZ.length ((gi d 0).rZ.set (0+((gi d 1).iV).toNat) (eh K ((gi d 0).rZ.getD (0+((gi d 1).iV).toNat) []) 0 (bg K ((gi d 0).rZ.getD ((gi d 2).iV.toNat+((gi d 4).iV).toNat) [])))).length)&&true) then some (none,[.l ((gi d 0).rZ.set (0+((gi d 1).iV).toNat) (eh K ((gi d 0).rZ.getD (0+((gi d 1).iV).toNat) []) 0 (bg K ((gi d 0).rZ.getD ((gi d 2).iV.toNat+((gi d 4).iV).toNat) [])))),.i ((gi d 1).iV+1),.i (((gi d 2).iV.toNat:Nat):Int),.i (((gi d 3).iV.toNat:Nat):Int),.i ((gi d 4).iV+1)]) else none) else none) else none) else none) else none) else none) else none) else (bif (aA ((gi d 4).iV+1)) then (bif ((aD (gi d 0).rZ.length (gi d 0).rZ.length)&&true) then some (none,[.l (gi d 0).rZ,.i (gi d 1).iV,.i (((gi d 2).iV.toNat:Nat):Int),.i (((gi d 3).iV.toNat:Nat):Int),.i ((gi d 4).iV+1)]) else none) else none)) else none) else none) else none) else none) else none) else (bif ((aD (gi d 0).rZ.length (gi d 0).rZ.length)&&true) then some (some 0,[.l (gi d 0).rZ,.i (gi d 1).iV]) else none))
def su(K:List Kd)(Z:LG)(d:LG):bp:=
 (bif (aN (gi d 1).iV (((gi d 0).rZ.length:Nat):Int)) then (bif ((cO (gi d 1).iV)&&(aN (gi d 1).iV (((gi d 0).rZ.length:Nat):Int))) then (bif (decide ((0+((gi d 1).iV).toNat)<(gi d 0).rZ.length)) then (bif (aA ((gi d 1).iV-1)) then (bif ((cO ((gi d 1).iV-1))&&(aN ((gi d 1).iV-1) (((gi d 0).rZ.length:Nat):Int))) then (bif (decide ((0+((gi d 1).iV-1).toNat)<(gi d 0).rZ.length)) then (bif (aZ K (bg K ((gi d 0).rZ.getD (0+((gi d 1).iV).toNat) [])) (bg K ((gi d 0).rZ.getD (0+((gi d 1).iV-1).toNat) []))) then (bif ((cO (gi d 1).iV)&&(bq (gi d 1).iV (((gi d 0).rZ.length:Nat):Int))) then (be ((aD (gi d 0).rZ.length (gi d 0).rZ.length)&&true) (bR (uv K Z) [.l (gi d 0).rZ,.i (gi d 1).iV,.i (((0+((gi d 1).iV).toNat):Nat):Int),.i ((((gi d 0).rZ.length-((gi d 1).iV).toNat):Nat):Int),.i 1]) fun k h=>(bif ((cO (gi h 1).iV)&&(bq (gi h 1).iV (((gi h 0).rZ.length:Nat):Int))) then (bif (dv ((0+((gi h 1).iV).toNat)+((gi h 0).rZ.length-((gi h 1).iV).toNat)) (gi h 0).rZ.length) then (bif ((cO (gi h 1).iV)&&(bq (gi h 1).iV (((gi h 0).rZ.length:Nat):Int))) then some (some 0,[.l ((gi h 0).rZ.take (0+((gi h 1).iV).toNat)++cn ((gi h 0).rZ.length-((gi h 1).iV).toNat) Z++(gi h 0).rZ.drop ((0+((gi h 1).iV).toNat)+((gi h 0).rZ.length-((gi h 1).iV).toNat))),.i (((((gi h 1).iV).toNat-0):Nat):Int)]) else none) else none) else none)) else none) else (bif (aA ((gi d 1).iV+1)) then (bif ((aD (gi d 0).rZ.length (gi d 0).rZ.length)&&true) then some (none,[.l (gi d 0).rZ,.i ((gi d 1).iV+1)]) else none) else none)) else none) else none) else none) else none) else none) else (bif ((aD (gi d 0).rZ.length (gi d 0).rZ.length)&&true) then some (some 1,[.l (gi d 0).rZ]) else none))
def CL(K:List Kd)(Z:LG)(d:LG):Option LG:=
 (bif (aN (((gi d 0).rZ.length:Nat):Int) 2) then some [.l (gi d 0).rZ,.i (((gi d 0).rZ.length:Nat):Int)] else (be ((aD (gi d 0).rZ.length (gi d 0).rZ.length)&&true) (bR (su K Z) [.l (gi d 0).rZ,.i 1]) fun k h=>(bif aD k 0 then some [.l (gi h 0).rZ,.i (((gi h 1).iV.toNat:Nat):Int)] else some [.l (gi h 0).rZ,.i (((gi h 0).rZ.length:Nat):Int)])))
def za(K:List Kd)(C:LG->Option LG)(Z:LG)(d:LG):bp:=
 (bif (aN (gi d 4).iV (((gi d 3).iV.toNat:Nat):Int)) then (bif ((cO (gi d 4).iV)&&(aN (gi d 4).iV (((gi d 3).iV.toNat:Nat):Int))) then (bif (decide (((gi d 2).iV.toNat+((gi d 4).iV).toNat)<(gi d 0).rZ.length)) then (bif (aA ((gi d 4).iV-1)) then (bif ((cO ((gi d 4).iV-1))&&(aN ((gi d 4).iV-1) (((gi d 3).iV.toNat:Nat):Int))) then (bif (decide (((gi d 2).iV.toNat+((gi d 4).iV-1).toNat)<(gi d 0).rZ.length)) then (aI (C [.l [(bg K ((gi d 0).rZ.getD ((gi d 2).iV.toNat+((gi d 4).iV).toNat) []))],.l [(bg K ((gi d 0).rZ.getD ((gi d 2).iV.toNat+((gi d 4).iV-1).toNat) []))]]) fun h=>(bif (!(gi h 0).bV) then (bif ((cO (gi d 4).iV)&&(aN (gi d 4).iV (((gi d 3).iV.toNat:Nat):Int))) then (bif (decide (((gi d 2).iV.toNat+((gi d 4).iV).toNat)<(gi d 0).rZ.length)) then (bif ((cO (gi d 1).iV)&&(aN (gi d 1).iV (((gi d 0).rZ.length:Nat):Int))) then (bif (decide ((0+((gi d 1).iV).toNat)<(gi d 0).rZ.length)) then (bif (aA ((gi d 1).iV+1)) then (bif (aA ((gi d 4).iV+1)) then (bif ((aD (gi d 0).rZ.length ((gi d 0).rZ.set (0+((gi d 1).iV).toNat) (eh K ((gi d 0).rZ.getD (0+((gi d 1).iV).toNat) []) 0 (bg K ((gi d 0).rZ.getD ((gi d 2).iV.toNat+((gi d 4).iV).toNat) [])))).length)&&true) then some (none,[.l ((gi d 0).rZ.set (0+((gi d 1).iV).toNat) (eh K ((gi d 0).rZ.getD (0+((gi d 1).iV).toNat) []) 0 (bg K ((gi d 0).rZ.getD ((gi d 2).iV.toNat+((gi d 4).iV).toNat) [])))),.i ((gi d 1).iV+1),.i (((gi d 2).iV.toNat:Nat):Int),.i (((gi d 3).iV.toNat:Nat):Int),.i ((gi d 4).iV+1)]) else none) else none) else none) else none) else none) else none) else none) else (bif (aA ((gi d 4).iV+1)) then (bif ((aD (gi d 0).rZ.length (gi d 0).rZ.length)&&true) then some (none,[.l (gi d 0).rZ,.i (gi d 1).iV,.i (((gi d 2).iV.toNat:Nat):Int),.i (((gi d 3).iV.toNat:Nat):Int),.i ((gi d 4).iV+1)]) else none) else none))) else none) else none) else none) else none) else none) else (bif ((aD (gi d 0).rZ.length (gi d 0).rZ.length)&&true) then some (some 0,[.l (gi d 0).rZ,.i (gi d 1).iV]) else none))
def wS(K:List Kd)(C:LG->Option LG)(Z:LG)(d:LG):bp:=
 (bif (aN (gi d 1).iV (((gi d 0).rZ.length:Nat):Int)) then (bif ((cO (gi d 1).iV)&&(aN (gi d 1).iV (((gi d 0).rZ.length:Nat):Int))) then (bif (decide ((0+((gi d 1).iV).toNat)<(gi d 0).rZ.length)) then (bif (aA ((gi d 1).iV-1)) then (bif ((cO ((gi d 1).iV-1))&&(aN ((gi d 1).iV-1) (((gi d 0).rZ.length:Nat):Int))) then (bif (decide ((0+((gi d 1).iV-1).toNat)<(gi d 0).rZ.length)) then (aI (C [.l [(bg K ((gi d 0).rZ.getD (0+((gi d 1).iV).toNat) []))],.l [(bg K ((gi d 0).rZ.getD (0+((gi d 1).iV-1).toNat) []))]]) fun k=>(bif (gi k 0).bV then (bif ((cO (gi d 1).iV)&&(bq (gi d 1).iV (((gi d 0).rZ.length:Nat):Int))) then (be ((aD (gi d 0).rZ.length (gi d 0).rZ.length)&&true) (bR (za K C Z) [.l (gi d 0).rZ,.i (gi d 1).iV,.i (((0+((gi d 1).iV).toNat):Nat):Int),.i ((((gi d 0).rZ.length-((gi d 1).iV).toNat):Nat):Int),.i 1]) fun v h=>(bif ((cO (gi h 1).iV)&&(bq (gi h 1).iV (((gi h 0).rZ.length:Nat):Int))) then (bif (dv ((0+((gi h 1).iV).toNat)+((gi h 0).rZ.length-((gi h 1).iV).toNat)) (gi h 0).rZ.length) then (bif ((cO (gi h 1).iV)&&(bq (gi h 1).iV (((gi h 0).rZ.length:Nat):Int))) then some (some 0,[.l ((gi h 0).rZ.take (0+((gi h 1).iV).toNat)++cn ((gi h 0).rZ.length-((gi h 1).iV).toNat) Z++(gi h 0).rZ.drop ((0+((gi h 1).iV).toNat)+((gi h 0).rZ.length-((gi h 1).iV).toNat))),.i (((((gi h 1).iV).toNat-0):Nat):Int)]) else none) else none) else none)) else none) else (bif (aA ((gi d 1).iV+1)) then (bif ((aD (gi d 0).rZ.length (gi d 0).rZ.length)&&true) then some (none,[.l (gi d 0).rZ,.i ((gi d 1).iV+1)]) else none) else none))) else none) else none) else none) else none) else none) else (bif ((aD (gi d 0).rZ.length (gi d 0).rZ.length)&&true) then some (some 1,[.l (gi d 0).rZ]) else none))
def SV(K:List Kd)(C:LG->Option LG)(Z:LG)(d:LG):Option LG:=
 (bif (aN (((gi d 0).rZ.length:Nat):Int) 2) then some [.l (gi d 0).rZ,.i (((gi d 0).rZ.length:Nat):Int)] else (be ((aD (gi d 0).rZ.length (gi d 0).rZ.length)&&true) (bR (wS K C Z) [.l (gi d 0).rZ,.i 1]) fun k h=>(bif aD k 0 then some [.l (gi h 0).rZ,.i (((gi h 1).iV.toNat:Nat):Int)] else some [.l (gi h 0).rZ,.i (((gi h 0).rZ.length:Nat):Int)])))
def cw{α:Type}(e:α->α->Bool):α->List α->List α
 |_,[]=>[]
 |y,x::q=>bif e x y then cw e x q else x::cw e x q
def eC(e:α->α->Bool):List α->List α
 |[]=>[]
 |x::q=>x::cw e x q
theorem SX{α:Type}(e:α->α->Bool):∀(q:List α) (y:α),(cw e y q).length<=q.length
 |[],_=>aV _
 |x::q,y=>by
  have:=SX e q x
  grind[cw]
theorem My{α:Type}{e:α->α->Bool}:∀{q:List α} {y z:α},z∈cw e y q->z∈q
 |x::q,y,z,h=>by
  simp only[cw]at h;cases he:e x y with
  |true=>rw[he]at h; exact dh _ (My h)
  |false=>
   rw[he]at h;rcases c_.1 h with rfl|h
   grind
   ·exact dh _ (My h)
theorem Mz{e:α->α->Bool}:∀{l:List α} {z:α},z∈eC e l->z∈l
 |x::q,z,h=>by
  rcases c_.1 h with rfl|h<;>grind[My]
theorem afm(e:α->α->Bool):∀ l:List α,(eC e l).length<=l.length
 |[]=>aV _
 |x::q=>by have:=SX e q x; simp[eC]; omega
section
variable {K:List Kd} {Z:LG} {Q:LG->Prop}
structure GV (K:List Kd) (Q:LG->Prop):Prop where
 eta:∀r,Q r->bg K r=r
theorem MA(hC:GV K Q):∀(q kept M:LL) (y:LG) (lo len k:Nat),(∀z∈kept++M++y::q,Q z)->lo+k=kept.length+M.length+1->k+q.length=len->kept.length+M.length+q.length<100000->1<=k ->
  ∃m J,m<=q.length+1/\(kept++cw (aZ K) y q++J).length=kept.length+M.length+1+q.length/\jH (uv K Z) m [.l (kept++M++y::q),.i (kept.length:Int),.i (lo:Int),.i (len:Int),.i (k:Int)] 0 [.l (kept++cw (aZ K) y q++J),.i ((kept++cw (aZ K) y q).length:Int)]
 |[],kept,M,y,lo,len,k,I,h1,U,W,h4=>by
  refine⟨1,M++[y],au,by simp[cw]; omega,.stop (aa.toEq ?_)⟩;simp only[km]at U W;unfold uv
  (dsimp only[go_sem])
  (repeat first|refine aa.p ?_|refine aa.n ?_)
  grind[aa.some,cw]
 |x::q,kept,M,y,lo,len,k,I,h1,U,W,h4=>by
  simp only[cz]at U W;have hx:Q x:=I x au;have hy:Q y:=I y au;have g1:(kept++M++y::x::q).getD ((lo:Int).toNat+(k:Int).toNat) []=x:=by
   have e:kept++M++y::x::q=(kept++M++[y])++x::q:=au;rw[e]; grind[nD]
  have g2:(kept++M++y::x::q).getD ((lo:Int).toNat+((k:Int)-1).toNat) []=y:=nD _ _ _ _ _ bS;have hlen:(kept++M++y::x::q).length=kept.length+M.length+q.length+2:=bS;cases he:(aZ K) x y with
  |true=>
   obtain⟨m,J,hm,hJ,hr⟩:=MA hC q kept (M++[y]) x lo len (k+1) (by simpa using I) bS ab bS ab;have e:cw (aZ K) y (x::q)=cw (aZ K) x q:=by simp[cw,he]
   refine⟨m+1,J,bS,by rw[e,hJ]; simp; omega,.next (aa.toEq ?_) (by rw[e]; exact hr)⟩;unfold uv
   (dsimp only[go_sem])
   simp only[hlen,g1,g2,hC.eta x hx,hC.eta y hy];(repeat first|refine aa.p ?_|refine aa.n ?_)
   simp_all[aa.some]
  |false=>
   obtain⟨O,v,e1,e2⟩:∃O v,(kept++M++y::x::q).set kept.length x=O++v++x::q/\(O=kept++[x]/\v.length=M.length/\∀z∈v,z∈M++[y]):=by
    cases M with
    |nil=>exact⟨kept++[x],[],au,rfl,rfl,au⟩
    |cons z M=>exact⟨kept++[x],M++[y],au,rfl,au,by simp; intro z d; rcases d with d|d<;>simp[d]⟩
   obtain⟨e2,N,e4⟩:=e2;subst e2;obtain⟨m,J,hm,hJ,hr⟩:=MA hC q (kept++[x]) v x lo len (k+1) (by
    intro z d;simp only[dm,c_]at d;rcases d with((d|d)|d)|d|d
    grind
    grind
    ·have:=e4 z d
     simp only[dm,c_]at this;rcases this with h|h|h<;>simp_all
    grind
    simp_all) (by simp[N]; omega) ab (by simp[N]; omega) ab
   have e:kept++cw (aZ K) y (x::q)=(kept++[x])++cw (aZ K) x q:=by simp[cw,he]
   refine⟨m+1,J,bS,by rw[e,hJ]; simp[N]; omega,.next (aa.toEq ?_) (by rw[e]; exact hr)⟩;have kx:x.length=K.length:=by rw[<-hC.eta x hx,CK]
   have hl2:((kept++[x])++v++x::q).length=kept.length+M.length+q.length+2:=by simp[N]; omega
   have e1:(kept++M++y::x::q).set (0+(kept.length:Int).toNat) x=(kept++[x])++v++x::q:=Ba;unfold uv
   (dsimp only[go_sem])
   simp only[hlen,g1,g2,hC.eta x hx,hC.eta y hy,y9 kx,e1,hl2];(repeat first|refine aa.p ?_|refine aa.n ?_)
   simp_all[aa.some]
theorem SY(hC:GV K Q):∀(q p:LL) (y:LG),(∀z∈p++y::q,Q z)->p.length+q.length<99999 ->
  (∃m,m<=q.length+1/\cw (aZ K) y q=q/\jH (su K Z) m [.l (p++y::q),.i ((p.length:Int)+1)] 1 [.l (p++y::q)]) \/
  ∃m J,m<=q.length+1/\(p++y::cw (aZ K) y q++J).length=p.length+1+q.length/\jH (su K Z) m [.l (p++y::q),.i ((p.length:Int)+1)] 0 [.l (p++y::cw (aZ K) y q++J),.i ((p++y::cw (aZ K) y q).length:Int)]
 |[],p,y,d,h=>by
  refine .inl ⟨1,au,rfl,.stop (aa.toEq ?_)⟩;simp only[km]at h;unfold su
  (dsimp only[go_sem])
  (repeat first|refine aa.p ?_|refine aa.n ?_)
  grind[aa.some]
 |x::q,p,y,d,h=>by
  simp only[cz]at h;have M:Q x:=d x au;have N:Q y:=d y au;have O:(p++y::x::q).getD (0+((p.length:Int)+1).toNat) []=x:=by
   have e:p++y::x::q=(p++[y])++x::q:=au;rw[e]; grind
  have U:(p++y::x::q).getD (0+((p.length:Int)+1-1).toNat) []=y:=nD _ _ _ _ _ (by simp<;>omega);have v:(p++y::x::q).length=p.length+q.length+2:=bS;cases he:(aZ K) x y with
  |true=>
   obtain⟨m,J,hm,k,hr⟩:=MA hC q (p++[y]) [] x (p.length+1) (q.length+1) 1 (by simpa using d) au ab bS ab;have e:p++y::cw (aZ K) y (x::q)=(p++[y])++cw (aZ K) x q:=by simp[cw,he]
   have I:(((p++[y])++cw (aZ K) x q)++J).length=p.length+q.length+2:=by rw[k]; simp; omega
   have W:((p++[y])++cw (aZ K) x q).length<=p.length+q.length+2:=by rw[<-I]; simp
   have hr':jH (uv K Z) m [.l (p++y::x::q),.i ((p.length:Int)+1),.i ((0+((p.length:Int)+1).toNat:Nat):Int),.i ((p.length+q.length+2-((p.length:Int)+1).toNat:Nat):Int),.i 1] 0 [.l ((p++[y])++cw (aZ K) x q++J),.i (((p++[y])++cw (aZ K) x q).length:Int)]:=by
    have a1:(((p++[y]).length:Nat):Int)=(p.length:Int)+1:=au;have a2:((p.length+1:Nat):Int)=((0+((p.length:Int)+1).toNat:Nat):Int):=ab;have a3:((q.length+1:Nat):Int)=((p.length+q.length+2-((p.length:Int)+1).toNat:Nat):Int):=ab;rw[a1,a2,a3]at hr;simpa using hr
   refine .inr ⟨1,cn (p.length+q.length+2-((p++[y])++cw (aZ K) x q).length) Z,au,by rw[e,fV,vt]; simp at W|-; omega,.stop (aa.toEq ?_)⟩;rw[e];generalize hw:(p++[y])++cw (aZ K) x q=w at *;unfold su
   (dsimp only[go_sem])
   simp only[v,O,U,hC.eta x M,hC.eta y N];(repeat first|refine aa.p ?_|refine aa.n ?_)
   try simp only[he]
   (repeat first|refine aa.p ?_|refine aa.n ?_);refine aa.loop (P:=fun x g=>g=_) ⟨m,0,_,hr',ab,rfl⟩ fg ?_;rintro _ _ rfl
   (dsimp only[go_sem])
   simp only[I];(repeat first|refine aa.p ?_|refine aa.n ?_)
   simp_all[aa.some]
  |false=>
   have e:cw (aZ K) y (x::q)=x::cw (aZ K) x q:=by simp[cw,he]
   have key:su K Z [.l (p++y::x::q),.i ((p.length:Int)+1)]=some (none,[.l ((p++[y])++x::q),.i ((((p++[y]).length:Nat):Int)+1)]):=by
    refine aa.toEq ?_;unfold su
    (dsimp only[go_sem])
    simp only[v,O,U,hC.eta x M,hC.eta y N];(repeat first|refine aa.p ?_|refine aa.n ?_)
    try simp only[he]
    (repeat first|refine aa.p ?_|refine aa.n ?_);refine aa.some ?_;simp
   rcases SY hC q (p++[y]) x (by simpa using d) bS with⟨m,hm,hc,hr⟩|⟨m,J,hm,k,hr⟩
   ·refine .inl ⟨m+1,bS,by rw[e,hc],.next key ?_⟩
    grind
   ·have e':p++y::cw (aZ K) y (x::q)=(p++[y])++x::cw (aZ K) x q:=by rw[e]; simp
    refine .inr ⟨m+1,J,bS,by rw[e',k]; simp; omega,.next key ?_⟩
    grind
theorem afn(hC:GV K Q)(rZ:LL)(hr:∀y∈rZ,Q y)(hn:rZ.length<99999):aa (CL K Z [.l rZ]) fun g=>∃J,g=[.l (eC (aZ K) rZ++J),.i ((eC (aZ K) rZ).length:Int)]/\(eC (aZ K) rZ++J).length=rZ.length:=by
 unfold CL
 (dsimp only[go_sem])
 match rZ,hr,hn with
 |[],_,_=>exact aa.p (aa.some ⟨[],rfl,rfl⟩)
 |[x],_,_=>exact aa.p (aa.some ⟨[],rfl,rfl⟩)
 |y::x::q,hr,hn=>
  simp only[cz]at hn;refine aa.n ?_;rcases SY hC (x::q) [] y (by simpa using hr) bS with⟨m,hm,d,hr⟩|⟨m,J,hm,h,hr⟩
  ·refine aa.loop (P:=fun x g=>x=1/\g=_) ⟨m,1,_,hr,by simp at hm; omega,rfl,rfl⟩ fg ?_
   rintro _ _ ⟨rfl,rfl⟩;refine aa.n (aa.some ⟨[],?_,?_⟩)
   ·(dsimp only[go_sem])
    simp[eC,d]
   ·simp[eC,d]
  ·refine aa.loop (P:=fun x g=>x=0/\g=_) ⟨m,0,_,hr,by simp at hm; omega,rfl,rfl⟩ fg ?_
   rintro _ _ ⟨rfl,rfl⟩;refine aa.p (aa.some ⟨J,?_,?_⟩)
   ·(dsimp only[go_sem])
    simp[eC]
   grind[eC]
structure GW (K:List Kd) (C:LG->Option LG) (Q:LG->Prop) (e:LG->LG->Bool):Prop where
 cmp:∀r s,Q r->Q s->C [.l [r],.l [s]]=some [.t (e r s)]
 eta:∀r,Q r->bg K r=r
variable {C:LG->Option LG} {ee:LG->LG->Bool}
theorem MB(hC:GW K C Q ee):∀(q kept M:LL) (y:LG) (lo len k:Nat),(∀z∈kept++M++y::q,Q z)->lo+k=kept.length+M.length+1->k+q.length=len->kept.length+M.length+q.length<100000->1<=k ->
  ∃m J,m<=q.length+1/\(kept++cw ee y q++J).length=kept.length+M.length+1+q.length/\jH (za K C Z) m [.l (kept++M++y::q),.i (kept.length:Int),.i (lo:Int),.i (len:Int),.i (k:Int)] 0 [.l (kept++cw ee y q++J),.i ((kept++cw ee y q).length:Int)]
 |[],kept,M,y,lo,len,k,N,h1,h2,h3,h4=>by
  refine⟨1,M++[y],au,by simp[cw]; omega,.stop (aa.toEq ?_)⟩;simp only[km]at h2 h3;unfold za
  (dsimp only[go_sem])
  (repeat first|refine aa.p ?_|refine aa.n ?_)
  grind[aa.some,cw]
 |x::q,kept,M,y,lo,len,k,N,h1,h2,h3,h4=>by
  simp only[cz]at h2 h3;have I:Q x:=N x au;have O:Q y:=N y au;have g1:(kept++M++y::x::q).getD ((lo:Int).toNat+(k:Int).toNat) []=x:=by
   have e:kept++M++y::x::q=(kept++M++[y])++x::q:=au;rw[e]; grind[nD]
  have g2:(kept++M++y::x::q).getD ((lo:Int).toNat+((k:Int)-1).toNat) []=y:=nD _ _ _ _ _ bS;have hlen:(kept++M++y::x::q).length=kept.length+M.length+q.length+2:=bS;cases he:ee x y with
  |true=>
   obtain⟨m,J,hm,hJ,hr⟩:=MB hC q kept (M++[y]) x lo len (k+1) (by simpa using N) bS ab bS ab;have e:cw ee y (x::q)=cw ee x q:=by simp[cw,he]
   refine⟨m+1,J,bS,by rw[e,hJ]; simp; omega,.next (aa.toEq ?_) (by rw[e]; exact hr)⟩;unfold za
   (dsimp only[go_sem])
   simp only[hlen,g1,g2,hC.eta x I,hC.eta y O];(repeat first|refine aa.p ?_|refine aa.n ?_);refine aa.cE (hC.cmp x y I O) ?_
   (dsimp only[go_sem])
   try simp only[he]
   (repeat first|refine aa.p ?_|refine aa.n ?_)
   simp_all[aa.some]
  |false=>
   obtain⟨W,v,e1,e2⟩:∃W v,(kept++M++y::x::q).set kept.length x=W++v++x::q/\(W=kept++[x]/\v.length=M.length/\∀z∈v,z∈M++[y]):=by
    cases M with
    |nil=>exact⟨kept++[x],[],au,rfl,rfl,au⟩
    |cons z M=>exact⟨kept++[x],M++[y],au,rfl,au,by simp; intro z d; rcases d with d|d<;>simp[d]⟩
   obtain⟨e2,U,e4⟩:=e2;subst e2;obtain⟨m,J,hm,hJ,hr⟩:=MB hC q (kept++[x]) v x lo len (k+1) (by
    intro z d;simp only[dm,c_]at d;rcases d with((d|d)|d)|d|d
    grind
    grind
    ·have:=e4 z d
     simp only[dm,c_]at this;rcases this with h|h|h<;>simp_all
    grind
    simp_all) (by simp[U]; omega) ab (by simp[U]; omega) ab
   have e:kept++cw ee y (x::q)=(kept++[x])++cw ee x q:=by simp[cw,he]
   refine⟨m+1,J,bS,by rw[e,hJ]; simp[U]; omega,.next (aa.toEq ?_) (by rw[e]; exact hr)⟩;have kx:x.length=K.length:=by rw[<-hC.eta x I,CK]
   have hl2:((kept++[x])++v++x::q).length=kept.length+M.length+q.length+2:=by simp[U]; omega
   have e1:(kept++M++y::x::q).set (0+(kept.length:Int).toNat) x=(kept++[x])++v++x::q:=Ba;unfold za
   (dsimp only[go_sem])
   simp only[hlen,g1,g2,hC.eta x I,hC.eta y O,y9 kx,e1,hl2];(repeat first|refine aa.p ?_|refine aa.n ?_);refine aa.cE (hC.cmp x y I O) ?_
   (dsimp only[go_sem])
   try simp only[he]
   (repeat first|refine aa.p ?_|refine aa.n ?_)
   simp_all[aa.some]
theorem SZ(hC:GW K C Q ee):∀(q p:LL) (y:LG),(∀z∈p++y::q,Q z)->p.length+q.length<99999 ->
  (∃m,m<=q.length+1/\cw ee y q=q/\jH (wS K C Z) m [.l (p++y::q),.i ((p.length:Int)+1)] 1 [.l (p++y::q)]) \/
  ∃m J,m<=q.length+1/\(p++y::cw ee y q++J).length=p.length+1+q.length/\jH (wS K C Z) m [.l (p++y::q),.i ((p.length:Int)+1)] 0 [.l (p++y::cw ee y q++J),.i ((p++y::cw ee y q).length:Int)]
 |[],p,y,d,v=>by
  refine .inl ⟨1,au,rfl,.stop (aa.toEq ?_)⟩;simp only[km]at v;unfold wS
  (dsimp only[go_sem])
  (repeat first|refine aa.p ?_|refine aa.n ?_)
  grind[aa.some]
 |x::q,p,y,d,v=>by
  simp only[cz]at v;have h:Q x:=d x au;have k:Q y:=d y au;have O:(p++y::x::q).getD (0+((p.length:Int)+1).toNat) []=x:=by
   have e:p++y::x::q=(p++[y])++x::q:=au;rw[e]; grind
  have U:(p++y::x::q).getD (0+((p.length:Int)+1-1).toNat) []=y:=nD _ _ _ _ _ (by simp<;>omega);have M:(p++y::x::q).length=p.length+q.length+2:=bS;cases he:ee x y with
  |true=>
   obtain⟨m,J,hm,I,hr⟩:=MB hC q (p++[y]) [] x (p.length+1) (q.length+1) 1 (by simpa using d) au ab bS ab;have e:p++y::cw ee y (x::q)=(p++[y])++cw ee x q:=by simp[cw,he]
   have N:(((p++[y])++cw ee x q)++J).length=p.length+q.length+2:=by rw[I]; simp; omega
   have W:((p++[y])++cw ee x q).length<=p.length+q.length+2:=by rw[<-N]; simp
   have hr':jH (za K C Z) m [.l (p++y::x::q),.i ((p.length:Int)+1),.i ((0+((p.length:Int)+1).toNat:Nat):Int),.i ((p.length+q.length+2-((p.length:Int)+1).toNat:Nat):Int),.i 1] 0 [.l ((p++[y])++cw ee x q++J),.i (((p++[y])++cw ee x q).length:Int)]:=by
    have a1:(((p++[y]).length:Nat):Int)=(p.length:Int)+1:=au;have a2:((p.length+1:Nat):Int)=((0+((p.length:Int)+1).toNat:Nat):Int):=ab;have a3:((q.length+1:Nat):Int)=((p.length+q.length+2-((p.length:Int)+1).toNat:Nat):Int):=ab;rw[a1,a2,a3]at hr;simpa using hr
   refine .inr ⟨1,cn (p.length+q.length+2-((p++[y])++cw ee x q).length) Z,au,by rw[e,fV,vt]; simp at W|-; omega,.stop (aa.toEq ?_)⟩;rw[e];generalize hw:(p++[y])++cw ee x q=w at *;unfold wS
   (dsimp only[go_sem])
   simp only[M,O,U,hC.eta x h,hC.eta y k];(repeat first|refine aa.p ?_|refine aa.n ?_);refine aa.cE (hC.cmp x y h k) ?_
   (dsimp only[go_sem])
   try simp only[he]
   (repeat first|refine aa.p ?_|refine aa.n ?_);refine aa.loop (P:=fun x g=>g=_) ⟨m,0,_,hr',ab,rfl⟩ fg ?_;rintro _ _ rfl
   (dsimp only[go_sem])
   simp only[N];(repeat first|refine aa.p ?_|refine aa.n ?_)
   simp_all[aa.some]
  |false=>
   have e:cw ee y (x::q)=x::cw ee x q:=by simp[cw,he]
   have key:wS K C Z [.l (p++y::x::q),.i ((p.length:Int)+1)]=some (none,[.l ((p++[y])++x::q),.i ((((p++[y]).length:Nat):Int)+1)]):=by
    refine aa.toEq ?_;unfold wS
    (dsimp only[go_sem])
    simp only[M,O,U,hC.eta x h,hC.eta y k];(repeat first|refine aa.p ?_|refine aa.n ?_);refine aa.cE (hC.cmp x y h k) ?_
    (dsimp only[go_sem])
    try simp only[he]
    (repeat first|refine aa.p ?_|refine aa.n ?_);refine aa.some ?_;simp
   rcases SZ hC q (p++[y]) x (by simpa using d) bS with⟨m,hm,hc,hr⟩|⟨m,J,hm,I,hr⟩
   ·refine .inl ⟨m+1,bS,by rw[e,hc],.next key ?_⟩
    grind
   ·have e':p++y::cw ee y (x::q)=(p++[y])++x::cw ee x q:=by rw[e]; simp
    refine .inr ⟨m+1,J,bS,by rw[e',I]; simp; omega,.next key ?_⟩
    grind
theorem afo(hC:GW K C Q ee)(rZ:LL)(hr:∀y∈rZ,Q y)(hn:rZ.length<99999):aa (SV K C Z [.l rZ]) fun g=>∃J,g=[.l (eC ee rZ++J),.i ((eC ee rZ).length:Int)]/\(eC ee rZ++J).length=rZ.length:=by
 unfold SV
 (dsimp only[go_sem])
 match rZ,hr,hn with
 |[],_,_=>exact aa.p (aa.some ⟨[],rfl,rfl⟩)
 |[x],_,_=>exact aa.p (aa.some ⟨[],rfl,rfl⟩)
 |y::x::q,hr,hn=>
  simp only[cz]at hn;refine aa.n ?_;rcases SZ hC (x::q) [] y (by simpa using hr) bS with⟨m,hm,d,hr⟩|⟨m,J,hm,h,hr⟩
  ·refine aa.loop (P:=fun x g=>x=1/\g=_) ⟨m,1,_,hr,by simp at hm; omega,rfl,rfl⟩ fg ?_
   rintro _ _ ⟨rfl,rfl⟩;refine aa.n (aa.some ⟨[],?_,?_⟩)
   ·(dsimp only[go_sem])
    simp[eC,d]
   ·simp[eC,d]
  ·refine aa.loop (P:=fun x g=>x=0/\g=_) ⟨m,0,_,hr,by simp at hm; omega,rfl,rfl⟩ fg ?_
   rintro _ _ ⟨rfl,rfl⟩;refine aa.p (aa.some ⟨J,?_,?_⟩)
   ·(dsimp only[go_sem])
    simp[eC]
   grind[eC]
end
section
variable {K:List Kd} {Q:LG->Prop}
theorem MC:∀(K:List Kd) (x:LG),(K.all fun k=>match k with | .list _=>false|_=>true)=true->aZ K x x=true
 |[],_,_=>rfl
 |k::K,x,h=>by
  simp only[List.all_cons,aO]at h;simp only[aZ,MC K _ h.2,jQ];cases k<;>simp only[tC,beq_self_eq_true]
  simp at h
end
section
variable {K:List Kd} {Z:LG} {Q:LG->Prop} {C:LG->Option LG} {cp:G->G} {cap:G} {p:LG->Bool}
structure Prd (K:List Kd) (C:LG->Option LG) (cp:G->G) (cap:G) (Q:LG->Prop) (p:LG->Bool):Prop where
 cmp:∀r,Q r->C [.l [r],cap]=some [.t (p r)]
 eta:∀r,Q r->bg K r=r
 fix:cp cap=cap
end
section
variable {K:List Kd} {Z:LG}
end
section sort
variable {α:Type} {lt:α->α->Bool}
theorem GX(x:α):∀ p:List α,(ir lt x p).Perm (x::p)
 |[]=>Jr _
 |y::p=>by
  simp only[ir];cases lt x y with
  |true=>exact(List.Perm.cons y (GX x p)).trans (List.Perm.swap x y p)
  |false=>simp
theorem S0:∀(r p:List α),(l4 lt p r).Perm (p++r)
 |[],p=>by simp[l4]
 |x::r,p=>by
  simp only[l4];refine(S0 r (ir lt x p)).trans ?_;refine(List.Perm.append_right r (GX x p)).trans ?_;simpa using(List.perm_middle (a:=x) (l₁:=p) (l₂:=r)).symm
theorem sv(l:List α):(eP lt l).Perm l:=by
 unfold eP;exact(List.reverse_perm _).trans (by simpa using S0 (lt:=lt) l [])
structure iJ (lt:α->α->Bool) (Q:α->Prop):Prop where
 tr:∀a b c,Q a->Q b->Q c->lt a b=false->lt b c=false->lt a c=false
 GY:∀a b,Q a->Q b->lt a b=true->lt b a=false
variable {Q:α->Prop}
theorem S2(k:iJ lt Q){x:α}(v:Q x):∀{p:List α},(∀ y∈p,Q y)->p.Pairwise (fun a b=>lt a b=false)->(ir lt x p).Pairwise (fun a b=>lt a b=false)
 |[],_,_=>by simp[ir]
 |y::p,hq,M=>by
  obtain⟨h1,O⟩:=nf.1 M;have N:=hq y dx;have I:∀z∈p,Q z:=fun z d=>hq z (dh _ d);simp only[ir];cases h:lt x y with
  |true=>
   refine nf.2 ⟨fun z d=>?_,S2 k v I O⟩;rcases c_.1 ((GX x p).mem_iff.1 d)with rfl|d
   ·exact k.GY _ _ v N h
   grind
  |false=>
   refine nf.2 ⟨fun z d=>?_,M⟩;rcases c_.1 d with rfl|d
   ·exact h
   ·exact k.tr x y z v N (I z d) h (h1 z d)
theorem S3(h:iJ lt Q):∀{r p:List α},(∀ y∈p,Q y)->(∀ y∈r,Q y)->p.Pairwise (fun a b=>lt a b=false)->(l4 lt p r).Pairwise (fun a b=>lt a b=false)
 |[],_,_,_,d=>by simpa[l4]using d
 |x::r,p,hq,hr,d=>by
  simp only[l4];refine S3 h (fun y k=>?_) (fun y k=>hr y (dh _ k)) (S2 h (hr x dx) hq d)
  grind[GX]
theorem CM(d:iJ lt Q){l:List α}(h:∀y∈l,Q y):(eP lt l).Pairwise (fun a b=>lt b a=false):=by
 unfold eP;rw[List.pairwise_reverse];exact S3 d au h List.Pairwise.nil
theorem CN:∀{l r:List α},l.Perm r->(∀ a∈l,∀ b∈l,lt a b=false->lt b a=false->a=b)->l.Pairwise (fun a b=>lt b a=false)->r.Pairwise (fun a b=>lt b a=false)->l=r
 |[],r,d,_,_,_=>d.nil_eq
 |a::l,[],d,_,_,_=>by simpa using d.length_eq
 |a::l,b::r,d,ha,h1,h=>by
  obtain⟨U,k⟩:=nf.1 h1;obtain⟨W,v⟩:=nf.1 h;have e:a=b:=by
   have hb:b∈a::l:=d.symm.subset dx;have N:a∈b::r:=d.subset dx;rcases c_.1 hb with e|O
   ·exact e.symm
   grind
  subst e;rw[CN ((List.perm_cons a).1 d) (fun x I y M=>ha x (dh _ I) y (dh _ M)) k v]
theorem S4(d:iJ lt Q){l r:List α}(k:l.Perm r)(v:∀y∈l,Q y)(ha:∀a∈l,∀b∈l,lt a b=false->lt b a=false->a=b):eP lt l=eP lt r:=
 CN ((sv l).trans (k.trans (sv r).symm)) (fun a h b h'=>ha a ((sv l).mem_iff.1 h) b ((sv l).mem_iff.1 h')) (CM d v)
  (CM d fun y I=>v y (k.mem_iff.2 I))
end sort
theorem S5{sp:lx}{tl:LG->bp}{v:Nat}{d:LG}{r:Option Nat × LG}(y:mH rZ v=true)
  (h:∀b p,p.Perm rZ->sp.side d b=true/\∃k,h_ sp.st sp.da p (sp.init d b)=some k/\tl k=some r):sn sp tl rZ v d=some r:=by
 unfold sn;rw[y];refine Mg fun b p I=>?_;obtain⟨h1,k,M,N⟩:=h b p I
 grind
section
variable {α:Type} (f:α->Int)
end
section
variable {α:Type} {e:α->α->Bool}
theorem S6:∀{q:List α} {y z:α},(∀ a∈y::q,∀ b∈y::q,e a b=true->a=b)->z∈q->z=y\/z∈cw e y q
 |x::q,y,z,he,h=>by
  simp only[cw];have d:z∈q->z=x\/z∈cw e x q:=fun h=>S6 (fun a ha b hb=>he a (dh _ ha) b (dh _ hb)) h
  grind
theorem afp{l:List α}(he:∀a∈l,∀b∈l,e a b=true->a=b){z:α}:z∈eC e l↔z∈l:=by
 refine⟨Mz,fun h=>?_⟩;cases l<;>grind[eC,S6]
theorem MD:∀(q:List α) (y:α),(cw e y q).Sublist q
 |[],_=>List.Sublist.slnil
 |x::q,y=>by
  simp only[cw];cases e x y with
  |true=>exact(MD q x).cons x
  |false=>exact(MD q x).cons_cons x
theorem afq(l:List α):(eC e l).Sublist l:=by
 cases l with
 |nil=>exact List.Sublist.slnil
 |cons x q=>exact(MD q x).cons_cons x
theorem ME(I:∀ a b c:α,e a b=true->e b c=true->e a c=true):∀{q p r:List α} {y a b:α},y::cw e y q=p++a::b::r->(∀ x∈y::q,e x x=true)->(∀ x∈y::q,∀ z∈y::q,e x z=true->x=z)->e b a=false
 |[],p,r,y,a,b,h,_,_=>by
  simp only[cw]at h;have:=congrArg List.length h
  grind
 |x::q,p,r,y,a,b,h,hr,he=>by
  simp only[cw]at h;cases k:e x y with
  |true=>
   rw[k]at h;simp only[cT]at h;have M:=he x au y au k;subst M;exact ME I h (fun z d=>hr z (dh _ d)) (fun z d w v=>he z (dh _ d) w (dh _ v))
  |false=>
   rw[k]at h;simp only[cF]at h;cases p with
   |nil=>
    grind
   |cons c p=>
    simp only[List.cons_append,Jd]at h;exact ME I h.2 (fun z d=>hr z (dh _ d)) (fun z d w v=>he z (dh _ d) w (dh _ v))
end
section
variable {K:List Kd} {C:LG->Option LG} {Q:LG->Prop} {c:LG->LG->Int}
end
theorem S7{R:LG->LG->Prop}(tr:∀ a b c,R a b->R b c->R a c):∀{l:LL},(∀ k,1<=k->k<l.length->R (l.getD (k-1) []) (l.getD k []))->l.Pairwise R
 |[],_=>List.Pairwise.nil
 |[x],_=>by simp
 |x::y::l,h=>by
  have h0:R x y:=h 1 ab au;have v:=S7 tr (l:=y::l) (fun k M I=>by
   have:=h (k+1) ab (by simpa using I);obtain⟨k,rfl⟩:∃j,k=j+1:=⟨k-1,ab⟩
   grind)
  refine nf.2 ⟨fun z d=>?_,v⟩;rcases c_.1 d with rfl|d
  ·exact h0
  ·exact tr _ _ _ h0 ((nf.1 v).1 z d)
theorem afr{R:LG->LG->Prop}{l:LL}(h:l.Pairwise R)(k:Nat)(v:1<=k)(d:k<l.length):R (l.getD (k-1) []) (l.getD k []):=by
 have:=List.pairwise_iff_getElem.1 h (k-1) k ab d ab
 grind
theorem afs{e:LG->LG->Bool}{R:LG->LG->Prop}(tr:∀ a b c,R a b->R b c->R a c){l:LL}(hr:∀ x∈l,e x x=true)(v:∀ a b c:LG,e a b=true->e b c=true->e a c=true)
  (he:∀x∈l,∀y∈l,e x y=true->x=y) (I:l.Pairwise fun a b=>a=b\/R a b):(eC e l).Pairwise R:=by
 refine S7 tr fun k M d=>?_;cases l with
 |nil=>simp[eC]at d
 |cons x q=>
  have h1:=afr (as8 (afq (e:=e) (x::q)) I) k M d;have N:k-1<(eC e (x::q)).length:=ab;have h:eC e (x::q)=(eC e (x::q)).take (k-1)++(eC e (x::q)).getD (k-1) []::(eC e (x::q)).getD k []::(eC e (x::q)).drop (k+1):=by
   obtain⟨j,rfl⟩:∃j,k=j+1:=⟨k-1,ab⟩
   simp only[Nat.add_sub_cancel,dc,cB d,cB (show j<(eC e (x::q)).length by omega),Option.getD_some];simp
  have O:=ME (e:=e) v (q:=q) (y:=x) (p:=(eC e (x::q)).take (k-1)) (a:=(eC e (x::q)).getD (k-1) []) (b:=(eC e (x::q)).getD k []) (r:=(eC e (x::q)).drop (k+1)) h hr he
  grind[Mz]
theorem aft(mk:Nat->LG)(rZ:LL)(p:LG->Bool)(hn:rZ.length<999999)
  (v:∀i x,i<rZ.length->rZ.getD i []=x->x∈rZ->aa (st (mk i)) fun o=>o=bif p x then (some 0,[.i (i:Int)]) else (none,mk (i+1))) (I:aa (st (mk rZ.length)) fun o=>o=(some 1,[])) :
  kT st (mk 0) fun c g=>(c=0/\∃d x h,rZ=d++x::h/\(∀y∈d,p y=false)/\p x=true/\g=[.i (d.length:Int)])\/c=1/\g=[]/\∀y∈rZ,p y=false:=by
 refine(SO (σ:=Unit) (fun _ i=>mk i) rZ (fun _=>(1,[])) (fun _ i=>∀y∈rZ.take i,p y=false) (fun c g=>c=0/\∃d x h,rZ=d++x::h/\(∀y∈d,p y=false)/\p x=true/\g=[.i (d.length:Int)]) () hn au ?_ (fun _ _=>I)).mono ?_
 ·rintro _ i x M hi k hm O
  refine(v i x hi k hm).mono ?_;rintro _ rfl;cases N:p x with
  |true=>
   refine .inr ⟨0,_,rfl,rfl,rZ.take i,x,rZ.drop (i+1),?_,M,N,bS⟩;rw[<-k,dc,cB hi];simp
  |false=>
   refine .inl ⟨(),rfl,?_⟩
   grind
 grind
section
variable {C:LG->Option LG} {Q:LG->Prop} {c:LG->LG->Int}
theorem iJ.mono{lt:α->α->Bool}{Q k:α->Prop}(h:iJ lt Q)(hq:∀a,k a->Q a):iJ lt k:=
 ⟨fun a b d ha hb v=>h.tr a b d (hq a ha) (hq b hb) (hq d v),fun a b ha hb=>h.GY a b (hq a ha) (hq b hb)⟩
def wT(C:LG->Option LG)(Q:LG->Prop)(c:LG->LG->Int):Prop:=∀r s,Q r->Q s->∃v,C [.l [r],.l [s]]=some [.i v]/\(v<0↔c r s<0)
end
end Go.AL

namespace Go.AL
open Go Go.Proofs
variable [Dr]
variable {C:LG->Option LG} {Q:LG->Prop} {c:LG->LG->Int}
theorem S8(hC:wT C Q c){r s:LG}(hr:Q r)(d:Q s):decide (CB C r s<0)=cr c r s:=by
 obtain⟨v,h,k⟩:=hC r s hr d;unfold CB cr;rw[h,cS];show decide (v<0)=_
 grind
theorem wU(hC:wT C Q c){rZ:LL}(hr:∀y∈rZ,Q y)(h0:rZ≠[])(i j:Nat):ltOf (qW C rZ) i j=cr c (jv rZ i) (jv rZ j):=
 S8 hC (hr _ (CC h0 i)) (hr _ (CC h0 j))
theorem afu(hC:wT C Q c)(d:iJ (cr c) Q){rZ:LL}(hr:∀y∈rZ,Q y)(h0:rZ≠[])(hn:rZ.length<100000):wM C rZ:=by
 have hq:=fun i=>hr _ (CC h0 i);refine⟨fun r h s h'=>by obtain⟨v,e,_⟩:=hC r s (hr r h) (hr s h'); grind,⟨fun x=>?_,fun x y z=>?_,fun x y z=>?_⟩,ab⟩
 ·rw[wU hC hr h0]
  cases h:cr c (jv rZ x) (jv rZ x)with
  |false=>rfl
  |true=>rw[d.GY _ _ (hq x) (hq x) h]at h; cases h
 ·rw[wU hC hr h0,wU hC hr h0,wU hC hr h0]
  intro h1 k;cases h:cr c (jv rZ x) (jv rZ z)with
  |true=>rfl
  |false=>
   have:=d.tr _ _ _ (hq x) (hq z) (hq y) h (d.GY _ _ (hq y) (hq z) k)
   grind
 ·rw[wU hC hr h0,wU hC hr h0,wU hC hr h0]
  exact d.tr _ _ _ (hq x) (hq y) (hq z)
theorem afv(hC:wT C Q c)(v:iJ (cr c) Q)(rZ:LL)(hr:∀ y∈rZ,Q y)(hn:rZ.length<100000) :
  ∃out,wO C [.l rZ]=some [.l out]/\out.Perm rZ/\out.Pairwise fun a b=>cr c b a=false:=by
 unfold wO;have e:(gi [G.l rZ] 0).rZ=rZ:=rfl;rw[e];by_cases h0:rZ=[]
 simp_all
 ·have d:=afu hC v hr h0 hn
  rw[iN h0,iP d];have k:=SG d;refine⟨_,rfl,k,?_⟩;refine as9 ?_ (aeF d);intro a b h1 I h;rw[<-S8 hC (hr b (k.mem_iff.1 I)) (hr a (k.mem_iff.1 h1)),dF];exact h
theorem S9(hC:wT C Q c)(k:iJ (cr c) Q)(rZ:LL)(hr:∀ y∈rZ,Q y)(hn:rZ.length<100000)(ha:∀ a∈rZ,∀ b∈rZ,cr c a b=false->cr c b a=false->a=b) :
  wO C [.l rZ]=some [.l (eP (cr c) rZ)]:=by
 obtain⟨out,h,d,v⟩:=afv hC k rZ hr hn;rw[h,CN (d.trans (sv (lt:=cr c) rZ).symm) (fun a h1 b I=>ha a (d.mem_iff.1 h1) b (d.mem_iff.1 I)) v (CM k hr)]
open Go
noncomputable abbrev CO(r:LG):Int:=(gi r 0).iV
noncomputable abbrev wV(r:LG):Int:=(gi r 1).iV
def IsR(r:LG):Prop:=r=[.i (CO r),.i (wV r)]/\CO r<wV r
def S_(l:LL)(n:Int):Prop:=∃r∈l,CO r<=n/\n<wV r
def afx(l:LL):Prop:=(∀r∈l,IsR r)/\l.Pairwise fun r s=>wV r<CO s
structure asZ (out:LL) (a b:Int) (os:LL) (ps:LL) (f:Int):Prop where
 low:a<=f
 at_:f=a\/∃o∈os,f=wV o
 bF:∀o∈os,wV o<=f\/b<=CO o
 mem:∀n,S_ ps n↔a<=n/\n<f/\n<b/\¬ S_ os n
 can:afx (out++ps)
 gap:∀s∈out++ps,wV s<f
 many:ps.length<=os.length
end Go.AL
