/-
 What is proved here: the function that slices.Backward hands back,called with a round's body: the rounds come from the last row to the first one. No program in sight; no condition.
-/
import Derived.Test.YtmhkodhaodcfdaaGreatDoorMD
import Derived.Test.YtmhkodhaodcfdaaGreatDoorMC
import Derived.Lib.LaidTab
import Derived.Sort.Grow
import Derived.Deep.Draws
set_option linter.all false
open Bool renaming and_eq_true->aE
open Go renaming Value->ak,FuncId->bC,TypeId->aD,World->a6,Program->ai,Oper->aQ
open Go.Lib renaming TabIs->J_
open Go.World renaming putObj_heap_other->J5,var?->aj8
open List renaming mem_range->ke
open Nat renaming le_refl->aY,le_add_right->gv,lt_of_lt_of_le->eF,beq->aH,eq_of_beq_eq_true->bA,blt->cR,blt_eq->dH
open Option renaming bind_some->Fg
namespace Go.AL
open Go
variable [Dr]
def y4{P:ai}{pf:bC->Bool}{af:Array aQ}{o:aQ}{s:St}{v:AV}(a:o.guard=none)(b:db pf o.op=.read)(h:fS P s.eval s.H o.op=some v):Yields P pf af o s v s.H:=by
 unfold Yields;rw[show cr af s.fr o=some true from by unfold cr; rw[a]];simp only[b];exact⟨trivial,h⟩
def jI{P:ai}{pf:bC->Bool}{af:Array aQ}{o:aQ}{s:St}{v:AV}(a:o.guard=none)(b:db pf o.op=.pure)(h:jh P s.eval o.op=some v):Yields P pf af o s v s.H:=by
 unfold Yields;rw[show cr af s.fr o=some true from by unfold cr; rw[a]];simp only[b];exact⟨trivial,.inl h⟩
structure akI (S T:aD) (fp fH fq gh:Array aQ):Prop where
 r0:∃ o1 o2 o3 o4 t t',fp.toList=[o1,o2,o3,o4]/\(o1.guard=none/\o1.op=.load S (.tmp 1)/\o1.dst=some 4)/\(o2.guard=none/\o2.op=.call { callee:=.builtin .len,args:=#[.tmp 4],argTypes:=#[S] }/\o2.dst=some 5) /\
  (o3.guard=none/\o3.op=.binOp .sub t (.tmp 5) (.const (.int .i64 1)) t'/\o3.dst=some 6)/\(o4.guard=none/\o4.op=.assign (.tmp 6)/\o4.dst=some 3)
 r1:∃ o1 o2 t t',fH.toList=[o1,o2]/\(o1.guard=none/\o1.op=.move (.tmp 3)/\o1.dst=some 7)/\(o2.guard=none/\o2.op=.binOp .geq t (.tmp 7) (.const (.int .i64 0)) t'/\o2.dst=some 8)
 r2:∃ o1 o2 o3 t t',fq.toList=[o1,o2,o3]/\(o1.guard=none/\o1.op=.move (.tmp 3)/\o1.dst=some 9)/\(o2.guard=none/\o2.op=.binOp .sub t (.tmp 9) (.const (.int .i64 1)) t'/\o2.dst=some 10)/\(o3.guard=none/\o3.op=.assign (.tmp 10)/\o3.dst=some 3)
 r3:∃ o1 o2 o3 o4 o5 o6 o7 o8 t fQ,gh.toList=[o1,o2,o3,o4,o5,o6,o7,o8]/\(o1.guard=none/\o1.op=.move (.tmp 0)/\o1.dst=some 11)/\(o2.guard=none/\o2.op=.move (.tmp 3)/\o2.dst=some 12)/\(o3.guard=none/\o3.op=.load S (.tmp 1)/\o3.dst=some 13) /\
  (o4.guard=none/\o4.op=.move (.tmp 3)/\o4.dst=some 14)/\(o5.guard=none/\o5.op=.indexAddr S (.tmp 13) (.tmp 14)/\o5.dst=some 15)/\(o6.guard=none/\o6.op=.load T (.tmp 15)/\o6.dst=some 16) /\
  (o7.guard=none/\o7.op=.call { callee:=.value (.tmp 11),args:=#[.tmp 12,.tmp 16],argTypes:=fQ }/\o7.dst=some 17)/\(o8.guard=none/\o8.op=.unOp .not t (.tmp 17)/\o8.dst=some 18)
structure BwT (P:ai) (S T:aD) (sl:AV) (n:Nat) (rv:Nat->AV):Prop where
 load:∀ H,kP P S (.cptr [sl]) H=some sl
 len:BJ (cI P S) sl=some (.lit (.int .i64 (n:Nat)))
 idx:∀ i:Int,0<=i->i<n->∃ cells,jS (cI P S) sl (.lit (.int .i64 i))=some (.cptr cells)/\∀ H,kP P T (.cptr cells) H=some (rv i.toNat)
 cl:AV.cb [sl]=true
end Go.AL
namespace Go.AL
open Go
variable [Dr]
section bw
variable {P:ai} {pf:bC->Bool} {S T:aD} {sl:AV} {n:Nat} {rv:Nat->AV} {fp fH fq gh:Array aQ}
theorem Oe{E:ae}:∀{as d:List AV} {g:List ak},ar E as g->as.length=d.length->(∀(i:Nat) (b:AV),d[i]? = some b->b=.undef\/as[i]? = some b)->ar E d g
 | [],[],[],_,_,_=>by simp[ar]
 | [],[],_::_,h,_,_=>by simp[ar]at h
 |_::_,[],_,_,h,_=>by simp at h
 | [],_::_,_,_,h,_=>by simp at h
 |_::_,_::_,[],h,_,_=>by simp[ar]at h
 | a::as,b::d,v::g,h,k,hm=>by
  simp only[ar]at h|-;refine⟨?_,Oe h.2 (by simpa using k) fun i q t=>hm (i+1) q (by simpa using t)⟩;rcases hm 0 b rfl with rfl|e
  ·simp[ab]
  ·have e : a = b := by simpa using e
   rw[<-e];exact h.1
def ae.j_(E:ae):ae:={ E with X:=⟨E.X.x,fun _=>False,E.X.r⟩ }
theorem CS{E:ae}(h:aG E.j_):lM E.j_ E:=⟨rfl,rfl,aY _,fun b _ a=>⟨a,rfl⟩,h.X,rfl⟩
theorem Of{w:a6}{X:XS}{l:List Deferred}(h:mq w X l)(a:∀ b,¬ X.z b):l=[]:=by
 cases l with
 |nil=>rfl
 | cons d l =>
  obtain⟨D,_,_,_,g⟩:=h.2 d List.mem_cons_self;exact(a D g).elim
theorem gC{af:Array aQ}{o:aQ}{l:List aQ}{fr:List AV}{H:List ah}{s':St}{v:AV}{d:Tmp}(h:Yields P pf af o ⟨fr,H⟩ v H)(a:o.dst=some d)(h':ji P pf af l ⟨fr.set d v,H⟩ s'):ji P pf af (o::l) ⟨fr,H⟩ s' :=
 ⟨v, H, h, by
  simp only[St.put,kS,a];exact h'⟩
theorem rJ{af:Array aQ}{s:St}:ji P pf af [] s s:=rfl
theorem XW{t:aD}{k:Bool}{a b:Int}:iF P .geq t k (.lit (.int .i64 a)) (.lit (.int .i64 b))=some (.lit (.bool (decide (a ≥ b)))):=by
 simp only[iF,jC,if_true,nB]
theorem HO{af:Array aQ}{l:List aQ}(h:af.toList=l)(i:Nat):af[i]? = l[i]? := by rw[<-h]; simp
end bw
end Go.AL

namespace Go.AL
open Go
variable [Dr]
mutual
def mJ(m:Nat):AV->Bool
 |.agg a=>mL m a
 |.tuple a=>mL m a
 |.clo _ a=>mL m a
 |.ptr id al _ _ _=>cR id m&&aH al 0
 |.vQ _ id al _ _=>cR id m&&aH al 0
 |.map id=>cR id m
 |.sub ..=>false
 |.svec ..=>false
 |.sptr ..=>false
 |_=>true
def mL(m:Nat):List AV->Bool
 | []=>true
 |a::as=>mJ m a&&mL m as
end
mutual
def XX{E E':ae}{m:Nat}(h:E.eZ m E'):∀(a:AV) {c:ak},mJ m a=true->ab E a c->ab E' a c
 |.undef,_,_,_=>by simp[ab]
 |.lit v,c,_,b=>by simpa only[ab]using b
 |.nils,c,_,b=>by simpa only[ab]using b
 |.list k rZ,c,_,b=>gy (HN h) _ (by simp[AV.closed]) b
 |.listF ks rZ,c,_,b=>gy (HN h) _ (by simp[AV.closed]) b
 | .agg cells,c,d,b=>by
  simp only[ab]at b|-;obtain⟨w,e,t,g⟩:=b;exact⟨w,e,t,tL h cells (by simpa only[mJ]using d) g⟩
 | .tuple cells,c,d,b=>by
  simp only[ab]at b|-;obtain⟨w,e,g⟩:=b;exact⟨w,e,tL h cells (by simpa only[mJ]using d) g⟩
 |.cptr cells,c,_,b=>gy (HN h) _ (by simp[AV.closed]) b
 |.sub ..,_,d,_=>by simp[mJ]at d
 |.svec ..,_,d,_=>by simp[mJ]at d
 |.sptr ..,_,d,_=>by simp[mJ]at d
 | .ptr id al k row I,c,d,b=>by
  simp only[mJ,aE,dH]at d;obtain⟨t,g⟩:=d;have g:=bA g;subst g;simp only[ab]at b|-;obtain⟨y,q,z⟩:=b;refine⟨y,h.bu id t q,fun A=>?_⟩;obtain⟨B,F⟩:=h.live id t q A;rw[F];exact z B
 | .vQ k id al oF n,c,d,b=>by
  simp only[mJ,aE,dH]at d;obtain⟨t,g⟩:=d;have g:=bA g;subst g;simp only[ab]at b|-;obtain⟨y,q,z⟩:=b;refine⟨y,h.bu id t q,fun A=>?_⟩;obtain⟨B,F⟩:=h.live id t q A;rw[F];exact z B
 | .map id,c,d,b=>by
  simp only[mJ,dH]at d;simp only[ab]at b|-;obtain⟨y,q,z⟩:=b;refine⟨y,h.bu id d q,fun A=>?_⟩;obtain⟨B,F⟩:=h.live id d q A;rw[F];exact z B
 | .clo f caps,c,d,b=>by
  simp only[ab]at b|-;obtain⟨w,e,g⟩:=b;exact⟨w,e,tL h caps (by simpa only[mJ]using d) g⟩
 |.ifc,c,_,b=>by simpa only[ab]using b
 |.emptyS n,c,_,b=>by simpa only[ab]using b
def tL{E E':ae}{m:Nat}(h:E.eZ m E'):∀(as:List AV) {d:List ak},mL m as=true->ar E as d->ar E' as d
 | [],[],_,_=>by simp[ar]
 | [],_::_,_,b=>by simp[ar]at b
 |_::_,[],_,b=>by simp[ar]at b
 | a::as,v::d,g,b=>by
  simp only[mL,aE]at g;simp only[ar]at b|-;exact⟨XX h a g.1 b.1,tL h as g.2 b.2⟩
end
def ae.eZ.mono{m m':Nat}{E E':ae}(h:E.eZ m' E')(hm:m<=m'):E.eZ m E' :=
 ⟨fun id hi=>h.bu id (by omega),h.size,h.same,h.bN,fun id hi=>h.live id (by omega),h.X,h.rl,h.env,fun id hi=>h.grow id (by omega)⟩
structure ae.qh (m l:Nat) (E E':ae):Prop where
 bu:∀ id,id<m->E.bu id 0->E'.bu id 0
 size:E.w.heap.size<=E'.w.heap.size
 same:∀ b,b<E.w.heap.size->¬ E.bN b->b≠l->E'.w.heap[b]? = E.w.heap[b]?
 bN:∀ b,b<E.w.heap.size->¬ E.bN b->¬ E'.bN b
 live:∀ id,id<m->E.bu id 0->E'.live id 0->E.live id 0/\E'.ad[id]? = E.ad[id]?
 X:∀ b,b<E.w.heap.size->(E'.X b↔E.X b)/\(E'.X.z b↔E.X.z b)
 rl:∀ l h,h<(E.X.r l).length->h<(E'.X.r l).length/\∀ q,(E'.X.r l)[h]? = some (some q)->(E.X.r l)[h]? = some (some q)
 env:eO E.w E'.w
 grow:∀ id,id<m->∀ l o,E.H[id]? = some o->o.dM=some l->E'.live id 0->(∃ t,E'.X.r l=E.X.r l++t)/\∃ o',E'.H[id]? = some o'/\o'.dM=some l
def ae.eZ.toX{m l:Nat}{E E':ae}(h:E.eZ m E'):E.qh m l E':=⟨h.bu,h.size,fun b a d _=>h.same b a d,h.bN,h.live,h.X,h.rl,h.env,h.grow⟩
def ae.qh.trans{m l:Nat}{E E' J:ae}(h:E.qh m l E')(h':E'.qh m l J):E.qh m l J where
 bu:=fun id hi y=>h'.bu id hi (h.bu id hi y)
 size:=Nat.le_trans h.size h'.size
 same:=fun b a k w=>by rw[h'.same b (eF a h.size) (h.bN b a k) w,h.same b a k w]
 bN:=fun b a k=>h'.bN b (eF a h.size) (h.bN b a k)
 live:=fun id hi M w=>by
  obtain⟨z,A⟩:=h'.live id hi (h.bu id hi M) w;obtain⟨B,F⟩:=h.live id hi M z;exact⟨B,by rw[A,F]⟩
 X:=fun b a=>by
  have d:=h'.X b (eF a h.size);have g:=h.X b a;exact⟨d.1.trans g.1,d.2.trans g.2⟩
 rl:=fun l i hi=>by
  obtain⟨z,A⟩:=h.rl l i hi;obtain⟨B,F⟩:=h'.rl l i z;exact⟨B,fun q V=>A q (F q V)⟩
 env:=h.env.trans h'.env
 grow:=fun id hi l o d g I=>by
  have y:E.bu id 0:=⟨o,d,ah.Fp g,fun v I=>Nat.zero_le _⟩
  obtain⟨N,_⟩:=h'.live id hi (h.bu id hi y) I;obtain⟨⟨t,W⟩,o',Y,g2⟩:=h.grow id hi l o d g N;obtain⟨⟨t',O⟩,U,g3,g4⟩:=h'.grow id hi l o' Y g2 I;exact⟨⟨t++t',by rw[O,W,List.append_assoc]⟩,U,g3,g4⟩
def ae.qh.toM{m l:Nat}{E E':ae}(h:E.qh m l E')(d:l<E.w.heap.size->E'.w.heap[l]? = E.w.heap[l]?):E.eZ m E' :=
 ⟨h.bu, h.size, fun b a g => by
  by_cases e:b=l
  ·subst e
   exact d a
  ·exact h.same b a g e,h.bN,h.live,h.X,h.rl,h.env,h.grow⟩
def HP{w:a6}{H:List ah}{ad:List (Option (Nat × Nat))}{X:XS}{l:Nat}{o:Obj}(d:X l)(HE:aG { w:=w,H:=H,ad:=ad,X:=X }) :
  lM { w:=w,H:=H,ad:=ad,X:=X } { w:=w.putObj l o,H:=H,ad:=ad,X:=X } :=
 ⟨rfl, rfl, by simp, fun b _ a => ⟨a, J5 fun e => a (by rw [e]; exact d)⟩, fun b g => by
  have:=HE.X b g;simpa using this,rfl⟩
def HQ{m:Nat}{w:a6}{H:List ah}{ad:List (Option (Nat × Nat))}{X:XS}{l:Nat}{o:Obj}:({ w:=w,H:=H,ad:=ad,X:=X }:ae).qh m l { w:=w.putObj l o,H:=H,ad:=ad,X:=X } :=
 ⟨fun _ _ h=>h,by simp,fun b _ _ h=>J5 h,fun _ _ h=>h,fun _ _ _ h=>⟨h,rfl⟩,fun _ _=>⟨Iff.rfl,Iff.rfl⟩,fun _ _ h=>⟨h,fun _ a=>a⟩,⟨rfl,rfl,rfl,by first|exact fun _=>aY _|exact fun _=>gv _ _⟩,fun _ _ _ o d g _=>⟨⟨[],(List.append_nil _).symm⟩,o,d,g⟩⟩
def Og{w:a6}{X:XS}{l:Nat}{r:Loop}{o:Obj}{b:List Deferred}(h:mq w X b)(g:w.heap[l]? = some (.loop r)):mq (w.putObj l o) X b :=
 ⟨h.1, fun d k => by
  obtain⟨D,e,a,q,t⟩:=h.2 d k;exact⟨D,e,by rw[J5 (fun e=>by rw[e,g]at a; cases a)]; exact a,q,t⟩⟩
end Go.AL

namespace Go.AL
open Go
variable [Dr]
structure BwR (P:ai) (m:Nat) (n:Nat) (rv:Nat->AV) (p0 p1:Tmp) (assign body:Code) (S:Nat->St):Prop where
 na:gB assign=true
 nb:gB body=true
 fix:∀ k,k<n->mL m (S k).fr=true
 round:∀ k,k<n->∃ s1 s2,dC P m assign ⟨((S k).fr.set p0 (.lit (.int .i64 ((n:Int)-1-k)))).set p1 (rv (n-1-k)),(S k).H⟩ .normal s1/\dC P m body s1 .normal s2/\bD m ⟨(S k).fr,s2.H⟩ (S (k+1))
section bw
variable {P:ai} {m':Nat} {n:Nat} {rv:Nat->AV} {p0 p1:Tmp} {assign body:Code} {S:Nat->St}
end bw
end Go.AL

namespace Go.AL
open Go
variable [Dr]
variable {P:ai}
structure BwI where
 f:bC
 T1:aD
 T2:aD
 w:Nat
 pw:Nat
 agg:Bool
end Go.AL

namespace Go.AL
open Go
variable [Dr]
def CT:au->Bool
 |.vQ _ v _=>aH v 0
 |.map ..=>true
 |.br ..=>true
 |.mm ..=>true
 |.cM ..=>true
 |.bM ..=>true
 |.raw (.vQ _ v _)=>aH v 0
 |.raw .dead=>false
 |.raw .dP=>false
 |.raw _=>true
def XY{H:List au}(h:H.all CT=true):BP (ax H):=by
 intro o a;obtain⟨t,b,rfl⟩:=List.mem_map.1 a;have:=List.all_eq_true.1 h t b;cases t with
 |vQ ks v rZ=>simp only[CT]at this; rw[bA this]; rfl
 |map=>rfl
 |br=>rfl
 |mm=>rfl
 |cM=>rfl
 |bM=>rfl
 | raw o=>cases o with
  |vQ k v rZ=>simp only[CT]at this; rw[bA this]; rfl
  |dead=>cases this
  |dP=>cases this
  |box=>rfl
  |map=>rfl
  |iter=>rfl
  |cD=>rfl
  |br=>rfl
  |mm=>rfl
  |cM=>rfl
  |bM=>rfl
def Oh(P:ai)(τ:aJ)(fn:Func)(args:List AV)(H:List au):Option (Bool × AV × List au) :=
 match H.all CT with
 | true=>match (fD P τ dc (bp fn) ⟨oE args fn.ntmps,H⟩ .done).qg with
  | some (.normal,s')=>match nK P s'.aw fn.results.toList with
   |some a=>some (true,dp a,s'.H)
   |none=>none
  | some (.ret,s')=>match nK P s'.aw fn.results.toList with
   |some a=>some (true,dp a,s'.H)
   |none=>none
  |_=>none
 |false=>none
def aJ.oM(P:ai)(τ:aJ)(f:bC)(fn:Func):aJ where
 pf g:=match aH g f with
  |true=>false
  |false=>τ.pf g
 T g as:=match aH g f with
  |true=>none
  |false=>τ.T g as
 W g as H:=match aH g f with
  |true=>Oh P τ fn as H
  |false=>τ.W g as H
 C g as H:=match aH g f with
  |true=>List.range H.length
  |false=>τ.C g as H
 I:=τ.I
 N g:=match aH g f with
  |true=>false
  |false=>τ.N g
 U g:=match aH g f with
  |true=>true
  |false=>τ.U g
def aL.oM{P:ai}{τ:aJ}(h:aL P τ)(hm:P.follows .mixedOrders=true){f:bC}{fn:Func}(X:P.funcs[f]? = some fn)(Y:fM P f=true)(O:fn.body.isSome=true):aL P (τ.oM P f fn):=by
 refine⟨fun g as b v a M=>?_,fun g as H b v H' a M=>?_,fun g as H b v H' a A k d=>?_,fun g as H t a Q hQ=>?_,?_⟩
 rotate_left 4
 ·refine ⟨fun g q as H => ?_, fun g w as H b v H' a id o d J => ?_⟩
  ·simp only [aJ.oM] at q |-
   cases e:aH g f with
   |true=>rw[e]at q; cases q
   | false =>
    rw[e]at q;exact h.F.1 g q as H
  ·simp only [aJ.oM] at w a J |-
   cases e:aH g f with
   |true=>rw[e]at w; cases w
   | false =>
    rw[e]at w a J;exact h.F.2 g w as H b v H' a id o d J
 rotate_left 3
 ·obtain ⟨g1, v, H', g2, g3, g4⟩ := h.I g as H t a Q hQ
  refine⟨g1,v,H',g2,fun A k d=>g3 A (fun hm=>k ?_) d,g4⟩;simp only[aJ.oM];split
  ·exact ke.2 d
  ·exact hm
 ·simp only [aJ.oM] at a
  split at a
  ·cases a
  ·exact h.T g as b v a M
 ·simp only [aJ.oM] at a
  split at a
  ·rename_i e
   have e:=bA e;subst e;refine⟨Y,?_⟩;obtain⟨c,N⟩:=Option.isSome_iff_exists.1 O;have U:bp fn=c:=by unfold bp; rw[N]
   unfold Oh at a;rw[U]at a;split at a
   case h_2=>cases a
   rename_i V;have key:∀{x:cJ} {s':aI} {y:List AV},(fD P τ dc c ⟨oE as fn.ntmps,H⟩ .done).qg=some (x,s')->(x=.normal\/x=.ret)->nK P s'.aw fn.results.toList=some y->eK P g as (ax H) (dp y) (ax s'.H):=by
    intro x s' y z hx B;obtain⟨x1,s1,h3,h4⟩:=kZ hm h c ⟨oE as fn.ntmps,H⟩ .done (dx P (ax H).length c) (yY z);obtain⟨rfl,rfl⟩:=h4;exact Vh X N h3 hx B (XY V)
   split at a
   ·rename_i s' z
    split at a
    ·rename_i y B
     cases a;exact key z (.inl rfl) B
    ·cases a
   ·rename_i s' z
    split at a
    ·rename_i y B
     cases a;exact key z (.inr rfl) B
    ·cases a
   ·cases a
  ·exact h.W g as H b v H' a M
 ·simp only [aJ.oM] at a k
  split at a
  ·rename_i e
   rw[e]at k;exact(k (ke.2 d)).elim
  ·rename_i e
   rw[e]at k;exact h.C g as H b v H' a A k d
end Go.AL

namespace Go.AL
open Go Go.ChangeMaps
variable [Dr]
section range
variable {P:ai} {τ:aJ} {L:LT} {m:Nat} {sp:tK} {fp fH fq:Array aQ} {body:Code} {ri:LG->LL} {ci:LG->Nat}
end range
def fU.Oi{m m':Nat}{E:ae}{s':St}{a:Act}{w':a6}(h:fU m' E s' a w')(hm:m<=m'):fU m E s' a w':=by
 obtain⟨b,d,g,k⟩:=h;exact⟨b,d,g,k.mono hm⟩
def dC.mono{P:ai}{m m':Nat}{c:Code}{s:St}{x:cJ}{s':St}(h:dC P m' c s x s')(hm:m<=m'):dC P m c s x s' :=
 fun g d E a k=>wpIn_mono (h g d E a k) fun _ _ _ b=>⟨b.1,b.2.Oi hm⟩
def vp.mono{P:ai}{m m':Nat}{c:Code}(hm:m<=m'){x:cJ}{s':St}:∀{n:Nat} {s:St},vp P m' c n s x s'->vp P m c n s x s'
 |0,_,h=>⟨h.1,h.2.mono hm⟩
 |_+1,_,⟨s1,a,b⟩=>⟨s1,a.mono hm,b.mono hm⟩
def ba.mono{P:ai}{m m':Nat}{L:LT}{c:Code}(h:ba P m' L c)(hm:Nat.ble m m'=true):ba P m L c:=by
 have hm:=Nat.le_of_ble_eq_true hm;refine⟨fun k b d s t g Q q=>?_,fun id s y E a z=>(h.2.1 id s y E a z).Oi hm,fun k b d s t g Q q=>?_⟩
 ·obtain ⟨x, s', ⟨n, v⟩, w⟩ := h.1 k b d s t g Q q
  exact⟨x,s',⟨n,v.mono hm⟩,w⟩
 ·obtain ⟨x, s', v, w⟩ := h.2.2 k b d s t g Q q
  exact⟨x,s',v.mono hm,w⟩
end Go.AL

namespace Go.AL
open Go
variable [Dr]
def eO.qi{w w':a6}(h:@eO xv w w'):eO w w':=⟨h.1,h.2.1,h.2.2.1,fun _=>h.2.2.2 rfl⟩
def ae.le.qi{E E':ae}(h:@ae.le xv E E'):E.le E':=by
 cases h with
 |mk a b c d e f r g w=>exact⟨a,b,c,d,e,f,r,eO.qi g,w⟩
def kq.qi{P:ai}{f:bC}{args:List AV}{H:List ah}{Q:AV->List ah->Prop}(h:@kq xv P f args H Q):kq P f args H Q:=fun E a d g k =>
 (h E a d g k).mono fun _ _ ⟨c,v,H',e,q,b,t,r1,r2,r3⟩=>⟨c,v,H',e,q,b,t,r1,r2,r3.qi⟩
def aL.qi{P:ai}{τ:aJ}(h:@aL xv P τ):aL P τ:=by
 cases h with
 | mk g k hC q w =>
  refine⟨fun f args b v a d=>⟨(g f args b v a d).1,fun H=>kq.qi ((g f args b v a d).2 H)⟩,fun f args H b v H' a d=>⟨(k f args H b v H' a d).1,kq.qi (k f args H b v H' a d).2⟩,hC,fun f args H t a Q d=>?_,w⟩;obtain⟨y,v,H',z,A,B⟩:=q f args H t a Q d;exact⟨y,v,H',kq.qi z,A,B⟩
end Go.AL

namespace Go.AL
open Go
variable [Dr]
def XZ(w:a6)(q:Nat)(os:Array Obj):Ext w (Go.Sort.grow (w.drewN q) os) :=
 ⟨by simp [Go.Sort.grow, World.drewN], fun b a => by
  show (w.heap++os)[b]? = w.heap[b]?
  rw[Array.getElem?_append_left a],⟨rfl,rfl,rfl,fun _=>gv _ _⟩⟩
def X3{P:ai}{E:ae}(H:uQ E){name:String}{g:Nat}{k:IntKind}{a:List Int}(b:P.globalNamed name=some g) (d:(g,(a.map fun z=>Value.int k z).toArray)∈uM):J_ P E.w name k a:=by
 obtain⟨_,t,f,h⟩:=H _ d;unfold J_ aj8;rw[b];simp only[Fg];rw[h]
def X5{P:ai}{w:a6}{name:String}{g:Nat}{k:IntKind}{zs:List Int}(a:P.globalNamed name=some g)(h:J_ P w name k zs):∃ t f,w.heap[g]? = some (.cells (zs.map fun z=>Value.int k z).toArray t f):=by
 unfold J_ aj8 at h;rw[a]at h;simp only[Fg]at h;split at h
 ·rename_i d t f b
  cases h;exact⟨t,f,b⟩
 ·cases h
def X6{P:ai}{f:bC}{vs:List ak}{u:ak}(h:∀ E:ae,uQ E->Calls P f vs.toArray E.w fun e w'=>e=.returned u/\Ext E.w w'):nJ P f (vs.map .lit) (.lit u):=by
 intro H E b hH HE g;have e:b=vs.toArray:=by
  have:∀(vs a:List ak),ar E (vs.map AV.lit) a->a=vs:=by
   intro vs
   induction vs with
   | nil=>intro a h; cases a with
    |nil=>rfl
    |cons _ _=>simp[ar]at h
   | cons v vs k =>
    intro a h;cases a with
    |nil=>simp[ar]at h
    | cons u a =>
     simp only[List.map_cons,ar,ab]at h;rw[h.1,k a h.2]
  have:=this vs b.toList g;rw[<-this]
 rw[e];refine(h E HE.gL).mono ?_;rintro _ w' ⟨rfl,d⟩;refine⟨u,.lit u,H,rfl,⟨rfl,rfl⟩,E.ad,E.X.r,by simp[ab],?_,?_⟩
 ·rw[<-hH]; exact HE.ext d
 ·rw[<-hH]; exact ae.iE d
end Go.AL
