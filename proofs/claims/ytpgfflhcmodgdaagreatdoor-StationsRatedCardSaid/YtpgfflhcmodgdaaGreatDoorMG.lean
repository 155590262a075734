/-
 What is proved here: the function that slices.Backward hands back,called with a round's body: the rounds come from the last row to the first one. No program in sight; no condition.
-/
import Derived.Test.YtpgfflhcmodgdaaGreatDoorMD
import Derived.Test.YtpgfflhcmodgdaaGreatDoorMC
import Derived.Lib.LaidTab
import Derived.Sort.Grow
import Derived.Deep.Draws
set_option linter.all false
open Bool renaming and_eq_true->aO
open Go renaming FuncId->bJ,TypeId->aK,World->bh,Program->ak,Oper->aQ
open Go.World renaming putObj_heap_other->OQ
open Nat renaming le_refl->aV,lt_of_lt_of_le->fD,beq->aD,eq_of_beq_eq_true->bN,blt->dy,blt_eq->jC
namespace Go.AL
open Go
variable [Dr]
variable {ai:Array aQ} {o:aQ} {s:St} {v:AV} {E E':ah} {H:List aj} {X:XS} {w:bh} {m l:Nat}
theorem aet{P:ak}{pf:bJ->Bool}(d:o.guard=none)(k:ed pf o.op=.read)(h:im P s.eval s.H o.op=some v):Yields P pf ai o s v s.H:=by
 unfold Yields;rw[show cX ai s.fr o=some true from by unfold cX; rw[d]];simp only[k];exact⟨trivial,h⟩
theorem aeu{P:ak}{pf:bJ->Bool}(d:o.guard=none)(k:ed pf o.op=.pure)(h:kL P s.eval o.op=some v):Yields P pf ai o s v s.H:=by
 unfold Yields;rw[show cX ai s.fr o=some true from by unfold cX; rw[d]];simp only[k];exact⟨trivial,.inl h⟩
structure asU (S T:aK) (db dC cD f_:Array aQ):Prop where
 r0:∃o1 o2 o3 o4 t t',db.toList=[o1,o2,o3,o4]/\(o1.guard=none/\o1.op=.load S (.tmp 1)/\o1.dst=some 4)/\(o2.guard=none/\o2.op=.call { callee:=.builtin .len,args:=#[.tmp 4],argTypes:=#[S] }/\o2.dst=some 5) /\
  (o3.guard=none/\o3.op=.binOp .sub t (.tmp 5) (.const (.int .i64 1)) t'/\o3.dst=some 6)/\(o4.guard=none/\o4.op=.assign (.tmp 6)/\o4.dst=some 3)
 r1:∃o1 o2 t t',dC.toList=[o1,o2]/\(o1.guard=none/\o1.op=.move (.tmp 3)/\o1.dst=some 7)/\(o2.guard=none/\o2.op=.binOp .geq t (.tmp 7) (.const (.int .i64 0)) t'/\o2.dst=some 8)
 r2:∃o1 o2 o3 t t',cD.toList=[o1,o2,o3]/\(o1.guard=none/\o1.op=.move (.tmp 3)/\o1.dst=some 9)/\(o2.guard=none/\o2.op=.binOp .sub t (.tmp 9) (.const (.int .i64 1)) t'/\o2.dst=some 10)/\(o3.guard=none/\o3.op=.assign (.tmp 10)/\o3.dst=some 3)
 r3:∃o1 o2 o3 o4 o5 o6 o7 o8 t iG,f_.toList=[o1,o2,o3,o4,o5,o6,o7,o8]/\(o1.guard=none/\o1.op=.move (.tmp 0)/\o1.dst=some 11)/\(o2.guard=none/\o2.op=.move (.tmp 3)/\o2.dst=some 12)/\(o3.guard=none/\o3.op=.load S (.tmp 1)/\o3.dst=some 13) /\
  (o4.guard=none/\o4.op=.move (.tmp 3)/\o4.dst=some 14)/\(o5.guard=none/\o5.op=.indexAddr S (.tmp 13) (.tmp 14)/\o5.dst=some 15)/\(o6.guard=none/\o6.op=.load T (.tmp 15)/\o6.dst=some 16) /\
  (o7.guard=none/\o7.op=.call { callee:=.value (.tmp 11),args:=#[.tmp 12,.tmp 16],argTypes:=iG }/\o7.dst=some 17)/\(o8.guard=none/\o8.op=.unOp .not t (.tmp 17)/\o8.dst=some 18)
structure BwT (P:ak) (S T:aK) (sl:AV) (n:Nat) (rv:Nat->AV):Prop where
 load:∀H,nm P S (.cptr [sl]) H=some sl
 len:Km (dO P S) sl=some (.lit (.int .i64 (n:Nat)))
 idx:∀i:Int,0<=i->i<n->∃cells,lP (dO P S) sl (.lit (.int .i64 i))=some (.cptr cells)/\∀H,nm P T (.cptr cells) H=some (rv i.toNat)
 cl:AV.cd [sl]=true
section bw
variable {P:ak} {pf:bJ->Bool} {S T:aK} {sl:AV} {n:Nat} {rv:Nat->AV} {db dC cD f_:Array aQ}
theorem Sw{E:ah}:∀{as d:List AV} {k:List Value},aw E as k->as.length=d.length->(∀(i:Nat) (b:AV),d[i]? = some b->b=.undef\/as[i]? = some b)->aw E d k
 |[],[],[],_,_,_=>by simp[aw]
 |[],[],_::_,h,_,_=>by simp[aw]at h
 |_::_,[],_,_,h,_=>by simp at h
 |[],_::_,_,_,h,_=>by simp at h
 |_::_,_::_,[],h,_,_=>by simp[aw]at h
 |a::as,b::d,v::k,h,y,hm=>by
  simp only[aw]at h|-;refine⟨?_,Sw h.2 (by simpa using y) fun i I hb=>hm (i+1) I (by simpa using hb)⟩;rcases hm 0 b rfl with rfl|e<;>grind[ad]
def ah.qg(E:ah):ah:={ E with X:=⟨E.X.x,fun _=>False,E.X.r⟩ }
theorem aev(h:aJ E.qg):ln E.qg E:=⟨rfl,rfl,aV _,fun b _ d=>⟨d,rfl⟩,h.X,rfl⟩
theorem GB{l:List Deferred}(h:nh w X l)(k:∀b,¬ X.z b):l=[]:=by
 cases l with
 |nil=>rfl
 |cons d l=>
  obtain⟨D,_,_,_,v⟩:=h.2 d List.mem_cons_self
  grind
theorem aew{J:ah->Prop}(N:∀ E E',J E->E.le E'->aJ E'->E'.H=E.H->J E'){l:List aQ}{k:Nat}{y:List Nat}{fr fr':List AV}{a:Act}{Q:Exit->Act->bh->Prop}
  (O:∀(j:Nat) (o:aQ),l[j]?=some o->ai[k+j]?=some o) (U:cQ ⟨fr,E.H⟩ E.qg a) (W:J E)
  (h:gX P pf ai l ⟨fr,E.H⟩ ⟨fr',E.H⟩) (hQ:∀v E',J E'->cQ ⟨fr',E'.H⟩ E'.qg v->wpOpsIn (fz none) 0 P ai Q y v E'.w):wpOpsIn (fz none) 0 P ai Q (List.range' k l.length++y) a E.w:=
 uj none l k _ _ E.qg a y O h U (fun v w' hc=>by
  obtain⟨I,M,h1,d⟩:=hc;exact hQ v { w:=w',H:=E.H,ae:=I,X:=E.X.re M } (N _ _ W ⟨d.bF,d.size,d.same,d.af,d.live,⟨rfl,rfl⟩,d.rl,d.env,d.grow⟩ (h1.heap.fF (aev (E:={ w:=w',H:=E.H,ae:=I,X:=E.X.re M }) h1.heap)) rfl) h1)
theorem Sx{E E':ah}:∀{fr:List AV} {d:List Value},aw E fr d->(∀ b∈fr,b=.undef\/(∃ v,b=.lit v)\/∀ c,ad E b c->ad E' b c)->aw E' fr d
 |[],[],_,_=>by simp[aw]
 |[],_::_,h,_=>by simp[aw]at h
 |_::_,[],h,_=>by simp[aw]at h
 |b::fr,v::d,h,hb=>by
  simp only[aw]at h|-;refine⟨?_,Sx h.2 fun x k=>hb x (List.mem_cons_of_mem _ k)⟩
  grind[ad]
theorem Sy{l:List aQ}{fr:List AV}{s':St}{d:Tmp}(h:Yields P pf ai o ⟨fr,H⟩ v H)(k:o.dst=some d)(h':gX P pf ai l ⟨fr.set d v,H⟩ s'):gX P pf ai (o::l) ⟨fr,H⟩ s':=
 ⟨v,H,h,by
  simp only[St.put,nr,k];exact h'⟩
theorem Sz:gX P pf ai [] s s:=rfl
theorem pj{l:List aQ}(h:ai.toList=l)(i:Nat):ai[i]?=l[i]?:=by rw[<-h]; simp
end bw
mutual
def pk(m:Nat):AV->Bool
 |.agg cs=>sq m cs
 |.tuple cs=>sq m cs
 |.clo _ cs=>sq m cs
 |.ptr id aq _ _ _=>dy id m&&aD aq 0
 |.vQ _ id aq _ _=>dy id m&&aD aq 0
 |.map id=>dy id m
 |.sub ..=>false
 |.svec ..=>false
 |.sptr ..=>false
 |_=>true
def sq(m:Nat):List AV->Bool
 |[]=>true
 |a::as=>pk m a&&sq m as
end
mutual
theorem SA{E E':ah}{m:Nat}(h:E.fX m E'):∀(a:AV) {c:Value},pk m a=true->ad E a c->ad E' a c
 |.undef,_,_,_=>by simp[ad]
 |.lit v,c,_,hr=>by simpa only[ad]using hr
 |.nils,c,_,hr=>by simpa only[ad]using hr
 |.list k rZ,c,_,hr=>gk (Cs h) _ (by simp[AV.closed]) hr
 |.listF ks rZ,c,_,hr=>gk (Cs h) _ (by simp[AV.closed]) hr
 |.agg cells,c,d,hr=>by
  simp only[ad]at hr|-;obtain⟨cs,e,h1,y⟩:=hr;exact⟨cs,e,h1,Cy h cells (by simpa only[pk]using d) y⟩
 |.tuple cells,c,d,hr=>by
  simp only[ad]at hr|-;obtain⟨cs,e,y⟩:=hr;exact⟨cs,e,Cy h cells (by simpa only[pk]using d) y⟩
 |.cptr cells,c,_,hr=>gk (Cs h) _ (by simp[AV.closed]) hr
 |.sub ..,_,d,_=>by simp[pk]at d
 |.svec ..,_,d,_=>by simp[pk]at d
 |.sptr ..,_,d,_=>by simp[pk]at d
 |.ptr id aq k row col,c,d,hr=>by
  simp only[pk,aO,jC]at d;obtain⟨h1,y⟩:=d;have y:=bN y;subst y;simp only[ad]at hr|-;obtain⟨M,I,O⟩:=hr;refine⟨M,h.bF id h1 I,fun N=>?_⟩;obtain⟨U,W⟩:=h.live id h1 I N
  grind
 |.vQ k id aq oF n,c,d,hr=>by
  simp only[pk,aO,jC]at d;obtain⟨h1,y⟩:=d;have y:=bN y;subst y;simp only[ad]at hr|-;obtain⟨M,I,O⟩:=hr;refine⟨M,h.bF id h1 I,fun N=>?_⟩;obtain⟨U,W⟩:=h.live id h1 I N
  grind
 |.map id,c,d,hr=>by
  simp only[pk,jC]at d;simp only[ad]at hr|-;obtain⟨M,I,O⟩:=hr;refine⟨M,h.bF id d I,fun N=>?_⟩;obtain⟨U,W⟩:=h.live id d I N
  grind
 |.clo f caps,c,d,hr=>by
  simp only[ad]at hr|-;obtain⟨cs,e,y⟩:=hr;exact⟨cs,e,Cy h caps (by simpa only[pk]using d) y⟩
 |.ifc,c,_,hr=>by simpa only[ad]using hr
 |.emptyS n,c,_,hr=>by simpa only[ad]using hr
theorem Cy{E E':ah}{m:Nat}(h:E.fX m E'):∀(as:List AV) {d:List Value},sq m as=true->aw E as d->aw E' as d
 |[],[],_,_=>by simp[aw]
 |[],_::_,_,hr=>by simp[aw]at hr
 |_::_,[],_,hr=>by simp[aw]at hr
 |a::as,v::d,k,hr=>by
  simp only[sq,aO]at k;simp only[aw]at hr|-;exact⟨SA h a k.1 hr.1,Cy h as k.2 hr.2⟩
end
theorem ah.fX.mono{m':Nat}(h:E.fX m' E')(hm:m<=m'):E.fX m E':=
 ⟨fun id hi=>h.bF id ab,h.size,h.same,h.af,fun id hi=>h.live id ab,h.X,h.rl,h.env,fun id hi=>h.grow id ab⟩
structure ah.qT (m l:Nat) (E E':ah):Prop where
 bF:∀id,id<m->E.bF id 0->E'.bF id 0
 size:E.w.heap.size<=E'.w.heap.size
 same:∀b,b<E.w.heap.size->¬ E.af b->b≠l->E'.w.heap[b]?=E.w.heap[b]?
 af:∀b,b<E.w.heap.size->¬ E.af b->¬ E'.af b
 live:∀id,id<m->E.bF id 0->E'.live id 0->E.live id 0/\E'.ae[id]?=E.ae[id]?
 X:∀b,b<E.w.heap.size->(E'.X b↔E.X b)/\(E'.X.z b↔E.X.z b)
 rl:∀l h,h<(E.X.r l).length->h<(E'.X.r l).length/\∀q,(E'.X.r l)[h]?=some (some q)->(E.X.r l)[h]?=some (some q)
 env:fl E.w E'.w
 grow:∀id,id<m->∀l o,E.H[id]?=some o->o.eS=some l->E'.live id 0->(∃t,E'.X.r l=E.X.r l++t)/\∃o',E'.H[id]?=some o'/\o'.eS=some l
theorem ah.fX.toX(h:E.fX m E'):E.qT m l E':=⟨h.bF,h.size,fun b hb ho _=>h.same b hb ho,h.af,h.live,h.X,h.rl,h.env,h.grow⟩
theorem ah.qT.trans{m l:Nat}{E E' N:ah}(h:E.qT m l E')(h':E'.qT m l N):E.qT m l N where
 bF:=fun id hi k=>h'.bF id hi (h.bF id hi k)
 size:=Nat.le_trans h.size h'.size
 same:=fun b hb ho d=>by rw[h'.same b (fD hb h.size) (h.af b hb ho) d,h.same b hb ho d]
 af:=fun b hb ho=>h'.af b (fD hb h.size) (h.af b hb ho)
 live:=fun id hi O d=>by
  obtain⟨y,W⟩:=h'.live id hi (h.bF id hi O) d;obtain⟨b1,b2⟩:=h.live id hi O y
  grind
 X:=fun b hb=>by
  have h1:=h'.X b (fD hb h.size);have I:=h.X b hb
  grind
 rl:=fun l i hi=>by
  obtain⟨y,W⟩:=h.rl l i hi;obtain⟨b1,b2⟩:=h'.rl l i y
  grind
 env:=h.env.trans h'.env
 grow:=fun id hi l o h1 I M=>by
  have k:E.bF id 0:=⟨o,h1,aj.JB I,fun v M=>Nat.zero_le _⟩
  obtain⟨U,_⟩:=h'.live id hi (h.bF id hi k) M;obtain⟨⟨t,ht⟩,o',g1,g2⟩:=h.grow id hi l o h1 I U;obtain⟨⟨t',ht'⟩,o'',g3,g4⟩:=h'.grow id hi l o' g1 g2 M
  grind
theorem ah.qT.toM(h:E.qT m l E')(d:l<E.w.heap.size->E'.w.heap[l]?=E.w.heap[l]?):E.fX m E':=
 ⟨h.bF,h.size,fun b hb ho=>by
  by_cases e:b=l
  grind
  ·exact h.same b hb ho e,h.af,h.live,h.X,h.rl,h.env,h.grow⟩
theorem Mo{w:bh}{ae:List (Option (Nat × Nat))}{o:Obj}(hX:X l)(HE:aJ { w:=w,H:=H,ae:=ae,X:=X }):
  ln { w:=w,H:=H,ae:=ae,X:=X } { w:=w.putObj l o,H:=H,ae:=ae,X:=X }:=
 ⟨rfl,rfl,au,fun b _ d=>⟨d,OQ fun e=>d (by rw[e]; exact hX)⟩,fun b hb=>by
  have:=HE.X b hb
  simp_all,rfl⟩
theorem Mp{ae:List (Option (Nat × Nat))}{o:Obj}:({ w:=w,H:=H,ae:=ae,X:=X }:ah).qT m l { w:=w.putObj l o,H:=H,ae:=ae,X:=X }:=
 ⟨fun _ _ h=>h,au,fun b _ _ h=>OQ h,fun _ _ h=>h,fun _ _ _ h=>⟨h,rfl⟩,fun _ _=>⟨Iff.rfl,Iff.rfl⟩,fun _ _ h=>⟨h,fun _ hq=>hq⟩,⟨rfl,rfl,rfl,by first|exact fun _=>aV _|exact fun _=>Nat.le_add_right _ _⟩,fun _ _ _ o h1 d _=>⟨⟨[],(List.append_nil _).symm⟩,o,h1,d⟩⟩
theorem SB{r:Loop}{o:Obj}{k:List Deferred}(h:nh w X k)(y:w.heap[l]?=some (.loop r)):nh (w.putObj l o) X k:=
 ⟨h.1,fun d v=>by
  obtain⟨D,e,h1,I,M⟩:=h.2 d v
  grind[OQ]⟩
structure BwR (P:ak) (m:Nat) (n:Nat) (rv:Nat->AV) (p0 p1:Tmp) (assign body:Code) (S:Nat->St):Prop where
 na:jq assign=true
 nb:jq body=true
 fix:∀k,k<n->sq m (S k).fr=true
 round:∀k,k<n->∃s1 s2,dU P m assign ⟨((S k).fr.set p0 (.lit (.int .i64 ((n:Int)-1-k)))).set p1 (rv (n-1-k)),(S k).H⟩ .normal s1/\dU P m body s1 .normal s2/\bO m ⟨(S k).fr,s2.H⟩ (S (k+1))
section bw
variable {P:ak} {m':Nat} {n:Nat} {rv:Nat->AV} {p0 p1:Tmp} {assign body:Code} {S:Nat->St}
end bw
variable {P:ak}
structure BwI where
 f:bJ
 T1:aK
 T2:aK
 w:Nat
 pw:Nat
 agg:Bool
def GC:ax->Bool
 |.vQ _ v _=>aD v 0
 |.map ..=>true
 |.ba ..=>true
 |.mm ..=>true
 |.cZ ..=>true
 |.bU ..=>true
 |.raw (.vQ _ v _)=>aD v 0
 |.raw .dead=>false
 |.raw .eV=>false
 |.raw _=>true
theorem aex{H:List ax}(h:H.all GC=true):Fl (ay H):=by
 intro o ho;obtain⟨t,d,rfl⟩:=List.mem_map.1 ho;have:=List.all_eq_true.1 h t d;cases t with
 |vQ ks v rZ=>simp only[GC]at this; rw[bN this]; rfl
 |map=>rfl
 |ba=>rfl
 |mm=>rfl
 |cZ=>rfl
 |bU=>rfl
 |raw o=>cases o with
  |vQ k v rZ=>simp only[GC]at this; rw[bN this]; rfl
  |dead=>cases this
  |eV=>cases this
  |box=>rfl
  |map=>rfl
  |iter=>rfl
  |ij=>rfl
  |ba=>rfl
  |mm=>rfl
  |cZ=>rfl
  |bU=>rfl
def SC(P:ak)(τ:aF)(fn:Func)(args:List AV)(H:List ax):Option (Bool × AV × List ax):=
 match H.all GC with
 |true=>match (eH P τ bx (bf fn) ⟨gY args fn.ntmps,H⟩ .done).kR with
  |some (.normal,s')=>match ll P s'.ao fn.results.toList with
   |some d=>some (true,fc d,s'.H)
   |none=>none
  |some (.ret,s')=>match ll P s'.ao fn.results.toList with
   |some d=>some (true,fc d,s'.H)
   |none=>none
  |_=>none
 |false=>none
def aF.qU(P:ak)(τ:aF)(f:bJ)(fn:Func):aF where
 pf g:=match aD g f with
  |true=>false
  |false=>τ.pf g
 T g as:=match aD g f with
  |true=>none
  |false=>τ.T g as
 W g as H:=match aD g f with
  |true=>SC P τ fn as H
  |false=>τ.W g as H
 C g as H:=match aD g f with
  |true=>List.range H.length
  |false=>τ.C g as H
 I:=τ.I
 N g:=match aD g f with
  |true=>false
  |false=>τ.N g
 U g:=match aD g f with
  |true=>true
  |false=>τ.U g
theorem aH.qU{P:ak}{τ:aF}(h:aH P τ)(hm:P.follows .mixedOrders=true){f:bJ}{fn:Func}(hf:P.funcs[f]?=some fn)(hb:gr P f=true)(hbs:fn.body.isSome=true):aH P (τ.qU P f fn):=by
 refine⟨fun g as b v d M=>?_,fun g as H b v H' d M=>?_,fun g as H b v H' d A hA k=>?_,fun g as H t d Q hQ=>?_,?_⟩
 rotate_left 4
 ·refine⟨fun g N as H=>?_,fun g O as H b v H' d id o k y=>?_⟩
  ·simp only[aF.qU]at N |-
   cases e:aD g f with
   |true=>grind
   |false=>
    rw[e]at N;exact h.F.1 g N as H
  ·simp only[aF.qU]at O d y |-
   cases e:aD g f with
   |true=>grind
   |false=>
    rw[e]at O d y;exact h.F.2 g O as H b v H' d id o k y
 rotate_left 3
 ·obtain⟨g1,v,H',g2,g3,g4⟩:=h.I g as H t d Q hQ
  refine⟨g1,v,H',g2,fun A hA k=>g3 A (fun hm=>hA ?_) k,g4⟩
  grind[aF.qU]
 ·simp only[aF.qU]at d
  split at d
  ·cases d
  ·exact h.T g as b v d M
 ·simp only[aF.qU]at d
  split at d
  ·rename_i e
   have e:=bN e;subst e;refine⟨hb,?_⟩;obtain⟨c,hc⟩:=Option.isSome_iff_exists.1 hbs;have hbo:bf fn=c:=by unfold bf; rw[hc]
   unfold SC at d;rw[hbo]at d;split at d
   case h_2=>cases d
   rename_i hfr;have key:∀{x:cu} {s':aG} {U:List AV},(eH P τ bx c ⟨gY as fn.ntmps,H⟩ .done).kR=some (x,s')->(x=.normal\/x=.ret)->ll P s'.ao fn.results.toList=some U->fL P g as (ay H) (fc U) (ay s'.H):=by
    intro x s' U h1 hx h2;obtain⟨x1,s1,h3,h4⟩:=jt hm h c ⟨gY as fn.ntmps,H⟩ .done (bG P (ay H).length c) (wK h1);obtain⟨rfl,rfl⟩:=h4;exact abM hf hc h3 hx h2 (aex hfr)
   grind
  ·exact h.W g as H b v H' d M
 ·simp only[aF.qU]at d hA
  split at d
  grind
  ·rename_i e
   rw[e]at hA;exact h.C g as H b v H' d A hA k
end Go.AL

namespace Go.AL
open Go Go.ChangeMaps
variable [Dr]
section range
variable {P:ak} {τ:aF} {L:LT} {m:Nat} {sp:lx} {db dC cD:Array aQ} {body:Code} {ri:LG->LL} {ci:LG->Nat}
end range
def ft.GD{m m':Nat}{E:ah}{s':St}{d:Act}{w':bh}(h:ft m' E s' d w')(hm:m<=m'):ft m E s' d w':=by
 obtain⟨k,v,h1,y⟩:=h;exact⟨k,v,h1,y.mono hm⟩
def dU.mono{P:ak}{m m':Nat}{c:Code}{s:St}{x:cu}{s':St}(h:dU P m' c s x s')(hm:m<=m'):dU P m c s x s':=
 fun v k E a y=>wpIn_mono (h v k E a y) fun _ _ _ d=>⟨d.1,d.2.GD hm⟩
def yo.mono{P:ak}{m m':Nat}{c:Code}(hm:m<=m'){x:cu}{s':St}:∀{n:Nat} {s:St},yo P m' c n s x s'->yo P m c n s x s'
 |0,_,h=>⟨h.1,h.2.mono hm⟩
 |_+1,_,⟨s1,h1,d⟩=>⟨s1,h1.mono hm,d.mono hm⟩
def aT.mono{P:ak}{m m':Nat}{L:LT}{c:Code}(h:aT P m' L c)(hm:Nat.ble m m'=true):aT P m L c:=by
 have hm:=Nat.le_of_ble_eq_true hm;refine⟨fun k d v s t y Q I=>?_,fun id s N E a O=>(h.2.1 id s N E a O).GD hm,fun k d v s t y Q I=>?_⟩
 ·obtain⟨x,s',⟨n,h1⟩,M⟩:=h.1 k d v s t y Q I
  exact⟨x,s',⟨n,h1.mono hm⟩,M⟩
 ·obtain⟨x,s',h1,M⟩:=h.2.2 k d v s t y Q I
  exact⟨x,s',h1.mono hm,M⟩
open Go
def fl.qV{w w':bh}(h:@fl rJ w w'):fl w w':=⟨h.1,h.2.1,h.2.2.1,fun _=>h.2.2.2 rfl⟩
def ah.le.qV{E E':ah}(h:@ah.le rJ E E'):E.le E':=by
 cases h with
 |mk a b c d e f r g w=>exact⟨a,b,c,d,e,f,r,fl.qV g,w⟩
def jn.qV{P:ak}{f:bJ}{args:List AV}{H:List aj}{Q:AV->List aj->Prop}(h:@jn rJ P f args H Q):jn P f args H Q:=fun E d h1 y I=>
 (h E d h1 y I).mono fun _ _ ⟨c,v,H',e,q,k,M,r1,r2,r3⟩=>⟨c,v,H',e,q,k,M,r1,r2,r3.qV⟩
def aH.qV{P:ak}{τ:aF}(h:@aH rJ P τ):aH P τ:=by
 cases h with
 |mk k y hC I M=>
  refine⟨fun f args b v h1 d=>⟨(k f args b v h1 d).1,fun H=>jn.qV ((k f args b v h1 d).2 H)⟩,fun f args H b v H' h1 d=>⟨(y f args H b v H' h1 d).1,jn.qV (y f args H b v H' h1 d).2⟩,hC,fun f args H t h1 Q d=>?_,M⟩;obtain⟨N,v,H',O,U,W⟩:=I f args H t h1 Q d;exact⟨N,v,H',jn.qV O,U,W⟩
end Go.AL
