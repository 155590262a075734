/-
 What is proved: a range over slices.Backward. No condition.
-/
import Derived.Test.YtomcmchdbdnclaaGreatDoorMD
import Derived.Test.YtomcmchdbdnclaaGreatDoorMC
import Derived.Lib.LaidTab
import Derived.Sort.Grow
import Derived.Deep.Draws
set_option linter.all false
open Bool renaming and_eq_true->ax
open Nat renaming lt_of_lt_of_le->dM,eq_of_beq_eq_true->ba,blt->cC,blt_eq->gG
namespace Go.AL
open Go
variable [Dr]
structure amj (S T:TypeId) (di eW c9 Pg:Array Oper):Prop where
 r0:∃ o1 o2 o3 o4 t t',di.toList=[o1,o2,o3,o4]/\(o1.guard=none/\o1.op=.load S (.tmp 1)/\o1.dst=some 4)/\(o2.guard=none/\o2.op=.call { callee:=.builtin .len,args:=#[.tmp 4],argTypes:=#[S] }/\o2.dst=some 5) /\
  (o3.guard=none/\o3.op=.binOp .sub t (.tmp 5) (.const (.int .i64 1)) t'/\o3.dst=some 6)/\(o4.guard=none/\o4.op=.assign (.tmp 6)/\o4.dst=some 3)
 r1:∃ o1 o2 t t',eW.toList=[o1,o2]/\(o1.guard=none/\o1.op=.move (.tmp 3)/\o1.dst=some 7)/\(o2.guard=none/\o2.op=.binOp .geq t (.tmp 7) (.const (.int .i64 0)) t'/\o2.dst=some 8)
 r2:∃ o1 o2 o3 t t',c9.toList=[o1,o2,o3]/\(o1.guard=none/\o1.op=.move (.tmp 3)/\o1.dst=some 9)/\(o2.guard=none/\o2.op=.binOp .sub t (.tmp 9) (.const (.int .i64 1)) t'/\o2.dst=some 10)/\(o3.guard=none/\o3.op=.assign (.tmp 10)/\o3.dst=some 3)
 r3:∃ o1 o2 o3 o4 o5 o6 o7 o8 t tys,Pg.toList=[o1,o2,o3,o4,o5,o6,o7,o8]/\(o1.guard=none/\o1.op=.move (.tmp 0)/\o1.dst=some 11)/\(o2.guard=none/\o2.op=.move (.tmp 3)/\o2.dst=some 12)/\(o3.guard=none/\o3.op=.load S (.tmp 1)/\o3.dst=some 13) /\
  (o4.guard=none/\o4.op=.move (.tmp 3)/\o4.dst=some 14)/\(o5.guard=none/\o5.op=.indexAddr S (.tmp 13) (.tmp 14)/\o5.dst=some 15)/\(o6.guard=none/\o6.op=.load T (.tmp 15)/\o6.dst=some 16) /\
  (o7.guard=none/\o7.op=.call { callee:=.value (.tmp 11),args:=#[.tmp 12,.tmp 16],argTypes:=tys }/\o7.dst=some 17)/\(o8.guard=none/\o8.op=.unOp .not t (.tmp 17)/\o8.dst=some 18)
structure BwT (P:Program) (S T:TypeId) (sl:AV) (n:Nat) (rv:Nat->AV):Prop where
 load:∀ H,lM P S (.cptr [sl]) H=some sl
 len:Fb (cD P S) sl=some (.lit (.int .i64 (n:Nat)))
 idx:∀ i:Int,0<=i->i<n->∃ cells,jt (cD P S) sl (.lit (.int .i64 i))=some (.cptr cells)/\∀ H,lM P T (.cptr cells) H=some (rv i.toNat)
 cl:AV.bu [sl]=true
end Go.AL
namespace Go.AL
open Go
variable [Dr]
section bw
variable {P:Program} {pf:FuncId->Bool} {S T:TypeId} {sl:AV} {n:Nat} {rv:Nat->AV} {di eW c9 Pg:Array Oper}
end bw
end Go.AL

namespace Go.AL
open Go
variable [Dr]
mutual
def mV(m:Nat):AV->Bool
 |.agg cs=>sd m cs
 |.tuple cs=>sd m cs
 |.clo _ cs=>sd m cs
 |.ptr id ver _ _ _=>cC id m&&Nat.beq ver 0
 |.vec _ id ver _ _=>cC id m&&Nat.beq ver 0
 |.map id=>cC id m
 |.sub ..=>false
 |.svec ..=>false
 |.sptr ..=>false
 |_=>true
def sd(m:Nat):List AV->Bool
 | []=>true
 |a::as=>mV m a&&sd m as
end
mutual
theorem abv{E E':Env}{m:Nat}(h:E.fS m E'):∀(a:AV) {c:Value},mV m a=true->rel E a c->rel E' a c
 |.undef,_,_,_=>by simp[rel]
 |.lit v,c,_,hr=>by simpa only[rel]using hr
 |.nils,c,_,hr=>by simpa only[rel]using hr
 |.list k rows,c,_,hr=>eQ (yh h) _ (by simp[AV.closed]) hr
 |.listF ks rows,c,_,hr=>eQ (yh h) _ (by simp[AV.closed]) hr
 | .agg cells,c,d,hr=>by
  simp only[rel]at hr|-;obtain⟨cs,e,h1,g⟩:=hr;exact⟨cs,e,h1,Ce h cells (by simpa only[mV]using d) g⟩
 | .tuple cells,c,d,hr=>by
  simp only[rel]at hr|-;obtain⟨cs,e,g⟩:=hr;exact⟨cs,e,Ce h cells (by simpa only[mV]using d) g⟩
 |.cptr cells,c,_,hr=>eQ (yh h) _ (by simp[AV.closed]) hr
 |.sub ..,_,d,_=>by simp[mV]at d
 |.svec ..,_,d,_=>by simp[mV]at d
 |.sptr ..,_,d,_=>by simp[mV]at d
 | .ptr id ver k row col,c,d,hr=>by
  simp only[mV,ax,gG]at d;obtain⟨h1,g⟩:=d;have g:=ba g;subst g;simp only[rel]at hr|-;obtain⟨g1,g2,g3⟩:=hr;refine⟨g1,h.past id h1 g2,fun q=>?_⟩;obtain⟨u,y⟩:=h.live id h1 g2 q;rw[y];exact g3 u
 | .vec k id ver off n,c,d,hr=>by
  simp only[mV,ax,gG]at d;obtain⟨h1,g⟩:=d;have g:=ba g;subst g;simp only[rel]at hr|-;obtain⟨g1,g2,g3⟩:=hr;refine⟨g1,h.past id h1 g2,fun q=>?_⟩;obtain⟨u,y⟩:=h.live id h1 g2 q;rw[y];exact g3 u
 | .map id,c,d,hr=>by
  simp only[mV,gG]at d;simp only[rel]at hr|-;obtain⟨g1,g2,g3⟩:=hr;refine⟨g1,h.past id d g2,fun q=>?_⟩;obtain⟨u,y⟩:=h.live id d g2 q;rw[y];exact g3 u
 | .clo f caps,c,d,hr=>by
  simp only[rel]at hr|-;obtain⟨cs,e,g⟩:=hr;exact⟨cs,e,Ce h caps (by simpa only[mV]using d) g⟩
 |.ifc,c,_,hr=>by simpa only[rel]using hr
 |.emptyS n,c,_,hr=>by simpa only[rel]using hr
theorem Ce{E E':Env}{m:Nat}(h:E.fS m E'):∀(as:List AV) {vs:List Value},sd m as=true->ae E as vs->ae E' as vs
 | [],[],_,_=>by simp[ae]
 | [],_::_,_,hr=>by simp[ae]at hr
 |_::_,[],_,hr=>by simp[ae]at hr
 | a::as,v::vs,d,hr=>by
  simp only[sd,ax]at d;simp only[ae]at hr|-;exact⟨abv h a d.1 hr.1,Ce h as d.2 hr.2⟩
end
theorem Env.fS.mono{m m':Nat}{E E':Env}(h:E.fS m' E')(hm:m<=m'):E.fS m E' :=
 ⟨fun id hi=>h.past id (by omega),h.size,h.same,h.own,fun id hi=>h.live id (by omega),h.X,h.rl,h.env,fun id hi=>h.grow id (by omega)⟩
structure Env.uU (m l:Nat) (E E':Env):Prop where
 past:∀ id,id<m->E.past id 0->E'.past id 0
 size:E.w.heap.size<=E'.w.heap.size
 same:∀ b,b<E.w.heap.size->¬ E.own b->b≠l->E'.w.heap[b]? = E.w.heap[b]?
 own:∀ b,b<E.w.heap.size->¬ E.own b->¬ E'.own b
 live:∀ id,id<m->E.past id 0->E'.live id 0->E.live id 0/\E'.loc[id]? = E.loc[id]?
 X:∀ b,b<E.w.heap.size->(E'.X b↔E.X b)/\(E'.X.z b↔E.X.z b)
 rl:∀ l h,h<(E.X.r l).length->h<(E'.X.r l).length/\∀ q,(E'.X.r l)[h]? = some (some q)->(E.X.r l)[h]? = some (some q)
 env:eE E.w E'.w
 grow:∀ id,id<m->∀ l o,E.H[id]? = some o->o.dc=some l->E'.live id 0->(∃ t,E'.X.r l=E.X.r l++t)/\∃ o',E'.H[id]? = some o'/\o'.dc=some l
theorem Env.uU.trans{m l:Nat}{E E' M:Env}(h:E.uU m l E')(h':E'.uU m l M):E.uU m l M where
 past:=fun id hi k=>h'.past id hi (h.past id hi k)
 size:=Nat.le_trans h.size h'.size
 same:=fun b hb ho g=>by rw[h'.same b (dM hb h.size) (h.own b hb ho) g,h.same b hb ho g]
 own:=fun b hb ho=>h'.own b (dM hb h.size) (h.own b hb ho)
 live:=fun id hi hid g=>by
  obtain⟨u,a2⟩:=h'.live id hi (h.past id hi hid) g;obtain⟨b1,y⟩:=h.live id hi hid u;exact⟨b1,by rw[a2,y]⟩
 X:=fun b hb=>by
  have h1:=h'.X b (dM hb h.size);have d:=h.X b hb;exact⟨h1.1.trans d.1,h1.2.trans d.2⟩
 rl:=fun l i hi=>by
  obtain⟨u,a2⟩:=h.rl l i hi;obtain⟨b1,y⟩:=h'.rl l i u;exact⟨b1,fun q V=>a2 q (y q V)⟩
 env:=h.env.trans h'.env
 grow:=fun id hi l o h1 d I=>by
  have k:E.past id 0:=⟨o,h1,ab.Ej d,fun v I=>Nat.zero_le _⟩
  obtain⟨N,_⟩:=h'.live id hi (h.past id hi k) I;obtain⟨⟨t,W⟩,o',g1,g2⟩:=h.grow id hi l o h1 d N;obtain⟨⟨t',O⟩,U,g3,g4⟩:=h'.grow id hi l o' g1 g2 I;exact⟨⟨t++t',by rw[O,W,List.append_assoc]⟩,U,g3,g4⟩
theorem Env.uU.toM{m l:Nat}{E E':Env}(h:E.uU m l E')(d:l<E.w.heap.size->E'.w.heap[l]? = E.w.heap[l]?):E.fS m E' :=
 ⟨h.past, h.size, fun b hb ho => by
  by_cases e:b=l
  ·subst e
   exact d hb
  ·exact h.same b hb ho e,h.own,h.live,h.X,h.rl,h.env,h.grow⟩
end Go.AL

namespace Go.AL
open Go
variable [Dr]
structure BwR (P:Program) (m:Nat) (n:Nat) (rv:Nat->AV) (p0 p1:Tmp) (assign body:Code) (S:Nat->St):Prop where
 na:je assign=true
 nb:je body=true
 fix:∀ k,k<n->sd m (S k).fr=true
 round:∀ k,k<n->∃ s1 s2,dp P m assign ⟨((S k).fr.set p0 (.lit (.int .i64 ((n:Int)-1-k)))).set p1 (rv (n-1-k)),(S k).H⟩ .normal s1/\dp P m body s1 .normal s2/\bh m ⟨(S k).fr,s2.H⟩ (S (k+1))
section bw
variable {P:Program} {m':Nat} {n:Nat} {rv:Nat->AV} {p0 p1:Tmp} {assign body:Code} {S:Nat->St}
end bw
end Go.AL

namespace Go.AL
open Go
variable [Dr]
variable {P:Program}
structure BwI where
 f:FuncId
 T1:TypeId
 T2:TypeId
 w:Nat
 pw:Nat
 agg:Bool
end Go.AL

namespace Go.AL
open Go
variable [Dr]
end Go.AL

namespace Go.AL
open Go Go.ChangeMaps
variable [Dr]
section range
variable {P:Program} {τ:au} {L:LT} {m:Nat} {sp:iu} {di eW c9:Array Oper} {body:Code} {ri:List G->List (List G)} {ci:List G->Nat}
end range
theorem eH.Ph{m m':Nat}{E:Env}{s':St}{d:Act}{w':World}(h:eH m' E s' d w')(hm:m<=m'):eH m E s' d w':=by
 obtain⟨g,X',h1,k⟩:=h;exact⟨g,X',h1,k.mono hm⟩
theorem dp.mono{P:Program}{m m':Nat}{c:Code}{s:St}{x:bU}{s':St}(h:dp P m' c s x s')(hm:m<=m'):dp P m c s x s' :=
 fun ro g E a k=>wpIn_mono (h ro g E a k) fun _ _ _ d=>⟨d.1,d.2.Ph hm⟩
theorem ub.mono{P:Program}{m m':Nat}{c:Code}(hm:m<=m'){x:bU}{s':St}:∀{n:Nat} {s:St},ub P m' c n s x s'->ub P m c n s x s'
 |0,_,h=>⟨h.1,h.2.mono hm⟩
 |_+1,_,⟨s1,h1,d⟩=>⟨s1,h1.mono hm,d.mono hm⟩
theorem ay.mono{P:Program}{m m':Nat}{L:LT}{c:Code}(h:ay P m' L c)(hm:Nat.ble m m'=true):ay P m L c:=by
 have hm:=Nat.le_of_ble_eq_true hm;refine⟨fun k d hk s t g Q q=>?_,fun id s v E a y=>(h.2.1 id s v E a y).Ph hm,fun k d hk s t g Q q=>?_⟩
 ·obtain ⟨x, s', ⟨n, h1⟩, u⟩ := h.1 k d hk s t g Q q
  exact⟨x,s',⟨n,h1.mono hm⟩,u⟩
 ·obtain ⟨x, s', h1, u⟩ := h.2.2 k d hk s t g Q q
  exact⟨x,s',h1.mono hm,u⟩
end Go.AL

namespace Go.AL
open Go
variable [Dr]
end Go.AL

namespace Go.AL
open Go
variable [Dr]
end Go.AL
