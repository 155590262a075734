/-
 What is proved here: the function that slices.Backward hands back,called with a round's body: the rounds come from the last row to the first one. No program in sight; no condition.
-/
import Derived.Test.YtbogdflhnhohfaaGreatDoorMD
import Derived.Test.YtbogdflhnhohfaaGreatDoorMC
import Derived.Lib.LaidTab
import Derived.Sort.Grow
import Derived.Deep.Draws
set_option linter.all false
open Bool renaming and_eq_true->aK
open Go renaming TypeId->aF,Program->aj
open Nat renaming lt_of_lt_of_le->eU,eq_of_beq_eq_true->bz,blt->dq,blt_eq->iZ
namespace Go.AL
open Go
variable [Dr]
structure am0 (S T:aF) (dY fJ dR O8:Array Oper):Prop where
 r0:∃ o1 o2 o3 o4 t t',dY.toList=[o1,o2,o3,o4]/\(o1.guard=none/\o1.op=.load S (.tmp 1)/\o1.dst=some 4)/\(o2.guard=none/\o2.op=.call { callee:=.builtin .len,args:=#[.tmp 4],argTypes:=#[S] }/\o2.dst=some 5) /\
  (o3.guard=none/\o3.op=.binOp .sub t (.tmp 5) (.const (.int .i64 1)) t'/\o3.dst=some 6)/\(o4.guard=none/\o4.op=.assign (.tmp 6)/\o4.dst=some 3)
 r1:∃ o1 o2 t t',fJ.toList=[o1,o2]/\(o1.guard=none/\o1.op=.move (.tmp 3)/\o1.dst=some 7)/\(o2.guard=none/\o2.op=.binOp .geq t (.tmp 7) (.const (.int .i64 0)) t'/\o2.dst=some 8)
 r2:∃ o1 o2 o3 t t',dR.toList=[o1,o2,o3]/\(o1.guard=none/\o1.op=.move (.tmp 3)/\o1.dst=some 9)/\(o2.guard=none/\o2.op=.binOp .sub t (.tmp 9) (.const (.int .i64 1)) t'/\o2.dst=some 10)/\(o3.guard=none/\o3.op=.assign (.tmp 10)/\o3.dst=some 3)
 r3:∃ o1 o2 o3 o4 o5 o6 o7 o8 t jv,O8.toList=[o1,o2,o3,o4,o5,o6,o7,o8]/\(o1.guard=none/\o1.op=.move (.tmp 0)/\o1.dst=some 11)/\(o2.guard=none/\o2.op=.move (.tmp 3)/\o2.dst=some 12)/\(o3.guard=none/\o3.op=.load S (.tmp 1)/\o3.dst=some 13) /\
  (o4.guard=none/\o4.op=.move (.tmp 3)/\o4.dst=some 14)/\(o5.guard=none/\o5.op=.indexAddr S (.tmp 13) (.tmp 14)/\o5.dst=some 15)/\(o6.guard=none/\o6.op=.load T (.tmp 15)/\o6.dst=some 16) /\
  (o7.guard=none/\o7.op=.call { callee:=.value (.tmp 11),args:=#[.tmp 12,.tmp 16],argTypes:=jv }/\o7.dst=some 17)/\(o8.guard=none/\o8.op=.unOp .not t (.tmp 17)/\o8.dst=some 18)
structure BwT (P:aj) (S T:aF) (sl:AV) (n:Nat) (rv:Nat->AV):Prop where
 load:∀ H,nl P S (.cptr [sl]) H=some sl
 len:G3 (cZ P S) sl=some (.lit (.int .i64 (n:Nat)))
 idx:∀ i:Int,0<=i->i<n->∃ cells,ku (cZ P S) sl (.lit (.int .i64 i))=some (.cptr cells)/\∀ H,nl P T (.cptr cells) H=some (rv i.toNat)
 cl:AV.bM [sl]=true
end Go.AL
namespace Go.AL
open Go
variable [Dr]
section bw
variable {P:aj} {pf:FuncId->Bool} {S T:aF} {sl:AV} {n:Nat} {rv:Nat->AV} {dY fJ dR O8:Array Oper}
end bw
end Go.AL

namespace Go.AL
open Go
variable [Dr]
mutual
def oN(m:Nat):AV->Bool
 |.agg cs=>ue m cs
 |.tuple cs=>ue m cs
 |.clo _ cs=>ue m cs
 |.ptr id al _ _ _=>dq id m&&Nat.beq al 0
 |.vQ _ id al _ _=>dq id m&&Nat.beq al 0
 |.map id=>dq id m
 |.sub ..=>false
 |.svec ..=>false
 |.sptr ..=>false
 |_=>true
def ue(m:Nat):List AV->Bool
 | []=>true
 |a::as=>oN m a&&ue m as
end
mutual
def aam{E E':af}{m:Nat}(h:E.gC m E'):∀(a:AV) {c:Value},oN m a=true->ad E a c->ad E' a c
 |.undef,_,_,_=>by simp[ad]
 |.lit v,c,_,d=>by simpa only[ad]using d
 |.nils,c,_,d=>by simpa only[ad]using d
 |.list k rZ,c,_,d=>fE (Ai h) _ (by simp[AV.closed]) d
 |.listF ks rZ,c,_,d=>fE (Ai h) _ (by simp[AV.closed]) d
 | .agg cells,c,g,d=>by
  simp only[ad]at d|-;obtain⟨cs,e,h1,q⟩:=d;exact⟨cs,e,h1,DK h cells (by simpa only[oN]using g) q⟩
 | .tuple cells,c,g,d=>by
  simp only[ad]at d|-;obtain⟨cs,e,q⟩:=d;exact⟨cs,e,DK h cells (by simpa only[oN]using g) q⟩
 |.cptr cells,c,_,d=>fE (Ai h) _ (by simp[AV.closed]) d
 |.sub ..,_,g,_=>by simp[oN]at g
 |.svec ..,_,g,_=>by simp[oN]at g
 |.sptr ..,_,g,_=>by simp[oN]at g
 | .ptr id al k row V,c,g,d=>by
  simp only[oN,aK,iZ]at g;obtain⟨h1,q⟩:=g;have q:=bz q;subst q;simp only[ad]at d|-;obtain⟨I,y,M⟩:=d;refine⟨I,h.bx id h1 y,fun N=>?_⟩;obtain⟨O,U⟩:=h.live id h1 y N;rw[U];exact M O
 | .vQ k id al oF n,c,g,d=>by
  simp only[oN,aK,iZ]at g;obtain⟨h1,q⟩:=g;have q:=bz q;subst q;simp only[ad]at d|-;obtain⟨I,y,M⟩:=d;refine⟨I,h.bx id h1 y,fun N=>?_⟩;obtain⟨O,U⟩:=h.live id h1 y N;rw[U];exact M O
 | .map id,c,g,d=>by
  simp only[oN,iZ]at g;simp only[ad]at d|-;obtain⟨I,y,M⟩:=d;refine⟨I,h.bx id g y,fun N=>?_⟩;obtain⟨O,U⟩:=h.live id g y N;rw[U];exact M O
 | .clo f caps,c,g,d=>by
  simp only[ad]at d|-;obtain⟨cs,e,q⟩:=d;exact⟨cs,e,DK h caps (by simpa only[oN]using g) q⟩
 |.ifc,c,_,d=>by simpa only[ad]using d
 |.emptyS n,c,_,d=>by simpa only[ad]using d
def DK{E E':af}{m:Nat}(h:E.gC m E'):∀(as:List AV) {g:List Value},ue m as=true->ax E as g->ax E' as g
 | [],[],_,_=>by simp[ax]
 | [],_::_,_,d=>by simp[ax]at d
 |_::_,[],_,d=>by simp[ax]at d
 | a::as,v::g,k,d=>by
  simp only[ue,aK]at k;simp only[ax]at d|-;exact⟨aam h a k.1 d.1,DK h as k.2 d.2⟩
end
def af.gC.mono{m m':Nat}{E E':af}(h:E.gC m' E')(hm:m<=m'):E.gC m E' :=
 ⟨fun id hi=>h.bx id (by omega),h.size,h.same,h.ab,fun id hi=>h.live id (by omega),h.X,h.rl,h.env,fun id hi=>h.grow id (by omega)⟩
structure af.wO (m l:Nat) (E E':af):Prop where
 bx:∀ id,id<m->E.bx id 0->E'.bx id 0
 size:E.w.heap.size<=E'.w.heap.size
 same:∀ b,b<E.w.heap.size->¬ E.ab b->b≠l->E'.w.heap[b]? = E.w.heap[b]?
 ab:∀ b,b<E.w.heap.size->¬ E.ab b->¬ E'.ab b
 live:∀ id,id<m->E.bx id 0->E'.live id 0->E.live id 0/\E'.ae[id]? = E.ae[id]?
 X:∀ b,b<E.w.heap.size->(E'.X b↔E.X b)/\(E'.X.z b↔E.X.z b)
 rl:∀ l h,h<(E.X.r l).length->h<(E'.X.r l).length/\∀ q,(E'.X.r l)[h]? = some (some q)->(E.X.r l)[h]? = some (some q)
 env:fw E.w E'.w
 grow:∀ id,id<m->∀ l o,E.H[id]? = some o->o.dW=some l->E'.live id 0->(∃ t,E'.X.r l=E.X.r l++t)/\∃ o',E'.H[id]? = some o'/\o'.dW=some l
def af.wO.trans{m l:Nat}{E E' U:af}(h:E.wO m l E')(h':E'.wO m l U):E.wO m l U where
 bx:=fun id hi k=>h'.bx id hi (h.bx id hi k)
 size:=Nat.le_trans h.size h'.size
 same:=fun b hb ho g=>by rw[h'.same b (eU hb h.size) (h.ab b hb ho) g,h.same b hb ho g]
 ab:=fun b hb ho=>h'.ab b (eU hb h.size) (h.ab b hb ho)
 live:=fun id hi V g=>by
  obtain⟨y,I⟩:=h'.live id hi (h.bx id hi V) g;obtain⟨M,N⟩:=h.live id hi V y;exact⟨M,by rw[I,N]⟩
 X:=fun b hb=>by
  have h1:=h'.X b (eU hb h.size);have d:=h.X b hb;exact⟨h1.1.trans d.1,h1.2.trans d.2⟩
 rl:=fun l i hi=>by
  obtain⟨y,I⟩:=h.rl l i hi;obtain⟨M,N⟩:=h'.rl l i y;exact⟨M,fun q hq=>I q (N q hq)⟩
 env:=h.env.trans h'.env
 grow:=fun id hi l o h1 d O=>by
  have k:E.bx id 0:=⟨o,h1,ai.F8 d,fun v O=>Nat.zero_le _⟩
  obtain⟨W,_⟩:=h'.live id hi (h.bx id hi k) O;obtain⟨⟨t,ht⟩,o',g1,g2⟩:=h.grow id hi l o h1 d W;obtain⟨⟨t',ht'⟩,o'',g3,g4⟩:=h'.grow id hi l o' g1 g2 O;exact⟨⟨t++t',by rw[ht',ht,List.append_assoc]⟩,o'',g3,g4⟩
def af.wO.toM{m l:Nat}{E E':af}(h:E.wO m l E')(d:l<E.w.heap.size->E'.w.heap[l]? = E.w.heap[l]?):E.gC m E' :=
 ⟨h.bx, h.size, fun b hb ho => by
  by_cases e:b=l
  ·subst e
   exact d hb
  ·exact h.same b hb ho e,h.ab,h.live,h.X,h.rl,h.env,h.grow⟩
end Go.AL

namespace Go.AL
open Go
variable [Dr]
structure BwR (P:aj) (m:Nat) (n:Nat) (rv:Nat->AV) (p0 p1:Tmp) (assign body:Code) (S:Nat->St):Prop where
 na:j8 assign=true
 nb:j8 body=true
 fix:∀ k,k<n->ue m (S k).fr=true
 round:∀ k,k<n->∃ s1 s2,en P m assign ⟨((S k).fr.set p0 (.lit (.int .i64 ((n:Int)-1-k)))).set p1 (rv (n-1-k)),(S k).H⟩ .normal s1/\en P m body s1 .normal s2/\bG m ⟨(S k).fr,s2.H⟩ (S (k+1))
section bw
variable {P:aj} {m':Nat} {n:Nat} {rv:Nat->AV} {p0 p1:Tmp} {assign body:Code} {S:Nat->St}
end bw
end Go.AL

namespace Go.AL
open Go
variable [Dr]
variable {P:aj}
structure BwI where
 f:FuncId
 T1:aF
 T2:aF
 w:Nat
 pw:Nat
 agg:Bool
end Go.AL

namespace Go.AL
open Go
variable [Dr]
end Go.AL

namespace Go.AL
open Go Go.ChangeMaps
variable [Dr]
section range
variable {P:aj} {τ:aD} {L:LT} {m:Nat} {sp:ke} {dY fJ dR:Array Oper} {body:Code} {ri:LG->LL} {ci:LG->Nat}
end range
def fy.O9{m m':Nat}{E:af}{s':St}{d:Act}{w':World}(h:fy m' E s' d w')(hm:m<=m'):fy m E s' d w':=by
 obtain⟨g,k,h1,q⟩:=h;exact⟨g,k,h1,q.mono hm⟩
def en.mono{P:aj}{m m':Nat}{c:Code}{s:St}{x:cD}{s':St}(h:en P m' c s x s')(hm:m<=m'):en P m c s x s' :=
 fun k g E a q=>wpIn_mono (h k g E a q) fun _ _ _ d=>⟨d.1,d.2.O9 hm⟩
def vN.mono{P:aj}{m m':Nat}{c:Code}(hm:m<=m'){x:cD}{s':St}:∀{n:Nat} {s:St},vN P m' c n s x s'->vN P m c n s x s'
 |0,_,h=>⟨h.1,h.2.mono hm⟩
 |_+1,_,⟨s1,h1,d⟩=>⟨s1,h1.mono hm,d.mono hm⟩
def aT.mono{P:aj}{m m':Nat}{L:LT}{c:Code}(h:aT P m' L c)(hm:Nat.ble m m'=true):aT P m L c:=by
 have hm:=Nat.le_of_ble_eq_true hm;refine⟨fun k d g s t q Q v=>?_,fun id s I E a M=>(h.2.1 id s I E a M).O9 hm,fun k d g s t q Q v=>?_⟩
 ·obtain ⟨x, s', ⟨n, h1⟩, y⟩ := h.1 k d g s t q Q v
  exact⟨x,s',⟨n,h1.mono hm⟩,y⟩
 ·obtain ⟨x, s', h1, y⟩ := h.2.2 k d g s t q Q v
  exact⟨x,s',h1.mono hm,y⟩
end Go.AL

namespace Go.AL
open Go
variable [Dr]
end Go.AL

namespace Go.AL
open Go
variable [Dr]
end Go.AL
