/-
 What is proved here: the function that slices.Backward hands back,called with a round's body: the rounds come from the last row to the first one. No program in sight; no condition.
-/
import Derived.Test.YtgglclbdiagpoaaGreatDoorMD
import Derived.Test.YtgglclbdiagpoaaGreatDoorMC
import Derived.Lib.LaidTab
import Derived.Sort.Grow
import Derived.Deep.Draws
set_option linter.all false
open Bool renaming and_eq_true→ar
open Go.Lib renaming TabIs→I3
open Go.Sort renaming grow→qR
open Go.World renaming var?→ahX
open Nat renaming lt_of_lt_of_le→dy,eq_of_beq_eq_true→br,blt→cJ,blt_eq→dM
open Option renaming bind_some→I1
namespace Go.AL
open Go
variable [Dr]
structure aiz (S T:TypeId) (cU ef dh MF:Array Oper):Prop where
 r0:∃ o1 o2 o3 o4 t t',cU.toList=[o1,o2,o3,o4]∧(o1.guard=none∧o1.op=.load S (.tmp 1)∧o1.dst=some 4)∧(o2.guard=none∧o2.op=.call { callee:=.builtin .len,args:=#[.tmp 4],argTypes:=#[S] }∧o2.dst=some 5) ∧
  (o3.guard=none∧o3.op=.binOp .sub t (.tmp 5) (.const (.int .i64 1)) t'∧o3.dst=some 6)∧(o4.guard=none∧o4.op=.assign (.tmp 6)∧o4.dst=some 3)
 r1:∃ o1 o2 t t',ef.toList=[o1,o2]∧(o1.guard=none∧o1.op=.move (.tmp 3)∧o1.dst=some 7)∧(o2.guard=none∧o2.op=.binOp .geq t (.tmp 7) (.const (.int .i64 0)) t'∧o2.dst=some 8)
 r2:∃ o1 o2 o3 t t',dh.toList=[o1,o2,o3]∧(o1.guard=none∧o1.op=.move (.tmp 3)∧o1.dst=some 9)∧(o2.guard=none∧o2.op=.binOp .sub t (.tmp 9) (.const (.int .i64 1)) t'∧o2.dst=some 10)∧(o3.guard=none∧o3.op=.assign (.tmp 10)∧o3.dst=some 3)
 r3:∃ o1 o2 o3 o4 o5 o6 o7 o8 t tys,MF.toList=[o1,o2,o3,o4,o5,o6,o7,o8]∧(o1.guard=none∧o1.op=.move (.tmp 0)∧o1.dst=some 11)∧(o2.guard=none∧o2.op=.move (.tmp 3)∧o2.dst=some 12)∧(o3.guard=none∧o3.op=.load S (.tmp 1)∧o3.dst=some 13) ∧
  (o4.guard=none∧o4.op=.move (.tmp 3)∧o4.dst=some 14)∧(o5.guard=none∧o5.op=.indexAddr S (.tmp 13) (.tmp 14)∧o5.dst=some 15)∧(o6.guard=none∧o6.op=.load T (.tmp 15)∧o6.dst=some 16) ∧
  (o7.guard=none∧o7.op=.call { callee:=.value (.tmp 11),args:=#[.tmp 12,.tmp 16],argTypes:=tys }∧o7.dst=some 17)∧(o8.guard=none∧o8.op=.unOp .not t (.tmp 17)∧o8.dst=some 18)
structure BwT (P:Program) (S T:TypeId) (sl:AV) (n:Nat) (rv:Nat→AV):Prop where
 load:∀ H,j9 P S (.cptr [sl]) H=some sl
 len:CN (cr P S) sl=some (.lit (.int .i64 (n:Nat)))
 idx:∀ i:Int,0≤i→i<n→∃ cells,lJ (cr P S) sl (.lit (.int .i64 i))=some (.cptr cells)∧∀ H,j9 P T (.cptr cells) H=some (rv i.toNat)
 cl:AV.bu [sl]=true
end Go.AL
namespace Go.AL
open Go
variable [Dr]
section bw
variable {P:Program} {pf:FuncId→Bool} {S T:TypeId} {sl:AV} {n:Nat} {rv:Nat→AV} {cU ef dh MF:Array Oper}
end bw
end Go.AL

namespace Go.AL
open Go
variable [Dr]
mutual
def nh(m:Nat):AV→Bool
 |.agg cs=>qf m cs
 |.tuple cs=>qf m cs
 |.clo _ cs=>qf m cs
 |.ptr id ad _ _ _=>cJ id m&&Nat.beq ad 0
 |.vec _ id ad _ _=>cJ id m&&Nat.beq ad 0
 |.map id=>cJ id m
 |.sub ..=>false
 |_=>true
def qf(m:Nat):List AV→Bool
 | []=>true
 |a::as=>nh m a&&qf m as
end
mutual
theorem Xm{E E':Env}{m:Nat}(h:E.eX m E'):∀(a:AV) {c:Value},nh m a=true→rel E a c→rel E' a c
 |.undef,_,_,_=>by simp[rel]
 |.lit v,c,_,d=>by simpa only[rel]using d
 |.nils,c,_,d=>by simpa only[rel]using d
 |.list k rows,c,_,d=>fg (vB h) _ (by simp[AV.closed]) d
 |.listF ks rows,c,_,d=>fg (vB h) _ (by simp[AV.closed]) d
 | .agg cells,c,g,d=>by
  simp only[rel]at d⊢;obtain⟨cs,e,h1,q⟩:=d;exact⟨cs,e,h1,zB h cells (by simpa only[nh]using g) q⟩
 | .tuple cells,c,g,d=>by
  simp only[rel]at d⊢;obtain⟨cs,e,q⟩:=d;exact⟨cs,e,zB h cells (by simpa only[nh]using g) q⟩
 |.cptr cells,c,_,d=>fg (vB h) _ (by simp[AV.closed]) d
 |.sub ..,_,g,_=>by simp[nh]at g
 | .ptr id ad k row col,c,g,d=>by
  simp only[nh,ar,dM]at g;obtain⟨h1,q⟩:=g;have q:=br q;subst q;simp only[rel]at d⊢;obtain⟨g1,g2,g3⟩:=d;refine⟨g1,h.past id h1 g2,fun t=>?_⟩;obtain⟨u,y⟩:=h.live id h1 g2 t;rw[y];exact g3 u
 | .vec k id ad off n,c,g,d=>by
  simp only[nh,ar,dM]at g;obtain⟨h1,q⟩:=g;have q:=br q;subst q;simp only[rel]at d⊢;obtain⟨g1,g2,g3⟩:=d;refine⟨g1,h.past id h1 g2,fun t=>?_⟩;obtain⟨u,y⟩:=h.live id h1 g2 t;rw[y];exact g3 u
 | .map id,c,g,d=>by
  simp only[nh,dM]at g;simp only[rel]at d⊢;obtain⟨g1,g2,g3⟩:=d;refine⟨g1,h.past id g g2,fun t=>?_⟩;obtain⟨u,y⟩:=h.live id g g2 t;rw[y];exact g3 u
 | .clo f caps,c,g,d=>by
  simp only[rel]at d⊢;obtain⟨cs,e,q⟩:=d;exact⟨cs,e,zB h caps (by simpa only[nh]using g) q⟩
 |.ifc,c,_,d=>by simpa only[rel]using d
 |.emptyS n,c,_,d=>by simpa only[rel]using d
theorem zB{E E':Env}{m:Nat}(h:E.eX m E'):∀(as:List AV) {vs:List Value},qf m as=true→ae E as vs→ae E' as vs
 | [],[],_,_=>by simp[ae]
 | [],_::_,_,d=>by simp[ae]at d
 |_::_,[],_,d=>by simp[ae]at d
 | a::as,v::vs,g,d=>by
  simp only[qf,ar]at g;simp only[ae]at d⊢;exact⟨Xm h a g.1 d.1,zB h as g.2 d.2⟩
end
theorem Env.eX.mono{m m':Nat}{E E':Env}(h:E.eX m' E')(hm:m≤m'):E.eX m E' :=
 ⟨fun id hi=>h.past id (by omega),h.size,h.same,h.own,fun id hi=>h.live id (by omega),h.X,h.rl,h.env,fun id hi=>h.grow id (by omega)⟩
structure Env.sD (m l:Nat) (E E':Env):Prop where
 past:∀ id,id<m→E.past id 0→E'.past id 0
 size:E.w.heap.size≤E'.w.heap.size
 same:∀ b,b<E.w.heap.size→¬ E.own b→b≠l→E'.w.heap[b]? = E.w.heap[b]?
 own:∀ b,b<E.w.heap.size→¬ E.own b→¬ E'.own b
 live:∀ id,id<m→E.past id 0→E'.live id 0→E.live id 0∧E'.loc[id]? = E.loc[id]?
 X:∀ b,b<E.w.heap.size→(E'.X b↔E.X b)∧(E'.X.z b↔E.X.z b)
 rl:∀ l h,h<(E.X.r l).length→h<(E'.X.r l).length∧∀ q,(E'.X.r l)[h]? = some (some q)→(E.X.r l)[h]? = some (some q)
 env:dC E.w E'.w
 grow:∀ id,id<m→∀ l o,E.H[id]? = some o→o.db=some l→E'.live id 0→(∃ t,E'.X.r l=E.X.r l++t)∧∃ o',E'.H[id]? = some o'∧o'.db=some l
theorem Env.sD.trans{m l:Nat}{E E' B:Env}(h:E.sD m l E')(h':E'.sD m l B):E.sD m l B where
 past:=fun id hi k=>h'.past id hi (h.past id hi k)
 size:=Nat.le_trans h.size h'.size
 same:=fun b hb ho g=>by rw[h'.same b (dy hb h.size) (h.own b hb ho) g,h.same b hb ho g]
 own:=fun b hb ho=>h'.own b (dy hb h.size) (h.own b hb ho)
 live:=fun id hi hid g=>by
  obtain⟨u,a2⟩:=h'.live id hi (h.past id hi hid) g;obtain⟨b1,y⟩:=h.live id hi hid u;exact⟨b1,by rw[a2,y]⟩
 X:=fun b hb=>by
  have h1:=h'.X b (dy hb h.size);have d:=h.X b hb;exact⟨h1.1.trans d.1,h1.2.trans d.2⟩
 rl:=fun l i hi=>by
  obtain⟨u,a2⟩:=h.rl l i hi;obtain⟨b1,y⟩:=h'.rl l i u;exact⟨b1,fun q N=>a2 q (y q N)⟩
 env:=h.env.trans h'.env
 grow:=fun id hi l o h1 d z=>by
  have k:E.past id 0:=⟨o,h1,ab.BZ d,fun v z=>Nat.zero_le _⟩
  obtain⟨I,_⟩:=h'.live id hi (h.past id hi k) z;obtain⟨⟨t,O⟩,o',g1,g2⟩:=h.grow id hi l o h1 d I;obtain⟨⟨t',J⟩,M,g3,g4⟩:=h'.grow id hi l o' g1 g2 z;exact⟨⟨t++t',by rw[J,O,List.append_assoc]⟩,M,g3,g4⟩
theorem Env.sD.toM{m l:Nat}{E E':Env}(h:E.sD m l E')(d:l<E.w.heap.size→E'.w.heap[l]? = E.w.heap[l]?):E.eX m E' :=
 ⟨h.past, h.size, fun b hb ho => by
  by_cases e:b=l
  ·subst e
   exact d hb
  ·exact h.same b hb ho e,h.own,h.live,h.X,h.rl,h.env,h.grow⟩
end Go.AL

namespace Go.AL
open Go
variable [Dr]
structure BwR (P:Program) (m:Nat) (n:Nat) (rv:Nat→AV) (p0 p1:Tmp) (assign body:Code) (S:Nat→St):Prop where
 na:g_ assign=true
 nb:g_ body=true
 fix:∀ k,k<n→qf m (S k).fr=true
 round:∀ k,k<n→∃ s1 s2,dA P m assign ⟨((S k).fr.set p0 (.lit (.int .i64 ((n:Int)-1-k)))).set p1 (rv (n-1-k)),(S k).H⟩ .normal s1∧dA P m body s1 .normal s2∧bq m ⟨(S k).fr,s2.H⟩ (S (k+1))
section bw
variable {P:Program} {m':Nat} {n:Nat} {rv:Nat→AV} {p0 p1:Tmp} {assign body:Code} {S:Nat→St}
end bw
end Go.AL

namespace Go.AL
open Go
variable [Dr]
variable {P:Program}
structure BwI where
 f:FuncId
 T1:TypeId
 T2:TypeId
 w:Nat
 pw:Nat
 agg:Bool
end Go.AL

namespace Go.AL
open Go
variable [Dr]
end Go.AL

namespace Go.AL
open Go Go.ChangeMaps
variable [Dr]
section range
variable {P:Program} {τ:au} {L:LT} {m:Nat} {sp:iR} {cU ef dh:Array Oper} {body:Code} {ri:List G→List (List G)} {ci:List G→Nat}
end range
end Go.AL

namespace Go.AL
open Go
variable [Dr]
theorem dC.ln{w w':World}(h:@dC mB w w'):dC w w':=⟨h.1,h.2.1,h.2.2.1,fun _=>h.2.2.2 rfl⟩
theorem Env.le.ln{E E':Env}(h:@Env.le mB E E'):E.le E':=by
 cases h with
 |mk a b c d e f r g w=>exact⟨a,b,c,d,e,f,r,dC.ln g,w⟩
theorem jI.ln{P:Program}{f:FuncId}{args:List AV}{H:List ab}{Q:AV→List ab→Prop}(h:@jI mB P f args H Q):jI P f args H Q:=fun E cargs h1 g k =>
 (h E cargs h1 g k).mono fun _ _ ⟨c,v,H',e,q,d,r',r1,r2,r3⟩=>⟨c,v,H',e,q,d,r',r1,r2,r3.ln⟩
theorem aw.ln{P:Program}{τ:au}(h:@aw mB P τ):aw P τ:=by
 cases h with
 | mk g k hC q u =>
  refine⟨fun f args b v h1 d=>⟨(g f args b v h1 d).1,fun H=>jI.ln ((g f args b v h1 d).2 H)⟩,fun f args H b v H' h1 d=>⟨(k f args H b v H' h1 d).1,jI.ln (k f args H b v H' h1 d).2⟩,hC,fun f args H t h1 Q d=>?_,u⟩;obtain⟨g1,v,H',g2,g3,g4⟩:=q f args H t h1 Q d;exact⟨g1,v,H',jI.ln g2,g3,g4⟩
end Go.AL

namespace Go.AL
open Go
variable [Dr]
theorem Xn(w:World)(q:Nat)(os:Array Obj):Ext w (qR (w.drewN q) os) :=
 ⟨by simp [qR, World.drewN], fun b hb => by
  show (w.heap++os)[b]? = w.heap[b]?
  rw[Array.getElem?_append_left hb],⟨rfl,rfl,rfl,fun _=>Nat.le_add_right _ _⟩⟩
theorem Xo{P:Program}{E:Env}(H:mD E){name:String}{g:Nat}{k:IntKind}{zs:List Int}(d:P.globalNamed name=some g) (q:(g,(zs.map fun z=>Value.int k z).toArray)∈qY):I3 P E.w name k zs:=by
 obtain⟨_,t,f,h⟩:=H _ q;unfold I3 ahX;rw[d];simp only[I1];rw[h]
theorem Xp{P:Program}{w:World}{name:String}{g:Nat}{k:IntKind}{zs:List Int}(d:P.globalNamed name=some g)(h:I3 P w name k zs):∃ t f,w.heap[g]? = some (.cells (zs.map fun z=>Value.int k z).toArray t f):=by
 unfold I3 ahX at h;rw[d]at h;simp only[I1]at h;split at h
 ·rename_i cs t f q
  cases h;exact⟨t,f,q⟩
 ·cases h
theorem Xq{P:Program}{f:FuncId}{vs:List Value}{u:Value}(h:∀ E:Env,mD E→Calls P f vs.toArray E.w fun e w'=>e=.returned u∧Ext E.w w'):mR P f (vs.map .lit) (.lit u):=by
 intro H E cargs hH HE g;have e:cargs=vs.toArray:=by
  have:∀(vs us:List Value),ae E (vs.map AV.lit) us→us=vs:=by
   intro vs
   induction vs with
   | nil=>intro us h; cases us with
    |nil=>rfl
    |cons _ _=>simp[ae]at h
   | cons v vs k =>
    intro us h;cases us with
    |nil=>simp[ae]at h
    | cons u us =>
     simp only[List.map_cons,ae,rel]at h;rw[h.1,k us h.2]
  have:=this vs cargs.toList g;rw[←this]
 rw[e];refine(h E HE.fh).mono ?_;rintro _ w' ⟨rfl,d⟩;refine⟨u,.lit u,H,rfl,⟨rfl,rfl⟩,E.loc,E.X.r,by simp[rel],?_,?_⟩
 ·rw[←hH]; exact HE.ext d
 ·rw[←hH]; exact Env.gl d
end Go.AL
