/-
 What is proved here: the function that slices.Backward hands back,called with a round's body: the rounds come from the last row to the first one. No program in sight; no condition.
-/
import Derived.Test.YtelglbbhbgjagaaGreatDoorMD
import Derived.Test.YtelglbbhbgjagaaGreatDoorMC
import Derived.Lib.LaidTab
import Derived.Sort.Grow
import Derived.Deep.Draws
set_option linter.all false
namespace Go.AL
open Go
variable [Dr]
structure BwOps (S T:TypeId) (ops0 ops1 ops2 ops3:Array Oper):Prop where
 r0:∃ o1 o2 o3 o4 t t',ops0.toList=[o1,o2,o3,o4]∧(o1.guard=none∧o1.op=.load S (.tmp 1)∧o1.dst=some 4)∧(o2.guard=none∧o2.op=.call { callee:=.builtin .len,args:=#[.tmp 4],argTypes:=#[S] }∧o2.dst=some 5) ∧
  (o3.guard=none∧o3.op=.binOp .sub t (.tmp 5) (.const (.int .i64 1)) t'∧o3.dst=some 6)∧(o4.guard=none∧o4.op=.assign (.tmp 6)∧o4.dst=some 3)
 r1:∃ o1 o2 t t',ops1.toList=[o1,o2]∧(o1.guard=none∧o1.op=.move (.tmp 3)∧o1.dst=some 7)∧(o2.guard=none∧o2.op=.binOp .geq t (.tmp 7) (.const (.int .i64 0)) t'∧o2.dst=some 8)
 r2:∃ o1 o2 o3 t t',ops2.toList=[o1,o2,o3]∧(o1.guard=none∧o1.op=.move (.tmp 3)∧o1.dst=some 9)∧(o2.guard=none∧o2.op=.binOp .sub t (.tmp 9) (.const (.int .i64 1)) t'∧o2.dst=some 10)∧(o3.guard=none∧o3.op=.assign (.tmp 10)∧o3.dst=some 3)
 r3:∃ o1 o2 o3 o4 o5 o6 o7 o8 t tys,ops3.toList=[o1,o2,o3,o4,o5,o6,o7,o8]∧(o1.guard=none∧o1.op=.move (.tmp 0)∧o1.dst=some 11)∧(o2.guard=none∧o2.op=.move (.tmp 3)∧o2.dst=some 12)∧(o3.guard=none∧o3.op=.load S (.tmp 1)∧o3.dst=some 13) ∧
  (o4.guard=none∧o4.op=.move (.tmp 3)∧o4.dst=some 14)∧(o5.guard=none∧o5.op=.indexAddr S (.tmp 13) (.tmp 14)∧o5.dst=some 15)∧(o6.guard=none∧o6.op=.load T (.tmp 15)∧o6.dst=some 16) ∧
  (o7.guard=none∧o7.op=.call { callee:=.value (.tmp 11),args:=#[.tmp 12,.tmp 16],argTypes:=tys }∧o7.dst=some 17)∧(o8.guard=none∧o8.op=.unOp .not t (.tmp 17)∧o8.dst=some 18)
structure BwT (P:Program) (S T:TypeId) (sl:AV) (n:Nat) (rv:Nat→AV):Prop where
 load:∀ H,loadA P S (.cptr [sl]) H=some sl
 len:lenTA (kindK P S) sl=some (.lit (.int .i64 (n:Nat)))
 idx:∀ i:Int,0≤i→i<n→∃ cells,idxAddrA (kindK P S) sl (.lit (.int .i64 i))=some (.cptr cells)∧∀ H,loadA P T (.cptr cells) H=some (rv i.toNat)
 cl:AV.closedL [sl]=true
end Go.AL
namespace Go.AL
open Go
variable [Dr]
section bw
variable {P:Program} {pf:FuncId→Bool} {S T:TypeId} {sl:AV} {n:Nat} {rv:Nat→AV} {ops0 ops1 ops2 ops3:Array Oper}
end bw
end Go.AL

namespace Go.AL
open Go
variable [Dr]
mutual
def fixedA (m:Nat):AV→Bool
 | .agg cs=>fixedL m cs
 | .tuple cs=>fixedL m cs
 | .clo _ cs=>fixedL m cs
 | .ptr id ver _ _ _=>Nat.blt id m&&Nat.beq ver 0
 | .vec _ id ver _ _=>Nat.blt id m&&Nat.beq ver 0
 | .map id=>Nat.blt id m
 | _=>true
def fixedL (m:Nat):List AV→Bool
 | []=>true
 | a::as=>fixedA m a&&fixedL m as
end
mutual
theorem rel_fixed {E E':Env} {m:Nat} (h:E.leM m E'):∀ (a:AV) {c:Value},fixedA m a=true→rel E a c→rel E' a c
 | .undef,_,_,_=>by simp [rel]
 | .lit v,c,_,hr=>by simpa only [rel] using hr
 | .nils,c,_,hr=>by simpa only [rel] using hr
 | .list k rows,c,_,hr=>rel_closed (leM_C h) _ (by simp [AV.closed]) hr
 | .listF ks rows,c,_,hr=>rel_closed (leM_C h) _ (by simp [AV.closed]) hr
 | .agg cells,c,hf,hr=>by
  simp only [rel] at hr ⊢
  obtain ⟨cs,e,h1,h2⟩:=hr
  exact ⟨cs,e,h1,relList_fixed h cells (by simpa only [fixedA] using hf) h2⟩
 | .tuple cells,c,hf,hr=>by
  simp only [rel] at hr ⊢
  obtain ⟨cs,e,h2⟩:=hr
  exact ⟨cs,e,relList_fixed h cells (by simpa only [fixedA] using hf) h2⟩
 | .cptr cells,c,_,hr=>rel_closed (leM_C h) _ (by simp [AV.closed]) hr
 | .ptr id ver k row col,c,hf,hr=>by
  simp only [fixedA,Bool.and_eq_true,Nat.blt_eq] at hf
  obtain ⟨h1,h2⟩:=hf
  have h2:=Nat.eq_of_beq_eq_true h2
  subst h2
  simp only [rel] at hr ⊢
  obtain ⟨g1,g2,g3⟩:=hr
  refine ⟨g1,h.past id h1 g2,fun hl=>?_⟩
  obtain ⟨k1,k2⟩:=h.live id h1 g2 hl
  rw [k2]
  exact g3 k1
 | .vec k id ver off n,c,hf,hr=>by
  simp only [fixedA,Bool.and_eq_true,Nat.blt_eq] at hf
  obtain ⟨h1,h2⟩:=hf
  have h2:=Nat.eq_of_beq_eq_true h2
  subst h2
  simp only [rel] at hr ⊢
  obtain ⟨g1,g2,g3⟩:=hr
  refine ⟨g1,h.past id h1 g2,fun hl=>?_⟩
  obtain ⟨k1,k2⟩:=h.live id h1 g2 hl
  rw [k2]
  exact g3 k1
 | .map id,c,hf,hr=>by
  simp only [fixedA,Nat.blt_eq] at hf
  simp only [rel] at hr ⊢
  obtain ⟨g1,g2,g3⟩:=hr
  refine ⟨g1,h.past id hf g2,fun hl=>?_⟩
  obtain ⟨k1,k2⟩:=h.live id hf g2 hl
  rw [k2]
  exact g3 k1
 | .clo f caps,c,hf,hr=>by
  simp only [rel] at hr ⊢
  obtain ⟨cs,e,h2⟩:=hr
  exact ⟨cs,e,relList_fixed h caps (by simpa only [fixedA] using hf) h2⟩
 | .ifc,c,_,hr=>by simpa only [rel] using hr
 | .emptyS n,c,_,hr=>by simpa only [rel] using hr
theorem relList_fixed {E E':Env} {m:Nat} (h:E.leM m E'):∀ (as:List AV) {vs:List Value},fixedL m as=true→rLs E as vs→rLs E' as vs
 | [],[],_,_=>by simp [rLs]
 | [],_::_,_,hr=>by simp [rLs] at hr
 | _::_,[],_,hr=>by simp [rLs] at hr
 | a::as,v::vs,hf,hr=>by
  simp only [fixedL,Bool.and_eq_true] at hf
  simp only [rLs] at hr ⊢
  exact ⟨rel_fixed h a hf.1 hr.1,relList_fixed h as hf.2 hr.2⟩
end
theorem Env.leM.mono {m m':Nat} {E E':Env} (h:E.leM m' E') (hm:m≤m'):E.leM m E' :=
 ⟨fun id hi=>h.past id (by omega),h.size,h.same,h.own,fun id hi=>h.live id (by omega),h.X,h.rl,h.env⟩
structure Env.leX (m l:Nat) (E E':Env):Prop where
 past:∀ id,id<m→E.past id 0→E'.past id 0
 size:E.w.heap.size≤E'.w.heap.size
 same:∀ b,b<E.w.heap.size→¬ E.own b→b≠l→E'.w.heap[b]? = E.w.heap[b]?
 own:∀ b,b<E.w.heap.size→¬ E.own b→¬ E'.own b
 live:∀ id,id<m→E.past id 0→E'.live id 0→E.live id 0∧E'.loc[id]? = E.loc[id]?
 X:∀ b,b<E.w.heap.size→(E'.X b↔E.X b)∧(E'.X.z b↔E.X.z b)
 rl:∀ l h,h<(E.X.r l).length→h<(E'.X.r l).length∧∀ q,(E'.X.r l)[h]? = some (some q)→(E.X.r l)[h]? = some (some q)
 env:SameOs E.w E'.w
theorem Env.leX.trans {m l:Nat} {E E' E'':Env} (h:E.leX m l E') (h':E'.leX m l E''):E.leX m l E'' where
 past:=fun id hi hp=>h'.past id hi (h.past id hi hp)
 size:=Nat.le_trans h.size h'.size
 same:=fun b hb ho hl=>by rw [h'.same b (Nat.lt_of_lt_of_le hb h.size) (h.own b hb ho) hl,h.same b hb ho hl]
 own:=fun b hb ho=>h'.own b (Nat.lt_of_lt_of_le hb h.size) (h.own b hb ho)
 live:=fun id hi hid hl=>by
  obtain ⟨a1,a2⟩:=h'.live id hi (h.past id hi hid) hl
  obtain ⟨b1,b2⟩:=h.live id hi hid a1
  exact ⟨b1,by rw [a2,b2]⟩
 X:=fun b hb=>by
  have h1:=h'.X b (Nat.lt_of_lt_of_le hb h.size)
  have h2:=h.X b hb
  exact ⟨h1.1.trans h2.1,h1.2.trans h2.2⟩
 rl:=fun l i hi=>by
  obtain ⟨a1,a2⟩:=h.rl l i hi
  obtain ⟨b1,b2⟩:=h'.rl l i a1
  exact ⟨b1,fun q hq=>a2 q (b2 q hq)⟩
 env:=h.env.trans h'.env
theorem Env.leX.toM {m l:Nat} {E E':Env} (h:E.leX m l E') (hl:l<E.w.heap.size→E'.w.heap[l]? = E.w.heap[l]?):E.leM m E' :=
 ⟨h.past, h.size, fun b hb ho => by
  by_cases e:b=l
  ·subst e
   exact hl hb
  ·exact h.same b hb ho e,h.own,h.live,h.X,h.rl,h.env⟩
end Go.AL

namespace Go.AL
open Go
variable [Dr]
structure BwR (P:Program) (m:Nat) (n:Nat) (rv:Nat→AV) (p0 p1:Tmp) (assign body:Code) (S:Nat→St):Prop where
 na:noRF assign=true
 nb:noRF body=true
 fix:∀ k,k<n→fixedL m (S k).fr=true
 round:∀ k,k<n→∃ s1 s2,ASat P m assign ⟨((S k).fr.set p0 (.lit (.int .i64 ((n:Int)-1-k)))).set p1 (rv (n-1-k)),(S k).H⟩ .normal s1∧ASat P m body s1 .normal s2∧SLe m ⟨(S k).fr,s2.H⟩ (S (k+1))
section bw
variable {P:Program} {m':Nat} {n:Nat} {rv:Nat→AV} {p0 p1:Tmp} {assign body:Code} {S:Nat→St}
end bw
end Go.AL

namespace Go.AL
open Go
variable [Dr]
variable {P:Program}
structure BwI where
 f:FuncId
 T1:TypeId
 T2:TypeId
 w:Nat
 pw:Nat
 agg:Bool
end Go.AL

namespace Go.AL
open Go
variable [Dr]
end Go.AL

namespace Go.AL
open Go Go.ChangeMaps
variable [Dr]
def RSpec.s2K (sp:RSpec) (s:TSt) (b:Nat):TSt:=⟨s.fr.set sp.it (.lit (.pointer (some ⟨b,0,none⟩))),s.H⟩
section range
variable {P:Program} {τ:Tab} {L:LT} {m:Nat} {sp:RSpec} {ops0 ops1 ops2:Array Oper} {body:Code} {ri:List G→List (List G)} {ci:List G→Nat}
def RInvK (m:Nat) (sp:RSpec) (ri:List G→List (List G)) (ci:List G→Nat) (E:Env) (rows:List (List G)) (d0:List G) (itb mb nn clock:Nat) (a:Act) (w:World):Prop :=
 ∃ (d:List G) (loc:List (Option (Nat × Nat))) (X:XS) (seen:Array Nat) (last:Nat) (p:List (List G)),
  foldR sp.st sp.adr p d0=some d∧sp.adr d=itb∧(p++rows.filter fun x => !seen.contains (bornG x)).Perm rows ∧
  SRel (mkSt sp.inv d).den { w:=w,H:=(mkSt sp.inv d).den.H,loc:=loc,X:=X } a∧E.leM m { w:=w,H:=(mkSt sp.inv d).den.H,loc:=loc,X:=X }∧X itb ∧
  w.heap[itb]? = some (.mapIter (some mb) clock seen last)∧clock≤last∧ri d=rows∧ci d=clock∧loc[sp.id]? = some (some (mb,nn))
theorem range_loopK (hm:P.follows .mixedOrders=true) (ht:TabOK P τ) (hL:LpK P m L body) (hr:RRound P τ L m sp ops2 body) (ho:ROps P sp ops0 ops1 ops2)
  (hu1:∀ d,(mkSt sp.inv d).fr[sp.t1]? = some .undef) (hu2:∀ d,(mkSt sp.inv d).fr[sp.t2]? = some .undef) (hut:∀ d,(mkSt sp.inv d).fr[sp.it]? = some (.lit (.pointer (some ⟨sp.adr d,0,none⟩))))
  {E:Env} {rows:List (List G)} {d0:List G} {itb mb clock:Nat} {nn:Nat} {r1 b0 b1 r2:Nat}
  (hid2:∀ d,(mkSt sp.inv d).H[sp.id]? = some (.map sp.K sp.V (ri d) (ci d))) (hkeep:∀ r d d',sp.st r d=some d'→ri d'=ri d∧ci d'=ci d) (him:sp.id<m) (hsz:E.w.heap.size≤itb) (hn:(rows.map bornG).Nodup) (hlt:∀ r∈rows,bornG r<clock)
  (hfold:∀ p,p.Perm rows→(foldR sp.st sp.adr p d0).isSome=true) {a:Act} {w:World} (hI:RInvK m sp ri ci E rows d0 itb mb nn clock a w) (ro:Option Nat) (hro:okR ro body) :
  (Code.loop (.seq (.region r1 ops1 false) (.seq (.cond (.tmp sp.t2) .skip (.exit b0)) (.block b1 (.seq (.region r2 ops2 false) body))))).wpIn (fz ro) 0 P
   (fun e a1 w1=>e=.exit b0∧∃ p d,p.Perm rows∧foldR sp.st sp.adr p d0=some d∧MPost m E (mkSt sp.inv d).den a1 w1) a w:=by
 obtain ⟨o1,o2,e1,g1,p1,q1,g2,p2,q2⟩:=ho.r1
 obtain ⟨o3,l,e3,g3,p3,q3⟩:=ho.r2
 refine wpIn_loop (RInvK m sp ri ci E rows d0 itb mb nn clock) (fun _ w=>(rows.filter fun x => !(w.iterSeen itb).contains (bornG x)).length) hI fun a w hI=>?_
 obtain ⟨d,loc,X,seen,last,p,hf,had,hp,hs,hle,hXi,hit,hcl,hriD,hciD,hlo⟩:=hI
 have hidd:=hid2 d
 rw [hriD,hciD] at hidd
 have hob:=hs.heap.obj sp.id _ (denH_get hidd)
 simp only [TObj.den,objRel] at hob
 obtain ⟨mb',nn',ms,hlo',hmb,hre⟩:=hob
 have hmbe:mb'=mb:=by
  have h:=hlo'
  rw [hlo] at h
  simp only [Option.some.injEq,Prod.mk.injEq] at h
  exact h.1.symm
 subst hmbe
 have hne:mb'≠itb:=fun e=>(hs.heap.lt sp.id mb' nn hlo).2 (by rw [e]; exact hXi)
 have h10:ops1[0]? = some o1:=by
  have:ops1.toList[0]? = some o1:=by rw [e1]; rfl
  simpa using this
 have h11:ops1[1]? = some o2:=by
  have:ops1.toList[1]? = some o2:=by rw [e1]; rfl
  simpa using this
 have hsz1:ops1.size=2:=by
  have:ops1.toList.length=2:=by rw [e1]; rfl
  simpa using this
 have hiv:a.eval (.tmp sp.it)=.pointer (some ⟨itb,0,none⟩):=by
  have h:=hs.eval (.tmp sp.it)
  have e:(mkSt sp.inv d).den.eval (.tmp sp.it)=.lit (.pointer (some ⟨sp.adr d,0,none⟩)):=by
   show (mkSt sp.inv d).fr.getD sp.it .undef=_
   rw [List.getD_eq_getElem?_getD,hut d]
   rfl
  rw [e] at h
  simp only [rel] at h
  rw [h,had]
 obtain ⟨hlen,hen⟩:=relEntries_iff.1 hre
 have hl1:(mapEs sp.K sp.V rows).length=rows.length:=by simp [mapEs]
 have row_of:∀ (i:Nat) (e:MapEntry),ms.toList[i]? = some e→∃ r,rows[i]? = some r∧e.born=bornG r:=by
  intro i e hi
  have h1:=lt_of_getElem? hi
  have h2:i<rows.length:=by omega
  refine ⟨rows[i],List.getElem?_eq_getElem h2,?_⟩
  exact (hen i (sp.K.av (gi rows[i] 0).row,sp.V.av (gi rows[i] 1).row,(gi rows[i] 2).int.toNat) e (by simp [mapEs,h2]) hi).2.2.1
 have hold:∀ x∈ms.toList,x.born<clock:=by
  intro x hx
  obtain ⟨i,hi⟩:=List.getElem?_of_mem hx
  obtain ⟨r,h1,h2⟩:=row_of i x hi
  rw [h2]
  exact hlt r (List.mem_of_getElem? h1)
 have hbn:(ms.toList.map (·.born)).Nodup:=by
  have:ms.toList.map (·.born)=rows.map bornG:=by
   apply List.ext_getElem?
   intro i
   simp only [List.getElem?_map]
   cases hi:ms.toList[i]? with
   | none =>
    have h1:=List.getElem?_eq_none_iff.1 hi
    rw [List.getElem?_eq_none (by omega)]
    rfl
   | some e =>
    obtain ⟨r,h1,h2⟩:=row_of i e hi
    rw [h1]
    simp [h2]
  rw [this]
  exact hn
 refine wpIn_seq (wpIn_region ?_)
 rw [hsz1]
 show wpOpsIn (fz ro) 0 P ops1 _ [0,1] a w
 rw [wpOpsIn_cons]
 have hlt1:=tmp_lt hs (hu1 d)
 have hlt2:=tmp_lt hs (hu2 d)
 rcases run_next_at (P:=P) w o1.type itb mb' clock last seen ms clock hit hmb hold hcl with ⟨h0,hrun⟩ | ⟨e,he,w1,hw1,hrun⟩
 ·refine wpOp_value h10 g1 (run_next_op p1 hiv hrun) (fun c e => by rw [p1] at e; cases e) ro ?_
  rw [q1,wpOpsIn_cons]
  refine wpOp_value h11 g2 (run_extract0 p2 (eval_put_same hlt1) rfl) (fun c e=>by rw [p2] at e; cases e) ro ?_
  rw [q2]
  show (Code.seq _ _).wpIn (fz ro) 0 P _ _ w
  refine wpIn_seq (wpIn_cond_false (eval_put_same (by simpa [Act.put] using hlt2)) (wpIn_exit ?_))
  refine ⟨rfl,p,d,?_,hf,loc,X,?_,hle⟩
  ·have:(rows.filter fun x => !seen.contains (bornG x))=[]:=by
    rw [List.filter_eq_nil_iff]
    intro x hx hc
    obtain ⟨i,hi⟩:=List.getElem?_of_mem hx
    have h1:=lt_of_getElem? hi
    have h2:i<ms.toList.length:=by omega
    obtain ⟨r,h3,h4⟩:=row_of i _ (List.getElem?_eq_getElem h2)
    rw [hi] at h3
    cases h3
    have:ms.toList[i]∈(leftOf ms seen).toList:=by
     unfold leftOf
     rw [Array.toList_filter]
     refine List.mem_filter.2 ⟨List.getElem_mem h2,?_⟩
     rw [h4]
     exact hc
    have h5:(leftOf ms seen).toList.length=0:=by simpa using h0
    rw [List.length_eq_zero_iff.1 h5] at this
    cases this
   rwa [this,List.append_nil] at hp
  ·exact (hs.skipT (hu1 d) (.tuple #[.bool false])).skipT (hu2 d) (.bool false)
 ·refine wpOp_value h10 g1 (run_next_op p1 hiv hrun) (fun c e => by rw [p1] at e; cases e) ro ?_
  rw [q1,wpOpsIn_cons]
  refine wpOp_value h11 g2 (run_extract0 p2 (eval_put_same hlt1) rfl) (fun c e=>by rw [p2] at e; cases e) ro ?_
  rw [q2]
  show (Code.seq _ _).wpIn (fz ro) 0 P _ _ _
  refine wpIn_seq (wpIn_cond_true (eval_put_same (by simpa [Act.put] using hlt2)) (wpIn_skip ?_))
  show (Code.block _ _).wpIn (fz ro) 0 P _ _ _
  refine wpIn_block (wpIn_seq (wpIn_region ?_))
  generalize hw2:setBlock w1 itb (.mapIter (some mb') clock (seen.push e.born) clock)=w2
  have hw1h:w1.heap=w.heap:=by rcases hw1 with rfl | rfl<;>rfl
  have hos:SameOs w w2:=by rw [←hw2]; rcases hw1 with rfl | rfl<;>exact ⟨rfl,rfl,rfl,by first | exact fun _=>Nat.le_refl _ | exact fun _=>Nat.le_add_right _ _⟩
  have hit2':w2.heap[itb]? = some (.mapIter (some mb') clock (seen.push e.born) clock):=by
   rw [←hw2]
   exact (MapKept.heap_set (by rw [hw1h]; exact hit)).1
  have hother:∀ b,b≠itb→w2.heap[b]? = w.heap[b]? := by
   intro b hb
   rw [←hw2]
   show (w1.heap.setIfInBounds itb _)[b]? = _
   rw [(MapKept.heap_set (by rw [hw1h]; exact hit)).2 b hb,hw1h]
  have hsize:w2.heap.size=w.heap.size:=by
   rw [←hw2]
   show (w1.heap.setIfInBounds itb _).size=_
   simp [hw1h]
  have hmb2:w2.heap[mb']? = some (.map ms clock):=by rw [hother mb' hne]; exact hmb
  have chg:Chg { w:=w,H:=(mkSt sp.inv d).den.H,loc:=loc,X:=X } { w:=w2,H:=(mkSt sp.inv d).den.H,loc:=loc,X:=X } :=
   ⟨rfl,rfl,by show w.heap.size≤w2.heap.size; omega,fun b hb hx=>⟨hx,hother b (fun e=>hx (by rw [e]; exact hXi))⟩,fun b hb=>by show b<w2.heap.size; rw [hsize]; exact hs.heap.X b hb,rfl⟩
  have hmk:marksOk w2 X a.defers:=⟨hs.defers.1,fun dd hdd=>by
   obtain ⟨D,e,h1,h2,h3⟩:=hs.defers.2 dd hdd
   exact ⟨D,e,by rw [hother D (fun e=>by rw [e] at h1; rw [hit] at h1; cases h1)]; exact h1,h2,h3⟩⟩
  have hs1:=((hs.chg chg hmk).skipT (hu1 d) (.tuple #[.bool true,e.key,e.val])).skipT (hu2 d) (.bool true)
  obtain ⟨hem,hes⟩:=mem_left he
  obtain ⟨i,hi⟩:=List.getElem?_of_mem hem
  obtain ⟨r,hri,hrb⟩:=row_of i e hi
  have hrm:=List.mem_of_getElem? hri
  have hre2:=relEntries_closed chg.toC hre
  obtain ⟨k1,k2,_⟩:=(relEntries_iff.1 hre2).2 i (sp.K.av (gi r 0).row,sp.V.av (gi r 1).row,(gi r 2).int.toNat) e (by simp [mapEs,hri]) hi
  have hiv1:((a.put (some sp.t1) (.tuple #[.bool true,e.key,e.val])).put (some sp.t2) (.bool true)).eval (.tmp sp.it)=.pointer (some ⟨itb,0,none⟩):=by
   have h:=hs1.eval (.tmp sp.it)
   have e:(mkSt sp.inv d).den.eval (.tmp sp.it)=.lit (.pointer (some ⟨sp.adr d,0,none⟩)):=by
    show (mkSt sp.inv d).fr.getD sp.it .undef=_
    rw [List.getD_eq_getElem?_getD,hut d]
    rfl
   rw [e] at h
   simp only [rel] at h
   rw [h,had]
  have h20:ops2[0]? = some o3:=by
   have:ops2.toList[0]? = some o3:=by rw [e3]; rfl
   simpa using this
  have hl2:ops2.toList.drop 1=l:=by rw [e3]; rfl
  have hsz2:ops2.size=l.length+1:=by
   have:ops2.toList.length=l.length+1:=by rw [e3]; rfl
   simpa using this
  -- the order goes on
  have hlp:(p++(r::rows.filter fun x => !(seen.push (bornG r)).contains (bornG x))).Perm rows :=
   (List.Perm.append_left p (left_perm hn hrm (by rw [←hrb]; exact hes)).symm).trans hp
  have hst:∃ d',sp.st r d=some d'∧sp.adr d'=sp.adr d:=by
   have h:=hfold _ hlp
   rw [foldR_append,hf] at h
   simp only [Option.bind_some,foldR] at h
   cases hst:sp.st r d with
   | none=>rw [hst] at h; cases h
   | some d' =>
    rw [hst] at h
    simp only [] at h
    cases hb:Nat.beq (sp.adr d') (sp.adr d) with
    | true=>exact ⟨d',rfl,Nat.eq_of_beq_eq_true hb⟩
    | false=>rw [hb] at h; cases h
  obtain ⟨d',hst,had'⟩:=hst
  have hf':foldR sp.st sp.adr (p++[r]) d0=some d':=by
   rw [foldR_append,hf]
   simp only [Option.bind_some,foldR,hst,had']
   simp
  obtain ⟨s4,ha4,hsat⟩:=round_wp hm ht hL hr hst
  rw [hsz2,List.range_eq_range',List.range'_succ,wpOpsIn_cons]
  refine wpOp_value h20 g3 (run_entry_op p3 hiv1 (run_entry_at (P:=P) w2 itb mb' clock seen ms clock e hit2' hmb2 hem hbn)) (fun c e=>by rw [p3] at e; cases e) ro ?_
  rw [q3]
  have hs3:=hs1.putT sp.t3 (v:=.tuple [sp.K.av (gi r 0).row,sp.V.av (gi r 1).row]) (u:=.tuple #[e.key,e.val]) (by simp only [rel]; exact ⟨_,rfl,by simp only [rLs]; exact ⟨k1,k2,trivial⟩⟩)
  refine wpOps_of_aOps (pf:=τ.pf) (ops:=ops2) l (0+1) (sp.rs r d).den s4.den { w:=w2,H:=(mkSt sp.inv d).den.H,loc:=loc,X:=X } _ (by rw [←hl2]) (by rw [hl2] at ha4; exact ha4) hs3 (fun a3 w3 hc3=>?_) ro
  obtain ⟨loc3,r3,hs4,hle3⟩:=hc3
  show body.wpIn (fz ro) 0 P _ a3 w3
  refine wpIn_mono (hsat ro hro { w:=w3,H:=s4.den.H,loc:=loc3,X:=X.re r3 } a3 hs4) fun x a4 w4 hx=>?_
  obtain ⟨rfl,loc4,X4,hs5,hle4⟩:=hx
  have hall:({ w:=w2,H:=(mkSt sp.inv d).den.H,loc:=loc,X:=X }:Env).leM m { w:=w4,H:=(mkSt sp.inv d').den.H,loc:=loc4,X:=X4 }:=hle3.toM.trans hle4
  have hXsz:itb<w2.heap.size:=lt_of_heap hit2'
  have hnown:¬ Env.own { w:=w2,H:=(mkSt sp.inv d).den.H,loc:=loc,X:=X } itb:=by
   exact (hs.heap.chg chg).ownX hXi
  have hmbsz:mb'<w2.heap.size:=lt_of_heap hmb2
  have hit4:w4.heap[itb]? = some (.mapIter (some mb') clock (seen.push e.born) clock):=by rw [hall.same itb hXsz hnown]; exact hit2'
  obtain ⟨hk1,hk2⟩:=hkeep r d d' hst
  have hidd':=hid2 d'
  rw [hk1,hk2,hriD,hciD] at hidd'
  have hlive:=(hall.live sp.id him ⟨_,denH_get hidd,fun v _=>Nat.zero_le v⟩ ⟨_,denH_get hidd',rfl⟩).2
  refine ⟨⟨d',loc4,X4,seen.push e.born,clock,p++[r],hf',by rw [had',had],?_,hs5,?_,(hall.X itb hXsz).1.2 hXi,hit4,Nat.le_refl _,by rw [hk1,hriD],by rw [hk2,hciD],?_⟩,?_⟩
  ·rw [hrb, List.append_assoc]
   exact hlp
  ·refine Env.leM.trans (E' := { w := w2, H := (mkSt sp.inv d).den.H, loc := loc, X := X }) ⟨hle.past, ?_, ?_, hle.own, hle.live, hle.X, hle.rl, hle.env.trans hos⟩ hall
   ·have := hle.size
    show E.w.heap.size≤w2.heap.size
    rw [hsize]
    exact this
   ·intro b hb hbo
    show w2.heap[b]? = _
    rw [hother b (by omega)]
    exact hle.same b hb hbo
  ·rw [show loc4[sp.id]? = loc[sp.id]? from hlive]
   exact hlo
  ·show (rows.filter fun x => !(w4.iterSeen itb).contains (bornG x)).length < (rows.filter fun x => !(w.iterSeen itb).contains (bornG x)).length
   rw [iterSeen_of hit4,iterSeen_of hit]
   have:=(left_perm hn hrm (by rw [←hrb]; exact hes)).length_eq
   rw [←hrb] at this
   simp only [List.length_cons] at this
   omega
theorem range_wp1K (hm:P.follows .mixedOrders=true) (ht:TabOK P τ) (hL:LpK P m L body) (hr:RRound P τ L m sp ops2 body) (ho:ROps P sp ops0 ops1 ops2)
  (hu1:∀ d,(mkSt sp.inv d).fr[sp.t1]? = some .undef) (hu2:∀ d,(mkSt sp.inv d).fr[sp.t2]? = some .undef) (hut:∀ d,(mkSt sp.inv d).fr[sp.it]? = some (.lit (.pointer (some ⟨sp.adr d,0,none⟩))))
  {r1 b0 b1 r2:Nat} (hid2:∀ d,(mkSt sp.inv d).H[sp.id]? = some (.map sp.K sp.V (ri d) (ci d))) (hkeep:∀ r d d',sp.st r d=some d'→ri d'=ri d∧ci d'=ci d) (him:sp.id<m)
  {s:TSt} {d:List G} {rows:List (List G)} {clock:Nat} (hx:s.eval (.tmp sp.y)=.map sp.id) (hid:s.H[sp.id]? = some (.map sp.K sp.V rows clock)) (hn:(rows.map bornG).Nodup)
  (hlt:∀ r∈rows,bornG r<clock) (hin:∀ b,readP m sp.inv sp.ps (openAll sp.opens (sp.s2K s b))=some (true,sp.init d b)) (hadr:∀ b,sp.adr (sp.init d b)=b) (hri:∀ b,ri (sp.init d b)=rows∧ci (sp.init d b)=clock)
  (hfold:∀ b p,p.Perm rows→(foldR sp.st sp.adr p (sp.init d b)).isSome=true) (E:Env) (a:Act) (hs:SRel s.den E a) (ro:Option Nat) (hro:okR ro body) {Q:Exit→Act→World→Prop}
  (hQ:∀ a1 w1,(∃ b p d',p.Perm rows∧foldR sp.st sp.adr p (sp.init d b)=some d'∧MPost m E (mkSt sp.inv d').den a1 w1)→Q .normal a1 w1) :
  wpOpsIn (fz ro) 0 P ops0 (Exit.then ((Code.block b0 (.loop (.seq (.region r1 ops1 false) (.seq (.cond (.tmp sp.t2) .skip (.exit b0)) (.block b1 (.seq (.region r2 ops2 false) body)))))).wpIn (fz ro) 0 P Q) Q) [ops0.toList.dropLast.length] a E.w:=by
 obtain ⟨o2,ty,e1,g2,p2,q2,hty⟩:=ho.r0
 have h11:ops0[ops0.toList.dropLast.length]? = some o2:=by
  have:ops0.toList[ops0.toList.dropLast.length]? = some o2:=by
   rw [e1]
   simp
  simpa using this
 have hid':E.H[sp.id]? = some (.map (mapEs sp.K sp.V rows) clock):=by
  rw [hs.H]
  exact denH_get hid
 have hrx:rel E (.map sp.id) (a.eval (.tmp sp.y)):=by
  have:=hs.eval (.tmp sp.y)
  rwa [TSt.eval_den,hx] at this
 obtain ⟨mb,n,ms,hc,hloc,hmb,hre⟩:=rel_map hs.heap hid' hrx
 obtain ⟨⟨kt,et⟩,hty⟩:=Option.isSome_iff_exists.1 hty
 have hmbs:mb<E.w.heap.size:=lt_of_heap hmb
 rw [wpOpsIn_cons]
 refine wpOp_value h11 g2 (run_range_op p2 hc (run_range_map E.w ty kt et mb ms clock (mapTy_some hty) hmb)) (fun c e=>by rw [p2] at e; cases e) ro ?_
 rw [q2]
 show (Code.block _ _).wpIn (fz ro) 0 P _ _ _
 generalize hw2:E.w.alloc (.mapIter (some mb) clock #[] clock)=w2
 have hsize:w2.heap.size=E.w.heap.size+1:=by rw [←hw2]; show (E.w.heap.push _).size=_; simp
 have hold:∀ b,b<E.w.heap.size→w2.heap[b]? = E.w.heap[b]? := fun b hb=>by rw [←hw2]; exact (show (E.w.heap.push _)[b]? = _ by rw [Array.getElem?_push,if_neg (by omega)])
 have hitn:w2.heap[E.w.heap.size]? = some (.mapIter (some mb) clock #[] clock):=by rw [←hw2]; exact (show (E.w.heap.push _)[E.w.heap.size]? = _ by simp)
 have hos:SameOs E.w w2:=by rw [←hw2]; exact ⟨rfl,rfl,rfl,by first | exact fun _=>Nat.le_refl _ | exact fun _=>Nat.le_add_right _ _⟩
 have chg:Chg { w:=E.w,H:=E.H,loc:=E.loc,X:=E.X } { w:=w2,H:=E.H,loc:=E.loc,X:=E.X.or fun b=>b=E.w.heap.size } :=
  ⟨rfl, rfl, by show E.w.heap.size ≤ w2.heap.size; omega, fun b hb hx => ⟨fun h => h.elim hx (fun e => absurd hb (by rw [e]; exact Nat.lt_irrefl _)), hold b hb⟩, fun b hb => by
   show b<w2.heap.size
   rcases hb with hb | hb
   ·have := hs.heap.X b hb
    omega
   ·omega,rfl⟩
 have hs3:=(hs.chg chg (marksOk_same (X':=E.X.or fun b=>b=E.w.heap.size) (w':=w2) hs.defers (fun _ h1 h2=>⟨.inl h1,h2⟩) fun b h1 _=>hold b (hs.heap.X b h1))).putT sp.it (v:=.lit (.pointer (some ⟨E.w.heap.size,0,none⟩))) (u:=.pointer (some ⟨E.w.heap.size,0,none⟩)) (by simp only [rel])
 have hs3':SRel (sp.s2K s E.w.heap.size).den { w:=w2,H:=E.H,loc:=E.loc,X:=E.X.or fun b=>b=E.w.heap.size } _:=hs3
 obtain ⟨loc,X4,hs4,hle4⟩:=((openAll_le sp.opens _).trans (readP_le (hin E.w.heap.size))) _ _ hs3'
 have hidd:=hid2 (sp.init d E.w.heap.size)
 rw [(hri _).1,(hri _).2] at hidd
 have hlive:=(hle4.live sp.id him ⟨_,hid',fun v _=>Nat.zero_le v⟩ ⟨_,denH_get hidd,rfl⟩).2
 refine wpIn_block (wpIn_mono (range_loopK hm ht hL hr ho hu1 hu2 hut (ri:=ri) (ci:=ci) (E:=E) (rows:=rows) (d0:=sp.init d E.w.heap.size) (itb:=E.w.heap.size) (mb:=mb) (nn:=n) (clock:=clock)
  hid2 hkeep him (Nat.le_refl _) hn hlt (hfold _) ?_ ro hro) fun e a1 w1 hq=>?_)
 ·refine ⟨sp.init d E.w.heap.size, loc, X4, #[], clock, [], rfl, hadr _, ?_, hs4, ?_, (hle4.X E.w.heap.size (by show _ < w2.heap.size; omega)).1.2 (.inr rfl), ?_, Nat.le_refl _, (hri _).1, (hri _).2, ?_⟩
  ·have : (rows.filter fun x => !(#[] : Array Nat).contains (bornG x)) = rows := List.filter_eq_self.2 (fun x _ => by simp)
   rw [List.nil_append,this]
  ·refine Env.leM.trans (E' := { w := w2, H := E.H, loc := E.loc, X := E.X.or fun b => b = E.w.heap.size }) ⟨fun _ _ h => h, ?_, ?_, fun b _ h => h, fun _ _ _ h => ⟨h, rfl⟩, fun b hb => ⟨⟨fun h => h.elim id fun e => absurd hb (by rw [e]; exact Nat.lt_irrefl _), .inl⟩, Iff.rfl⟩, fun _ _ h => ⟨h, fun _ hq => hq⟩, hos⟩ hle4
   ·show E.w.heap.size ≤ w2.heap.size
    omega
   ·exact fun b hb _=>hold b hb
  ·rw [hle4.same E.w.heap.size (by show _ < w2.heap.size; omega) ?_]
   ·exact hitn
   ·exact (hs.heap.chg chg).ownX (.inr rfl)
  ·rw [show loc[sp.id]? = E.loc[sp.id]? from hlive]
   exact hloc
 ·obtain ⟨rfl, p, d', h1, h2, h3⟩ := hq
  simp only [Exit.inBlock,if_true]
  exact hQ _ _ ⟨_,p,d',h1,h2,h3⟩
theorem range_wpK (hm:P.follows .mixedOrders=true) (ht:TabOK P τ) (hL:LpK P m L body) (hr:RRound P τ L m sp ops2 body) (ho:ROps P sp ops0 ops1 ops2)
  (hu1:∀ d,(mkSt sp.inv d).fr[sp.t1]? = some .undef) (hu2:∀ d,(mkSt sp.inv d).fr[sp.t2]? = some .undef) (hut:∀ d,(mkSt sp.inv d).fr[sp.it]? = some (.lit (.pointer (some ⟨sp.adr d,0,none⟩))))
  {r0 r1 b0 b1 r2:Nat} (hid2:∀ d,(mkSt sp.inv d).H[sp.id]? = some (.map sp.K sp.V (ri d) (ci d))) (hkeep:∀ r d d',sp.st r d=some d'→ri d'=ri d∧ci d'=ci d) (him:sp.id<m)
  {s s1:TSt} {d:List G} {rows:List (List G)} {clock:Nat} (hp:aOps P τ.pf ops0 ops0.toList.dropLast s.den s1.den) (hx:s1.eval (.tmp sp.y)=.map sp.id) (hid:s1.H[sp.id]? = some (.map sp.K sp.V rows clock)) (hn:(rows.map bornG).Nodup)
  (hlt:∀ r∈rows,bornG r<clock) (hin:∀ b,readP m sp.inv sp.ps (openAll sp.opens (sp.s2K s1 b))=some (true,sp.init d b)) (hadr:∀ b,sp.adr (sp.init d b)=b) (hri:∀ b,ri (sp.init d b)=rows∧ci (sp.init d b)=clock)
  (hfold:∀ b p,p.Perm rows→(foldR sp.st sp.adr p (sp.init d b)).isSome=true) (E:Env) (a:Act) (hs:SRel s.den E a) (ro:Option Nat) (hro:okR ro body) :
  (rangeCode r0 b0 r1 b1 r2 ops0 ops1 ops2 sp.t2 body).wpIn (fz ro) 0 P (fun e a1 w1=>e=.normal∧∃ b p d',p.Perm rows∧foldR sp.st sp.adr p (sp.init d b)=some d'∧MPost m E (mkSt sp.inv d').den a1 w1) a E.w:=by
 refine wpIn_seq (wpIn_region ?_)
 obtain ⟨o2,ty,e1,_⟩:=ho.r0
 have hsz:ops0.size=ops0.toList.dropLast.length+1:=by
  have h:=congrArg List.length e1
  simpa using h
 have hl:List.range ops0.size=List.range' 0 ops0.toList.dropLast.length++[ops0.toList.dropLast.length]:=by
  rw [hsz,List.range_succ,List.range_eq_range']
 rw [hl]
 refine wpOps_pre (pf:=τ.pf) ro ops0.toList.dropLast 0 s.den s1.den E a _ (fun j o hj=>?_) hp hs fun a1 w1 hc=>?_
 ·have hlt := lt_of_getElem? hj
  have:ops0.toList[j]? = some o:=by
   rw [e1,List.getElem?_append_left hlt]
   exact hj
  simpa using this
 ·obtain ⟨loc1, r1, h1, h2⟩ := hc
  refine range_wp1K hm ht hL hr ho hu1 hu2 hut hid2 hkeep him hx hid hn hlt hin hadr hri hfold { w:=w1,H:=s1.den.H,loc:=loc1,X:=E.X.re r1 } a1 h1 ro hro fun a2 w2 ⟨b,p,d',g1,g2,g3⟩=>?_
  exact ⟨rfl,b,p,d',g1,g2,MPost.after h2.toM g3⟩
theorem range_satK (hm:P.follows .mixedOrders=true) (ht:TabOK P τ) {rest:Code} {q qr:LSpec} (hL:LpK P m L body) (hr:RRound P τ L m sp ops2 body) (ho:ROps P sp ops0 ops1 ops2)
  (hu1:∀ d,(mkSt sp.inv d).fr[sp.t1]? = some .undef) (hu2:∀ d,(mkSt sp.inv d).fr[sp.t2]? = some .undef) (hut:∀ d,(mkSt sp.inv d).fr[sp.it]? = some (.lit (.pointer (some ⟨sp.adr d,0,none⟩))))
  {r0 r1 b0 b1 r2:Nat} (hid2:∀ d,(mkSt sp.inv d).H[sp.id]? = some (.map sp.K sp.V (ri d) (ci d))) (hkeep:∀ r d d',sp.st r d=some d'→ri d'=ri d∧ci d'=ci d) (him:sp.id<m)
  {rows:List G→List (List G)} {clock:List G→Nat} {pre:List G→TSt} (hy:∀ d,(runOps P τ ops0 ops0.toList.dropLast (mkSt q.inv d) fun s=>.done .normal s).val1=some (.normal,pre d)) (hx:∀ d,(pre d).eval (.tmp sp.y)=.map sp.id) (hid:∀ d,(pre d).H[sp.id]? = some (.map sp.K sp.V (rows d) (clock d)))
  (hin:∀ d b,readP m sp.inv sp.ps (openAll sp.opens (sp.s2K (pre d) b))=some (sp.side d b,sp.init d b)) (hadr:∀ d b,sp.adr (sp.init d b)=b) (hri:∀ d b,ri (sp.init d b)=rows d∧ci (sp.init d b)=clock d)
  (hinv:qr.inv=sp.inv) (houts:qr.outs=q.outs) (hrest:CutSat P m rest qr) (hst:∀ d,q.st d=rangeR sp qr.st (rows d) (clock d) d) :
  CutSat P m (.seq (rangeCode r0 b0 r1 b1 r2 ops0 ops1 ops2 sp.t2 body) rest) q:=by
 intro d i d' h
 rw [hst] at h
 unfold rangeR at h
 cases hok:okSt (rows d) (clock d) with
 | false=>rw [hok] at h; cases h
 | true =>
  rw [hok] at h
  simp only [cond_true] at h
  have hall:=permB_all h
  obtain ⟨hn,hlt⟩:=okSt_iff hok
  have hsome:∀ b p,p.Perm (rows d)→sp.side d b=true∧∃ d1,foldR sp.st sp.adr p (sp.init d b)=some d1∧qr.st d1=some (some i,d'):=by
   intro b p hp
   have:=hall b p hp
   cases hsd:sp.side d b with
   | false=>rw [hsd] at this; cases this
   | true =>
    rw [hsd] at this
    simp only [cond_true] at this
    cases hf:foldR sp.st sp.adr p (sp.init d b) with
    | none=>rw [hf] at this; cases this
    | some d1 =>
     rw [hf] at this
     exact ⟨rfl,d1,rfl,this⟩
  obtain ⟨_,d1,_,g1⟩:=hsome 0 (rows d) (List.Perm.refl _)
  obtain ⟨o,ho1,_⟩:=hrest d1 i d' g1
  refine ⟨o,by rw [←houts]; exact ho1,fun ro hro E a hs=>wpIn_seq (wpIn_mono (range_wpK hm ht hL hr ho hu1 hu2 hut hid2 hkeep him (pre_ops ht (hy d)) (hx d) (hid d) hn hlt (fun b=>by rw [hin d b,(hsome b (rows d) (List.Perm.refl _)).1]) (hadr d) (hri d) (fun b p hp=>?_) E a hs ro (okR_body hro.seq1)) fun e a1 w1 hq=>?_)⟩
  ·obtain ⟨_, d2, h2, _⟩ := hsome b p hp
   rw [h2]
   rfl
  ·obtain ⟨rfl, b, p, d2, hp, hf, loc, X, hs2, hle⟩ := hq
   obtain ⟨_,d3,h3,h4⟩:=hsome b p hp
   rw [hf] at h3
   cases h3
   obtain ⟨o',ho2,hsat⟩:=hrest d2 i d' h4
   rw [ho1] at ho2
   cases ho2
   rw [hinv] at hsat
   exact wpIn_mono (hsat ro hro.seq2 { w:=w1,H:=(mkSt sp.inv d2).den.H,loc:=loc,X:=X } a1 hs2) fun x a2 w2 hx=>⟨hx.1,MPost.after hle hx.2⟩
theorem LpK.addRangeK (hm:P.follows .mixedOrders=true) (ht:TabOK P τ) {fn:Func} {q qr:LSpec} {r0 b0 r1 b1 r2:Nat} {rows:List G→List (List G)} {clock:List G→Nat}
  (hid2:∀ d,(mkSt sp.inv d).H[sp.id]? = some (.map sp.K sp.V (ri d) (ci d))) (hkeep:∀ r d d',sp.st r d=some d'→ri d'=ri d∧ci d'=ci d) (him:Nat.blt sp.id m=true) (hn:oneKey q.key (cutsIn (bodyOf fn))=true) (hL:LpK P m L (bodyOf fn))
  (hc:cutAt fn q.key=.seq (rangeCode r0 b0 r1 b1 r2 (rOps0 (cutAt fn q.key)) (rOps1 (cutAt fn q.key)) (rOps2 (cutAt fn q.key)) sp.t2 (rBody (cutAt fn q.key))) (rRest (cutAt fn q.key)))
  (ho:(ops0Ok P sp (rOps0 (cutAt fn q.key))&&ops1Ok sp (rOps1 (cutAt fn q.key))&&ops2Ok sp (rOps2 (cutAt fn q.key)))=true)
  (hr:RRound P τ L m sp (rOps2 (cutAt fn q.key)) (rBody (cutAt fn q.key)))
  (hu1:∀ d,(mkSt sp.inv d).fr[sp.t1]? = some .undef) (hu2:∀ d,(mkSt sp.inv d).fr[sp.t2]? = some .undef) (hut:∀ d,(mkSt sp.inv d).fr[sp.it]? = some (.lit (.pointer (some ⟨sp.adr d,0,none⟩))))
  {pre:List G→TSt} (hy:∀ d,(runOps P τ (rOps0 (cutAt fn q.key)) (rOps0 (cutAt fn q.key)).toList.dropLast (mkSt q.inv d) fun s=>.done .normal s).val1=some (.normal,pre d)) (hx:∀ d,(pre d).eval (.tmp sp.y)=.map sp.id) (hid:∀ d,(pre d).H[sp.id]? = some (.map sp.K sp.V (rows d) (clock d)))
  (hin:∀ d b,readP m sp.inv sp.ps (openAll sp.opens (sp.s2K (pre d) b))=some (sp.side d b,sp.init d b)) (hadr:∀ d b,sp.adr (sp.init d b)=b) (hri:∀ d b,ri (sp.init d b)=rows d∧ci (sp.init d b)=clock d)
  (hinv:qr.inv=sp.inv) (houts:qr.outs=q.outs) (hrest:CutOK P τ L m (rRest (cutAt fn q.key)) qr) (hst:∀ d,q.st d=rangeR sp qr.st (rows d) (clock d) d) :
  LpK P m (L.addCut m q) (bodyOf fn):=by
 refine LpK.addCutS hn hL fun hLc=>?_
 rw [hc] at hLc
 obtain ⟨hLb,hLr⟩:=loopsOK_parts hLc
 simp only [Bool.and_eq_true] at ho
 rw [hc]
 exact range_satK hm ht hLb hr (rops_of ho.1.1 ho.1.2 ho.2) hu1 hu2 hut hid2 hkeep (by rw [←Nat.blt_eq]; exact him) hy hx hid hin hadr hri hinv houts (hrest.sat hm ht hLr) hst
end range
end Go.AL

namespace Go.AL
open Go
variable [Dr]
theorem rangeR_keeps {sp:RSpec} {tl:List G→Option (Option Nat × List G)} {rows:List (List G)} {clock:Nat} {d:List G} {v:Option Nat × List G} {I:List G→Prop} {Q:Option Nat × List G→Prop} (h:rangeR sp tl rows clock d=some v)
  (h0:∀ b,I (sp.init d b)) (hs:∀ r x y,sp.st r x=some y→I x→I y) (ht:∀ x u,tl x=some u→I x→Q u):Q v:=by
 unfold rangeR at h
 cases hk:okSt rows clock with
 | false=>rw [hk] at h; cases h
 | true =>
  rw [hk] at h
  have h1:=permB_all h 0 rows (.refl _)
  cases hb:sp.side d 0 with
  | false=>rw [hb] at h1; cases h1
  | true =>
   rw [hb] at h1
   obtain ⟨x,hx,hv⟩:=Option.bind_eq_some_iff.1 h1
   refine ht x v hv ?_
   have key:∀ (q:List (List G)) (a b:List G),foldR sp.st sp.adr q a=some b→I a→I b:=by
    intro q
    induction q with
    | nil=>intro a b h hi; cases h; exact hi
    | cons r q ih =>
     intro a b h hi
     simp only [foldR] at h
     split at h
     ·rename_i y hy
      cases hq:Nat.beq (sp.adr y) (sp.adr a) with
      | false=>rw [hq] at h; cases h
      | true=>rw [hq] at h; exact ih y b h (hs r a y hy hi)
     ·cases h
   exact key rows _ x hx (h0 0)
theorem loopB_cut {β:Type} {c:Bool} {X:Option (Option Nat × List G)} {K:Nat→List G→Option β} {r:β} (h:loopB c (cutR X) K=some r):∃ x g,X=some (some x,g)∧K x g=some r:=by
 unfold loopB at h
 match X,h with
 | none,h=>cases c<;>cases h
 | some (none,g),h=>cases c<;>cases h
 | some (some x,g),h =>
  cases c with
  | false=>cases h
  | true=>exact ⟨x,g,rfl,h⟩
end Go.AL

namespace Go.AL
open Go
variable [Dr]
end Go.AL
