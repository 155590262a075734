/-
 What is proved here: a range over a map whose elements are slices that are owned with it: each round has its element for itself. No program in sight; no condition but that the program follows mixed orders.
-/
import Derived.Test.YtelglbbhbgjagaaGreatDoorMG
set_option linter.all false
namespace Go.AL
open Go Go.ChangeMaps
variable [Dr]
def embI:Emb:=⟨[],[],0⟩
theorem embI_at (j:Nat):embI.at j=j:=by simp [Emb.at,embI]
theorem embI_up (j:Nat):embI.up j=0:=by simp [Emb.up,embI]
mutual
theorem ren_id:∀ (a:AV),a.ren embI=a
 | .undef | .lit _ | .nils | .list _ _ | .listF _ _ | .cptr _ | .ifc | .emptyS _=>rfl
 | .agg cs=>by simp only [AV.ren,renL_id cs]
 | .tuple cs=>by simp only [AV.ren,renL_id cs]
 | .clo f cs=>by simp only [AV.ren,renL_id cs]
 | .ptr ..=>by simp only [AV.ren,embI_at,embI_up,Nat.add_zero]
 | .vec ..=>by simp only [AV.ren,embI_at,embI_up,Nat.add_zero]
 | .map _=>by simp only [AV.ren,embI_at]
theorem renL_id:∀ (as:List AV),AV.renL embI as=as
 | []=>rfl
 | a::as=>by simp only [AV.renL,ren_id a,renL_id as]
end
theorem renO_id (j:Nat) (o:AObj):o.ren embI j=o:=by
 cases o<;>simp only [AObj.ren,renL_id,embI_up,Nat.add_zero]
structure Env.leW (E E':Env):Prop where
 ok:∀ b,E.okb b→E'.okb b∧E'.w.heap[b]? = E.w.heap[b]?
 past:∀ id ver,E.past id ver→E'.past id ver
 live:∀ id ver,E.past id ver→E'.live id ver→E.live id ver∧E'.loc[id]? = E.loc[id]?
theorem Env.leW.ren {E E':Env} (h:E.leW E'):RenOK false embI E E' :=
 ⟨fun _ => h.ok, fun j ver hp => by rw [embI_at, embI_up, Nat.add_zero]; exact h.past j ver hp, fun j ver hp hl => by
  rw [embI_at,embI_up,Nat.add_zero] at hl
  rw [embI_at]
  exact h.live j ver hp hl⟩
theorem Env.leW.toC {E E':Env} (h:E.leW E'):E.leC E':=⟨h.ok⟩
theorem rel_leW {E E':Env} (h:E.leW E') (a:AV) {c:Value} (hr:rel E a c):rel E' a c:=by
 have:=ren_rel h.ren a (fun e=>by cases e) hr
 rwa [ren_id] at this
theorem relList_leW {E E':Env} (h:E.leW E') {as:List AV} {cs:List Value} (hr:rLs E as cs):rLs E' as cs:=by
 have:=renL_rel h.ren as (fun e=>by cases e) hr
 rwa [renL_id] at this
theorem objRel_leW {E E':Env} (h:E.leW E') {j:Nat} {o:AObj} (hl:E'.loc[j]? = E.loc[j]?) (hb:∀ b n,E.loc[j]? = some (some (b,n))→E'.w.heap[b]? = E.w.heap[b]?)
  (hg:∀ l,o.label=some l→E'.X.r l=E.X.r l∧∀ (h g m:Nat),(E.X.r l)[h]? = some (some (some (g,m)))→E'.w.heap[g]? = E.w.heap[g]?) (ho:objRel E j o):objRel E' j o:=by
 have:=objRel_ren h.ren (j:=j) (fun e=>by cases e) (by rw [embI_at]; exact hl) hb hg ho
 rwa [renO_id,embI_at] at this
def Ct.vks:Ct→List Kd
 | .one (.list ks)=>ks
 | _=>[]
def RSpec.rsP (sp:RSpec) (r d:List G):TSt:=⟨(mkSt sp.inv d).fr.set sp.t3 (.tuple [sp.K.av (gi r 0).row,.vec sp.V.vks.length (mkSt sp.inv d).H.length 0 0 (slotG r).length]),(mkSt sp.inv d).H++[.vec sp.V.vks 0 (slotG r)]⟩
section range
variable {P:Program} {τ:Tab} {L:LT} {m:Nat} {sp:RSpec} {ops0 ops1 ops2:Array Oper} {body:Code}
def RRoundP (P:Program) (τ:Tab) (L:LT) (m:Nat) (sp:RSpec) (ops2:Array Oper) (body:Code):Prop :=
 ∀ r d,(runOps P τ ops2 (ops2.toList.drop 1) (sp.rsP r d) (fun s=>runCode P τ L body s .done)).leaf (leafM m sp.inv sp.ps)=sp.st r d
theorem round_wpP (hm:P.follows .mixedOrders=true) (ht:TabOK P τ) (hL:LpK P m L body) (hr:RRoundP P τ L m sp ops2 body) {r d d':List G} (h:sp.st r d=some d') :
  ∃ s4:TSt,aOps P τ.pf ops2 (ops2.toList.drop 1) (sp.rsP r d).den s4.den∧ASat P m body s4.den .normal (mkSt sp.inv d').den:=by
 rw [←hr r d] at h
 obtain ⟨s4,h1,h2⟩:=runOps_sound ht (Q:=fun x s=>leafM m sp.inv sp.ps x s=some (true,d')) (leaf_holds h)
 obtain ⟨x,s5,h3,h4⟩:=runCode_sound hm ht body s4 .done hL h2
 have h4:leafM m sp.inv sp.ps x s5=some (true,d'):=h4
 unfold leafM at h4
 split at h4
 ·exact ⟨s4,h1,sat_post h3 (readP_le h4)⟩
 ·cases h4
def pendB (bl:Nat→Option (Nat × Nat)) (ms:Array MapEntry) (seen:Array Nat) (b:Nat):Prop:=∃ (i:Nat) (e:MapEntry) (m:Nat),ms.toList[i]? = some e∧seen.contains e.born=false∧bl i=some (b,m)
def XS.less (X:XS) (p:Nat→Prop):XS:=⟨fun b=>X b∧¬ p b,X.z,X.r⟩
def slotX (E:Env) (k:Nat) (rows:List (List AV)) (q:Option (Nat × Nat)) (v:Value):Prop :=
 (rows = [] ∧ q = none ∧ ∃ base, v = .slice base 0 0) ∨
  ∃ b m,q=some (b,m)∧v=.slice (some ⟨b,0,none⟩) rows.length m∧E.X b∧isRow E.w b (m*k)∧rows.length≤m∧closedRows rows∧relRows E k rows b 0
def RInvP (m:Nat) (sp:RSpec) (E:Env) (rows:List (List G)) (d0:List G) (itb mb clock:Nat) (ms:Array MapEntry) (bl:Nat→Option (Nat × Nat)) (a:Act) (w:World):Prop :=
 ∃ (d:List G) (loc:List (Option (Nat × Nat))) (X:XS) (seen:Array Nat) (last:Nat) (p:List (List G)),
  foldR sp.st sp.adr p d0=some d∧sp.adr d=itb∧(p++rows.filter fun x => !seen.contains (bornG x)).Perm rows ∧
  SRel (mkSt sp.inv d).den { w:=w,H:=(mkSt sp.inv d).den.H,loc:=loc,X:=X } a∧E.leM m { w:=w,H:=(mkSt sp.inv d).den.H,loc:=loc,X:=X.less (pendB bl ms seen) }∧X itb ∧
  w.heap[itb]? = some (.mapIter (some mb) clock seen last)∧clock≤last∧w.heap[mb]? = some (.map ms clock) ∧
  ¬ Env.own { w:=w,H:=(mkSt sp.inv d).den.H,loc:=loc,X:=X } mb∧relEntries { w:=w,H:=(mkSt sp.inv d).den.H,loc:=loc,X:=X } (rows.map fun r=>(sp.K.av (gi r 0).row,.undef,bornG r)) ms.toList ∧
  (∀ (i:Nat) r e,rows[i]? = some r→ms.toList[i]? = some e→seen.contains e.born=false→slotX { w:=w,H:=(mkSt sp.inv d).den.H,loc:=loc,X:=X } sp.V.vks.length ((slotG r).map (gCells sp.V.vks)) (bl i) e.val)
theorem take_slot {E:Env} (HE:HRel E) {k:Nat} {rows:List (List AV)} {q:Option (Nat × Nat)} {v:Value} (h:slotX E k rows q v) {p:Nat→Prop} (hp:∀ b,p b↔∃ m,q=some (b,m)) {l:List Deferred} (hmk:marksOk E.w E.X l) :
  HRel { w:=E.w,H:=E.H++[.vec k 0 rows],loc:=E.loc++[q],X:=E.X.less p }∧E.leW { w:=E.w,H:=E.H++[.vec k 0 rows],loc:=E.loc++[q],X:=E.X.less p } ∧
   rel { w:=E.w,H:=E.H++[.vec k 0 rows],loc:=E.loc++[q],X:=E.X.less p } (.vec k E.H.length 0 0 rows.length) v∧marksOk E.w (E.X.less p) l:=by
 have hlenH:E.H.length=E.loc.length:=HE.len.symm
 have hqX:∀ b m,q=some (b,m)→E.X b:=fun b m e=>by
  rcases h with ⟨_,h1,_⟩ | ⟨b',m',h1,_,h2,_⟩
  ·rw [h1] at e; cases e
  ·rw [h1] at e; cases e; exact h2
 have loc_old:∀ (i:Nat) x,(E.loc++[q])[i]? = some x→E.loc[i]? = some x∨(i=E.loc.length∧x=q):=fun i x hi=>by
  rw [List.getElem?_append] at hi
  split at hi
  ·exact .inl hi
  ·right
   cases hk:i-E.loc.length with
   | zero=>rw [hk] at hi; simp at hi; exact ⟨by omega,hi.symm⟩
   | succ n=>rw [hk] at hi; simp at hi
 have H_old:∀ (i:Nat) x,(E.H++[.vec k 0 rows])[i]? = some x→E.H[i]? = some x∨(i=E.H.length∧x=.vec k 0 rows):=fun i x hi=>by
  rw [List.getElem?_append] at hi
  split at hi
  ·exact .inl hi
  ·right
   cases hk:i-E.H.length with
   | zero=>rw [hk] at hi; simp at hi; exact ⟨by omega,hi.symm⟩
   | succ n=>rw [hk] at hi; simp at hi
 have hnew:(E.H++[.vec k 0 rows])[E.H.length]? = some (.vec k 0 rows):=by simp
 have hl:(E.loc++[q])[E.H.length]? = some q:=by rw [hlenH]; simp
 have hW:E.leW { w:=E.w,H:=E.H++[.vec k 0 rows],loc:=E.loc++[q],X:=E.X.less p }:=by
  refine ⟨fun b hb=>⟨⟨hb.1,?_,fun hx=>hb.2.2 hx.1⟩,rfl⟩,fun id ver hp=>?_,fun id ver hp hl=>?_⟩
  ·rintro (⟨i, c, hi⟩ | hs)
   ·rcases loc_old i _ hi with h1 | ⟨_, h1⟩
    ·exact hb.2.1 (.inl ⟨i,c,h1⟩)
    ·exact hb.2.2 (hqX b c h1.symm)
   ·exact hb.2.1 (.inr hs)
  ·obtain ⟨x, h1, h2⟩ := hp
   exact ⟨x,by simp only []; rw [List.getElem?_append_left (lt_of_getElem? h1)]; exact h1,h2⟩
  ·obtain ⟨x, h1, h2⟩ := hp
   have hlt:=lt_of_getElem? h1
   obtain ⟨y,h3,h4⟩:=hl
   simp only [] at h3
   rw [List.getElem?_append_left hlt] at h3
   exact ⟨⟨y,h3,h4⟩,by simp only []; rw [List.getElem?_append_left (by rw [←hlenH]; exact hlt)]⟩
 refine ⟨⟨by simp [HE.len],fun i j b m n hi hj=>?_,fun i b m hi=>?_,fun b hb=>HE.X b hb.1,fun i x hi=>?_,HE.tab.leC hW.toC,HE.rinj,fun i b m l h n hi hk=>?_,fun l h b m hk=>⟨(HE.rlt l h b m hk).1,fun hx=>(HE.rlt l h b m hk).2 hx.1⟩,fun i j x y l hi hj h1 h2=>?_,fun l hn h y hy=>?_⟩,hW,?_,?_⟩
 ·rcases loc_old i _ hi with h1 | ⟨h1, h2⟩ <;> rcases loc_old j _ hj with h3 | ⟨h3, h4⟩
  ·exact HE.inj _ _ _ _ _ h1 h3
  ·exact ((HE.lt _ _ _ h1).2 (hqX b n h4.symm)).elim
  ·exact ((HE.lt _ _ _ h3).2 (hqX b m h2.symm)).elim
  ·omega
 ·rcases loc_old i _ hi with h1 | ⟨h1, h2⟩
  ·exact ⟨(HE.lt _ _ _ h1).1,fun hx=>(HE.lt _ _ _ h1).2 hx.1⟩
  ·exact ⟨HE.X b (hqX b m h2.symm),fun hx=>hx.2 ((hp b).2 ⟨m,h2.symm⟩)⟩
 ·rcases H_old i x hi with h1 | ⟨rfl, rfl⟩
  ·exact objRel_leW hW (by simp only []; rw [List.getElem?_append_left (by rw [←hlenH]; exact lt_of_getElem? h1)]) (fun _ _ _=>rfl) (fun _ _=>⟨rfl,fun _ _ _ _=>rfl⟩) (HE.obj i x h1)
  ·simp only [objRel]
   rcases h with ⟨s1,s2,_⟩ | ⟨bb,mm,s1,_,_,s3,s4,s5,s6⟩
   ·exact .inl ⟨by rw [hl,s2],s1⟩
   ·exact .inr ⟨bb,mm,by rw [hl,s1],s3,s4,s5,relRows_same (fun a _ hr=>rel_leW hW a hr) rfl s6⟩
 ·rcases loc_old i _ hi with h1 | ⟨h1, h2⟩
  ·exact HE.rloc _ _ _ _ _ _ h1 hk
  ·exact (HE.rlt _ _ _ _ hk).2 (hqX b m h2.symm)
 ·rcases H_old i x hi with h3 | ⟨_, rfl⟩
  ·rcases H_old j y hj with h4 | ⟨_, rfl⟩
   ·exact HE.uniq i j x y l h3 h4 h1 h2
   ·cases h2
  ·cases h1
 ·exact HE.rdead l (fun i x hi=>hn i x (by simp only []; rw [List.getElem?_append_left (lt_of_getElem? hi)]; exact hi)) h y hy
 ·simp only [rel]
  rcases h with ⟨s1,s2,base,s3⟩ | ⟨bb,mm,s1,s2,_,s3,s4,s5,s6⟩
  ·subst s1
   refine ⟨⟨base,0,by rw [s3]; rfl,Nat.le_refl _,fun h=>by simp at h⟩,⟨_,hnew,fun v hv=>by cases hv; exact Nat.le_refl _⟩,fun _=>⟨fun _=>⟨by first | rfl | trivial,by first | rfl | trivial,base,s3⟩,fun b' m' hb'=>?_⟩⟩
   rw [hl,s2] at hb'
   cases hb'
  ·refine ⟨⟨_, mm, s2, s4, fun _ => ⟨bb, 0, rfl⟩⟩, ⟨_, hnew, fun v hv => by cases hv; exact Nat.le_refl _⟩, fun _ => ⟨fun hb' => ?_, fun b' m' hb' => ?_⟩⟩
   ·rw [hl, s1] at hb'
    cases hb'
   ·rw [hl, s1] at hb'
    cases hb'
    exact ⟨by omega,0,fun _=>by simp,by rw [s2,Nat.sub_zero]⟩
 ·refine ⟨hmk.1, fun dd hdd => ?_⟩
  obtain ⟨D,e,h1,h2,h3⟩:=hmk.2 dd hdd
  refine ⟨D,e,h1,⟨h2,fun hpD=>?_⟩,h3⟩
  obtain ⟨mm,hq⟩:=(hp D).1 hpD
  rcases h with ⟨_,s2,_⟩ | ⟨bb,m2,s1,_,_,⟨cs,el,s3,_⟩,_⟩
  ·rw [s2] at hq; cases hq
  ·rw [s1] at hq
   cases hq
   rw [h1] at s3
   cases s3
theorem range_loopP (hm:P.follows .mixedOrders=true) (ht:TabOK P τ) (hL:LpK P m L body) (hr:RRoundP P τ L m sp ops2 body) (ho:ROps P sp ops0 ops1 ops2)
  (hu1:∀ d,(mkSt sp.inv d).fr[sp.t1]? = some .undef) (hu2:∀ d,(mkSt sp.inv d).fr[sp.t2]? = some .undef) (hut:∀ d,(mkSt sp.inv d).fr[sp.it]? = some (.lit (.pointer (some ⟨sp.adr d,0,none⟩))))
  {E:Env} {rows:List (List G)} {d0:List G} {itb mb clock:Nat} {ms:Array MapEntry} {bl:Nat→Option (Nat × Nat)} {r1 b0 b1 r2:Nat}
  (hsz:E.w.heap.size≤itb) (hn:(rows.map bornG).Nodup) (hlt:∀ r∈rows,bornG r<clock) (hne:mb≠itb) (hbl:∀ (i j b m n:Nat),bl i=some (b,m)→bl j=some (b,n)→i=j) (hown0:∀ (i b m:Nat),bl i=some (b,m)→E.own b∧b<E.w.heap.size)
  (hfold:∀ p,p.Perm rows→(foldR sp.st sp.adr p d0).isSome=true) {a:Act} {w:World} (hI:RInvP m sp E rows d0 itb mb clock ms bl a w) (ro:Option Nat) (hro:okR ro body) :
  (Code.loop (.seq (.region r1 ops1 false) (.seq (.cond (.tmp sp.t2) .skip (.exit b0)) (.block b1 (.seq (.region r2 ops2 false) body))))).wpIn (fz ro) 0 P
   (fun e a1 w1=>e=.exit b0∧∃ p d,p.Perm rows∧foldR sp.st sp.adr p d0=some d∧MPost m E (mkSt sp.inv d).den a1 w1) a w:=by
 obtain ⟨o1,o2,e1,g1,p1,q1,g2,p2,q2⟩:=ho.r1
 obtain ⟨o3,l,e3,g3,p3,q3⟩:=ho.r2
 refine wpIn_loop (RInvP m sp E rows d0 itb mb clock ms bl) (fun _ w=>(leftOf ms (w.iterSeen itb)).size) hI fun a w hI=>?_
 obtain ⟨d,loc,X,seen,last,p,hf,had,hp,hs,hle,hXi,hit,hcl,hmb,hown,hre,hsx⟩:=hI
 have h10:ops1[0]? = some o1:=by
  have:ops1.toList[0]? = some o1:=by rw [e1]; rfl
  simpa using this
 have h11:ops1[1]? = some o2:=by
  have:ops1.toList[1]? = some o2:=by rw [e1]; rfl
  simpa using this
 have hsz1:ops1.size=2:=by
  have:ops1.toList.length=2:=by rw [e1]; rfl
  simpa using this
 have hiv:a.eval (.tmp sp.it)=.pointer (some ⟨itb,0,none⟩):=by
  have h:=hs.eval (.tmp sp.it)
  have e:(mkSt sp.inv d).den.eval (.tmp sp.it)=.lit (.pointer (some ⟨sp.adr d,0,none⟩)):=by
   show (mkSt sp.inv d).fr.getD sp.it .undef=_
   rw [List.getD_eq_getElem?_getD,hut d]
   rfl
  rw [e] at h
  simp only [rel] at h
  rw [h,had]
 obtain ⟨hlen,hen⟩:=relEntries_iff.1 hre
 have hl1:(rows.map fun r=>(sp.K.av (gi r 0).row,AV.undef,bornG r)).length=rows.length:=by simp
 have row_of:∀ (i:Nat) (e:MapEntry),ms.toList[i]? = some e→∃ r,rows[i]? = some r∧e.born=bornG r:=by
  intro i e hi
  have h1:=lt_of_getElem? hi
  have h2:i<rows.length:=by omega
  refine ⟨rows[i],List.getElem?_eq_getElem h2,?_⟩
  exact (hen i (sp.K.av (gi rows[i] 0).row,.undef,bornG rows[i]) e (by simp [h2]) hi).2.2.1
 have hold:∀ x∈ms.toList,x.born<clock:=by
  intro x hx
  obtain ⟨i,hi⟩:=List.getElem?_of_mem hx
  obtain ⟨r,h1,h2⟩:=row_of i x hi
  rw [h2]
  exact hlt r (List.mem_of_getElem? h1)
 have hbn:(ms.toList.map (·.born)).Nodup:=by
  have:ms.toList.map (·.born)=rows.map bornG:=by
   apply List.ext_getElem?
   intro i
   simp only [List.getElem?_map]
   cases hi:ms.toList[i]? with
   | none =>
    have h1:=List.getElem?_eq_none_iff.1 hi
    rw [List.getElem?_eq_none (by omega)]
    rfl
   | some e =>
    obtain ⟨r,h1,h2⟩:=row_of i e hi
    rw [h1]
    simp [h2]
  rw [this]
  exact hn
 refine wpIn_seq (wpIn_region ?_)
 rw [hsz1]
 show wpOpsIn (fz ro) 0 P ops1 _ [0,1] a w
 rw [wpOpsIn_cons]
 have hlt1:=tmp_lt hs (hu1 d)
 have hlt2:=tmp_lt hs (hu2 d)
 rcases run_next_at (P:=P) w o1.type itb mb clock last seen ms clock hit hmb hold hcl with ⟨h0,hrun⟩ | ⟨e,he,w1,hw1,hrun⟩
 ·refine wpOp_value h10 g1 (run_next_op p1 hiv hrun) (fun c e => by rw [p1] at e; cases e) ro ?_
  rw [q1,wpOpsIn_cons]
  refine wpOp_value h11 g2 (run_extract0 p2 (eval_put_same hlt1) rfl) (fun c e=>by rw [p2] at e; cases e) ro ?_
  rw [q2]
  show (Code.seq _ _).wpIn (fz ro) 0 P _ _ w
  refine wpIn_seq (wpIn_cond_false (eval_put_same (by simpa [Act.put] using hlt2)) (wpIn_exit ?_))
  have hnil:(leftOf ms seen).toList=[]:=List.length_eq_zero_iff.1 (by simpa using h0)
  have hpend:∀ b,¬ pendB bl ms seen b:=by
   rintro b ⟨i,e,mm,hi,hs0,_⟩
   have:e∈(leftOf ms seen).toList:=by
    unfold leftOf
    rw [Array.toList_filter]
    exact List.mem_filter.2 ⟨List.mem_of_getElem? hi,by rw [hs0]; rfl⟩
   rw [hnil] at this
   cases this
  have hX0:X.less (pendB bl ms seen)=X:=by
   unfold XS.less
   have:(fun b=>X b∧¬ pendB bl ms seen b)=X.x:=by
    funext b
    exact propext ⟨fun h=>h.1,fun h=>⟨h,hpend b⟩⟩
   rw [this]
  rw [hX0] at hle
  refine ⟨rfl,p,d,?_,hf,loc,X,?_,hle⟩
  ·have:(rows.filter fun x => !seen.contains (bornG x))=[]:=by
    rw [List.filter_eq_nil_iff]
    intro x hx hc
    obtain ⟨i,hi⟩:=List.getElem?_of_mem hx
    have h1:=lt_of_getElem? hi
    have h2:i<ms.toList.length:=by omega
    obtain ⟨r,h3,h4⟩:=row_of i _ (List.getElem?_eq_getElem h2)
    rw [hi] at h3
    cases h3
    have:ms.toList[i]∈(leftOf ms seen).toList:=by
     unfold leftOf
     rw [Array.toList_filter]
     refine List.mem_filter.2 ⟨List.getElem_mem h2,?_⟩
     rw [h4]
     exact hc
    have h5:(leftOf ms seen).toList.length=0:=by simpa using h0
    rw [List.length_eq_zero_iff.1 h5] at this
    cases this
   rwa [this,List.append_nil] at hp
  ·exact (hs.skipT (hu1 d) (.tuple #[.bool false])).skipT (hu2 d) (.bool false)
 ·refine wpOp_value h10 g1 (run_next_op p1 hiv hrun) (fun c e => by rw [p1] at e; cases e) ro ?_
  rw [q1,wpOpsIn_cons]
  refine wpOp_value h11 g2 (run_extract0 p2 (eval_put_same hlt1) rfl) (fun c e=>by rw [p2] at e; cases e) ro ?_
  rw [q2]
  show (Code.seq _ _).wpIn (fz ro) 0 P _ _ _
  refine wpIn_seq (wpIn_cond_true (eval_put_same (by simpa [Act.put] using hlt2)) (wpIn_skip ?_))
  show (Code.block _ _).wpIn (fz ro) 0 P _ _ _
  refine wpIn_block (wpIn_seq (wpIn_region ?_))
  generalize hw2:setBlock w1 itb (.mapIter (some mb) clock (seen.push e.born) clock)=w2
  have hw1h:w1.heap=w.heap:=by rcases hw1 with rfl | rfl<;>rfl
  have hos:SameOs w w2:=by rw [←hw2]; rcases hw1 with rfl | rfl<;>exact ⟨rfl,rfl,rfl,by first | exact fun _=>Nat.le_refl _ | exact fun _=>Nat.le_add_right _ _⟩
  have hit2':w2.heap[itb]? = some (.mapIter (some mb) clock (seen.push e.born) clock):=by
   rw [←hw2]
   exact (MapKept.heap_set (by rw [hw1h]; exact hit)).1
  have hother:∀ b,b≠itb→w2.heap[b]? = w.heap[b]? := by
   intro b hb
   rw [←hw2]
   show (w1.heap.setIfInBounds itb _)[b]? = _
   rw [(MapKept.heap_set (by rw [hw1h]; exact hit)).2 b hb,hw1h]
  have hsize:w2.heap.size=w.heap.size:=by
   rw [←hw2]
   show (w1.heap.setIfInBounds itb _).size=_
   simp [hw1h]
  have hmb2:w2.heap[mb]? = some (.map ms clock):=by rw [hother mb hne]; exact hmb
  have chg:Chg { w:=w,H:=(mkSt sp.inv d).den.H,loc:=loc,X:=X } { w:=w2,H:=(mkSt sp.inv d).den.H,loc:=loc,X:=X } :=
   ⟨rfl,rfl,by show w.heap.size≤w2.heap.size; omega,fun b hb hx=>⟨hx,hother b (fun e=>hx (by rw [e]; exact hXi))⟩,fun b hb=>by show b<w2.heap.size; rw [hsize]; exact hs.heap.X b hb,rfl⟩
  have hmk:marksOk w2 X a.defers:=⟨hs.defers.1,fun dd hdd=>by
   obtain ⟨D,e,h1,h2,h3⟩:=hs.defers.2 dd hdd
   exact ⟨D,e,by rw [hother D (fun e=>by rw [e] at h1; rw [hit] at h1; cases h1)]; exact h1,h2,h3⟩⟩
  have hs1:=((hs.chg chg hmk).skipT (hu1 d) (.tuple #[.bool true,e.key,e.val])).skipT (hu2 d) (.bool true)
  obtain ⟨hem,hes⟩:=mem_left he
  obtain ⟨i,hi⟩:=List.getElem?_of_mem hem
  obtain ⟨r,hri,hrb⟩:=row_of i e hi
  have hrm:=List.mem_of_getElem? hri
  have hre2:=relEntries_closed chg.toC hre
  obtain ⟨k1,_⟩:=(relEntries_iff.1 hre2).2 i (sp.K.av (gi r 0).row,.undef,bornG r) e (by simp [hri]) hi
  have hiv1:((a.put (some sp.t1) (.tuple #[.bool true,e.key,e.val])).put (some sp.t2) (.bool true)).eval (.tmp sp.it)=.pointer (some ⟨itb,0,none⟩):=by
   have h:=hs1.eval (.tmp sp.it)
   have e:(mkSt sp.inv d).den.eval (.tmp sp.it)=.lit (.pointer (some ⟨sp.adr d,0,none⟩)):=by
    show (mkSt sp.inv d).fr.getD sp.it .undef=_
    rw [List.getD_eq_getElem?_getD,hut d]
    rfl
   rw [e] at h
   simp only [rel] at h
   rw [h,had]
  have h20:ops2[0]? = some o3:=by
   have:ops2.toList[0]? = some o3:=by rw [e3]; rfl
   simpa using this
  have hl2:ops2.toList.drop 1=l:=by rw [e3]; rfl
  have hsz2:ops2.size=l.length+1:=by
   have:ops2.toList.length=l.length+1:=by rw [e3]; rfl
   simpa using this
  -- the order goes on
  have hlp:(p++(r::rows.filter fun x => !(seen.push (bornG r)).contains (bornG x))).Perm rows :=
   (List.Perm.append_left p (left_perm hn hrm (by rw [←hrb]; exact hes)).symm).trans hp
  have hst:∃ d',sp.st r d=some d'∧sp.adr d'=sp.adr d:=by
   have h:=hfold _ hlp
   rw [foldR_append,hf] at h
   simp only [Option.bind_some,foldR] at h
   cases hst:sp.st r d with
   | none=>rw [hst] at h; cases h
   | some d' =>
    rw [hst] at h
    simp only [] at h
    cases hb:Nat.beq (sp.adr d') (sp.adr d) with
    | true=>exact ⟨d',rfl,Nat.eq_of_beq_eq_true hb⟩
    | false=>rw [hb] at h; cases h
  obtain ⟨d',hst,had'⟩:=hst
  have hf':foldR sp.st sp.adr (p++[r]) d0=some d':=by
   rw [foldR_append,hf]
   simp only [Option.bind_some,foldR,hst,had']
   simp
  obtain ⟨s4,ha4,hsat⟩:=round_wpP hm ht hL hr hst
  rw [hsz2,List.range_eq_range',List.range'_succ,wpOpsIn_cons]
  refine wpOp_value h20 g3 (run_entry_op p3 hiv1 (run_entry_at (P:=P) w2 itb mb clock seen ms clock e hit2' hmb2 hem hbn)) (fun c e=>by rw [p3] at e; cases e) ro ?_
  rw [q3]
  -- the element is taken
  have hsi:=hsx i r e hri hi hes
  have hsi2:slotX { w:=w2,H:=(mkSt sp.inv d).den.H,loc:=loc,X:=X } sp.V.vks.length ((slotG r).map (gCells sp.V.vks)) (bl i) e.val:=by
   rcases hsi with hl | ⟨bb,mm,s1,s2,s3,⟨cs,el,s4,s4'⟩,s5,s6,s7⟩
   ·exact .inl hl
   ·have hbi:bb≠itb:=fun e2=>by
     subst e2
     rw [show ({ w:=w,H:=(mkSt sp.inv d).den.H,loc:=loc,X:=X }:Env).w.heap=w.heap from rfl,hit] at s4
     cases s4
    exact .inr ⟨bb,mm,s1,s2,s3,⟨cs,el,by rw [show ({ w:=w2,H:=(mkSt sp.inv d).den.H,loc:=loc,X:=X }:Env).w.heap=w2.heap from rfl,hother bb hbi]; exact s4,s4'⟩,s5,s6,relRows_closed chg.toC _ s6 (hother bb hbi) s7⟩
  have hpi:∀ b,(∃ mm,bl i=some (b,mm))↔∃ mm,bl i=some (b,mm):=fun _=>Iff.rfl
  obtain ⟨t1,t2,t3,t4⟩:=take_slot (hs.heap.chg chg) hsi2 hpi (l:=a.defers) hmk
  generalize hE3:({ w:=w2,H:=(mkSt sp.inv d).den.H++[.vec sp.V.vks.length 0 ((slotG r).map (gCells sp.V.vks))],loc:=loc++[bl i],X:=X.less fun b=>∃ mm,bl i=some (b,mm) }:Env)=E3 at t1 t2 t3
  have hHlen:(mkSt sp.inv d).den.H.length=(mkSt sp.inv d).H.length:=by simp [TSt.den,denH_length]
  have hs2b:SRel ⟨(mkSt sp.inv d).fr,(mkSt sp.inv d).den.H++[.vec sp.V.vks.length 0 ((slotG r).map (gCells sp.V.vks))]⟩ E3 ((a.put (some sp.t1) (.tuple #[.bool true,e.key,e.val])).put (some sp.t2) (.bool true)):=by
   refine ⟨by rw [←hE3],relList_leW t2 hs1.fr,?_,t1⟩
   rw [←hE3,put_defers,put_defers]
   exact t4
  have hs3:=hs2b.putT sp.t3 (v:=.tuple [sp.K.av (gi r 0).row,.vec sp.V.vks.length (mkSt sp.inv d).H.length 0 0 (slotG r).length]) (u:=.tuple #[e.key,e.val]) (by
   simp only [rel]
   refine ⟨_,rfl,?_⟩
   simp only [rLs]
   refine ⟨rel_leW t2 _ k1,?_,trivial⟩
   have:=t3
   simp only [List.length_map] at this
   rw [←hHlen]
   exact this)
  have hden3:(sp.rsP r d).den=(St.put ⟨(mkSt sp.inv d).fr,(mkSt sp.inv d).den.H++[.vec sp.V.vks.length 0 ((slotG r).map (gCells sp.V.vks))]⟩ (some sp.t3) (.tuple [sp.K.av (gi r 0).row,.vec sp.V.vks.length (mkSt sp.inv d).H.length 0 0 (slotG r).length]) ((mkSt sp.inv d).den.H++[.vec sp.V.vks.length 0 ((slotG r).map (gCells sp.V.vks))])):=by
   simp [RSpec.rsP,TSt.den,St.put,putFr,denH_push,TObj.den]
  rw [show (⟨(mkSt sp.inv d).fr,(mkSt sp.inv d).den.H++[.vec sp.V.vks.length 0 ((slotG r).map (gCells sp.V.vks))]⟩:St).H=(mkSt sp.inv d).den.H++[.vec sp.V.vks.length 0 ((slotG r).map (gCells sp.V.vks))] from rfl,←hden3] at hs3
  have hw3E:E3.w=w2:=by rw [←hE3]
  have hX3:∀ b,E3.X b↔(X b∧¬ ∃ mm,bl i=some (b,mm)):=fun b=>by rw [←hE3]; exact Iff.rfl
  have hz3:E3.X.z=X.z:=by rw [←hE3]; rfl
  have hr3:E3.X.r=X.r:=by rw [←hE3]; rfl
  rw [←hw3E]
  refine wpOps_of_aOps (pf:=τ.pf) (ops:=ops2) l (0+1) (sp.rsP r d).den s4.den E3 _ (by rw [←hl2]) (by rw [hl2] at ha4; exact ha4) hs3 (fun a3 w3 hc3=>?_) ro
  obtain ⟨loc3,r3,hs4,hle3⟩:=hc3
  show body.wpIn (fz ro) 0 P _ a3 w3
  refine wpIn_mono (hsat ro hro { w:=w3,H:=s4.den.H,loc:=loc3,X:=E3.X.re r3 } a3 hs4) fun x a4 w4 hx=>?_
  obtain ⟨rfl,loc4,X4,hs5,hle4⟩:=hx
  have hall:E3.leM m { w:=w4,H:=(mkSt sp.inv d').den.H,loc:=loc4,X:=X4 }:=hle3.toM.trans hle4
  have hXi3:E3.X itb:=(hX3 itb).2 ⟨hXi,fun ⟨mm,hb⟩=>by have:=(hown0 i itb mm hb).2; omega⟩
  have hXsz:itb<E3.w.heap.size:=by rw [hw3E]; exact lt_of_heap hit2'
  have hnown:¬ E3.own itb:=t1.ownX hXi3
  have hmbn3:¬ E3.own mb:=by
   rw [←hE3]
   rintro (⟨j,c,hj⟩ | hs0)
   ·simp only [List.getElem?_append] at hj
    split at hj
    ·exact hown (.inl ⟨j,c,hj⟩)
    ·rename_i hge
     cases hk:j-loc.length with
     | zero =>
      rw [hk] at hj
      simp at hj
      rcases hsi with ⟨_,s2,_⟩ | ⟨bb,mm,s1,_,_,⟨cs,el,s4,_⟩,_⟩
      ·rw [s2] at hj; cases hj
      ·rw [s1] at hj
       cases hj
       rw [show ({ w:=w,H:=(mkSt sp.inv d).den.H,loc:=loc,X:=X }:Env).w.heap=w.heap from rfl,hmb] at s4
       cases s4
     | succ n=>rw [hk] at hj; simp at hj
   ·exact hown (.inr hs0)
  have hmbsz:mb<E3.w.heap.size:=by rw [hw3E]; exact lt_of_heap hmb2
  have hit4:w4.heap[itb]? = some (.mapIter (some mb) clock (seen.push e.born) clock):=by rw [show w4.heap[itb]? = E3.w.heap[itb]? from hall.same itb hXsz hnown,hw3E]; exact hit2'
  have hpush:∀ x:Nat,(seen.push e.born).contains x=false→seen.contains x=false∧x≠e.born:=fun x hx=>by
   rw [contains_push,Bool.or_eq_false_iff] at hx
   exact ⟨hx.1,by simpa using hx.2⟩
  have hpend':∀ b,pendB bl ms (seen.push e.born) b→pendB bl ms seen b∧¬ ∃ mm,bl i=some (b,mm):=by
   rintro b ⟨j,e2,mm,hj,hs0,hb⟩
   obtain ⟨q1,q2⟩:=hpush _ hs0
   refine ⟨⟨j,e2,mm,hj,q1,hb⟩,fun ⟨m2,hb2⟩=>?_⟩
   have:=hbl _ _ _ _ _ hb hb2
   subst this
   rw [hi] at hj
   cases hj
   exact q2 rfl
  have hpend2:∀ b,pendB bl ms seen b→(∃ mm,bl i=some (b,mm))∨pendB bl ms (seen.push e.born) b:=by
   rintro b ⟨j,e2,mm,hj,hs0,hb⟩
   by_cases ej:j=i
   ·subst ej
    exact .inl ⟨mm,hb⟩
   ·refine .inr ⟨j, e2, mm, hj, ?_, hb⟩
    rw [contains_push,hs0,Bool.false_or,beq_eq_false_iff_ne]
    intro e3
    obtain ⟨r2,hr2,hb2⟩:=row_of j e2 hj
    refine ej ((List.getElem?_inj ?_ hbn).1 ?_)
    ·simpa using lt_of_getElem? hj
    ·rw [List.getElem?_map, List.getElem?_map, hj, hi]
     simp [e3]
  refine ⟨⟨d',loc4,X4,seen.push e.born,clock,p++[r],hf',by rw [had',had],?_,hs5,?_,(hall.X itb hXsz).1.2 hXi3,hit4,Nat.le_refl _,?_,?_,?_,?_⟩,?_⟩
  ·rw [hrb, List.append_assoc]
   exact hlp
  ·have hE2:E.leM m { w:=w2,H:=(mkSt sp.inv d).den.H,loc:=loc,X:=X.less (pendB bl ms seen) }:=⟨hle.past,by
     have:=hle.size
     show E.w.heap.size≤w2.heap.size
     rw [hsize]
     exact this,fun b hb hbo=>by
     show w2.heap[b]? = _
     rw [hother b (by omega)]
     exact hle.same b hb hbo,hle.own,hle.live,hle.X,hle.rl,hle.env.trans hos⟩
   have hE3':E.leM m { w:=w2,H:=E3.H,loc:=E3.loc,X:=E3.X.less (pendB bl ms (seen.push e.born)) }:=by
    refine ⟨fun id hid hp=>?_,hE2.size,hE2.same,fun b hb hbo=>?_,fun id hid hp hl=>?_,fun b hb=>?_,fun l0 h hh=>?_,hE2.env⟩
    ·obtain ⟨x, h1, h2⟩ := hE2.past id hid hp
     refine ⟨x,?_,h2⟩
     rw [←hE3]
     simp only []
     rw [List.getElem?_append_left (lt_of_getElem? h1)]
     exact h1
    ·have h1 := hE2.own b hb hbo
     rw [←hE3]
     rintro (⟨j,c,hj⟩ | ⟨l0,h,m2,hj⟩)
     ·simp only [List.getElem?_append] at hj
      split at hj
      ·exact h1 (.inl ⟨j,c,hj⟩)
      ·cases hk : j - loc.length with
       | zero =>
        rw [hk] at hj
        simp at hj
        exact hbo (hown0 i b c hj).1
       | succ n=>rw [hk] at hj; simp at hj
     ·exact h1 (.inr ⟨l0,h,m2,hj⟩)
    ·obtain ⟨x0, g1, g2⟩ := hE2.past id hid hp
     have hlt:=lt_of_getElem? g1
     simp only [] at hlt
     obtain ⟨x,h1,h2⟩:=hl
     rw [←hE3] at h1 ⊢
     simp only [] at h1 ⊢
     rw [List.getElem?_append_left hlt] at h1
     rw [List.getElem?_append_left (by rw [(hs.heap.chg chg).len]; exact hlt)]
     exact hE2.live id hid hp ⟨x,h1,h2⟩
    ·have h1 := hE2.X b hb
     refine ⟨Iff.trans ?_ h1.1,by show E3.X.z b↔_; rw [hz3]; exact h1.2⟩
     show (E3.X b∧¬ pendB bl ms (seen.push e.born) b)↔(X b∧¬ pendB bl ms seen b)
     constructor
     ·rintro ⟨q1, q2⟩
      obtain ⟨q3,q4⟩:=(hX3 b).1 q1
      exact ⟨q3,fun q5=>(hpend2 b q5).elim q4 q2⟩
     ·rintro ⟨q1, q2⟩
      exact ⟨(hX3 b).2 ⟨q1,fun ⟨mm,hb2⟩=>q2 ⟨i,e,mm,hi,hes,hb2⟩⟩,fun q5=>q2 (hpend' b q5).1⟩
    ·show h < (E3.X.r l0).length ∧ ∀ q, (E3.X.r l0)[h]? = some (some q) → _
     rw [hr3]
     exact hE2.rl l0 h hh
   refine hE3'.trans ⟨hall.past,by show w2.heap.size≤_; rw [←hw3E]; exact hall.size,fun b hb hbo=>by show _=w2.heap[b]?; rw [←hw3E]; exact hall.same b (by rw [hw3E]; exact hb) hbo,fun b hb hbo=>hall.own b (by rw [hw3E]; exact hb) hbo,hall.live,fun b hb=>?_,hall.rl,by show SameOs w2 _; rw [←hw3E]; exact hall.env⟩
   have h1:=hall.X b (by rw [hw3E]; exact hb)
   exact ⟨⟨fun q=>⟨h1.1.1 q.1,q.2⟩,fun q=>⟨h1.1.2 q.1,q.2⟩⟩,h1.2⟩
  ·rw [show w4.heap[mb]? = E3.w.heap[mb]? from hall.same mb hmbsz hmbn3, hw3E]
   exact hmb2
  ·exact hall.own mb hmbsz hmbn3
  ·exact relEntries_closed (leM_C hall) (relEntries_closed t2.toC hre2)
  ·intro j r2 e2 hj1 hj2 hs0
   obtain ⟨q1,q2⟩:=hpush _ hs0
   rcases hsx j r2 e2 hj1 hj2 q1 with hl | ⟨bb,mm,s1,s2,s3,⟨cs,el,s4,s4'⟩,s5,s6,s7⟩
   ·exact .inl hl
   ·have hbi:bb≠itb:=fun e2=>by
     subst e2
     rw [show ({ w:=w,H:=(mkSt sp.inv d).den.H,loc:=loc,X:=X }:Env).w.heap=w.heap from rfl,hit] at s4
     cases s4
    have hXb:E3.X bb:=(hX3 bb).2 ⟨s3,fun ⟨m2,hb2⟩=>by
     have:=hbl _ _ _ _ _ s1 hb2
     subst this
     rw [hi] at hj2
     cases hj2
     exact q2 rfl⟩
    have hbsz:bb<E3.w.heap.size:=t1.X bb hXb
    have hbo:¬ E3.own bb:=t1.ownX hXb
    have hsm:w4.heap[bb]? = w2.heap[bb]? := by rw [show w4.heap[bb]? = E3.w.heap[bb]? from hall.same bb hbsz hbo,hw3E]
    refine .inr ⟨bb,mm,s1,s2,(hall.X bb hbsz).1.2 hXb,⟨cs,el,by show w4.heap[bb]? = _; rw [hsm,hother bb hbi]; exact s4,s4'⟩,s5,s6,?_⟩
    have h1:=relRows_closed chg.toC _ s6 (hother bb hbi) s7
    have h2:=relRows_closed t2.toC _ s6 (by rw [←hE3]) h1
    exact relRows_closed (leM_C hall) _ s6 (by show w4.heap[bb]? = E3.w.heap[bb]?; rw [hsm,hw3E]) h2
  ·show (leftOf ms (w4.iterSeen itb)).size < (leftOf ms (w.iterSeen itb)).size
   rw [iterSeen_of hit4,iterSeen_of hit]
   exact left_shrinks ms seen e he
theorem range_wp1P (hm:P.follows .mixedOrders=true) (ht:TabOK P τ) (hL:LpK P m L body) (hr:RRoundP P τ L m sp ops2 body) (ho:ROps P sp ops0 ops1 ops2)
  (hu1:∀ d,(mkSt sp.inv d).fr[sp.t1]? = some .undef) (hu2:∀ d,(mkSt sp.inv d).fr[sp.t2]? = some .undef) (hut:∀ d,(mkSt sp.inv d).fr[sp.it]? = some (.lit (.pointer (some ⟨sp.adr d,0,none⟩))))
  {r1 b0 b1 r2:Nat}
  {s:TSt} {d:List G} {rows:List (List G)} {clock:Nat} (hx:s.eval (.tmp sp.y)=.map sp.id) {lb:Nat} (hid:s.H[sp.id]? = some (.pool lb sp.K sp.V.vks rows clock)) (hall:allIn rows=true) (hn:(rows.map bornG).Nodup)
  (hlt:∀ r∈rows,bornG r<clock) (hin:∀ b,readP m sp.inv sp.ps (openAll sp.opens (sp.s2 s b))=some (true,sp.init d b)) (hadr:∀ b,sp.adr (sp.init d b)=b)
  (hfold:∀ b p,p.Perm rows→(foldR sp.st sp.adr p (sp.init d b)).isSome=true) (E:Env) (a:Act) (hs:SRel s.den E a) (ro:Option Nat) (hro:okR ro body) {Q:Exit→Act→World→Prop}
  (hQ:∀ a1 w1,(∃ b p d',p.Perm rows∧foldR sp.st sp.adr p (sp.init d b)=some d'∧MPost m E (mkSt sp.inv d').den a1 w1)→Q .normal a1 w1) :
  wpOpsIn (fz ro) 0 P ops0 (Exit.then ((Code.block b0 (.loop (.seq (.region r1 ops1 false) (.seq (.cond (.tmp sp.t2) .skip (.exit b0)) (.block b1 (.seq (.region r2 ops2 false) body)))))).wpIn (fz ro) 0 P Q) Q) [ops0.toList.dropLast.length] a E.w:=by
 obtain ⟨o2,ty,e1,g2,p2,q2,hty⟩:=ho.r0
 have h11:ops0[ops0.toList.dropLast.length]? = some o2:=by
  have:ops0.toList[ops0.toList.dropLast.length]? = some o2:=by
   rw [e1]
   simp
  simpa using this
 have hid':E.H[sp.id]? = some (.pool lb sp.V.vks.length (poolTs sp.K sp.V.vks rows) clock):=by
  rw [hs.H]
  exact denH_get hid
 have hrx:rel E (.map sp.id) (a.eval (.tmp sp.y)):=by
  have:=hs.eval (.tmp sp.y)
  rwa [TSt.eval_den,hx] at this
 obtain ⟨mb,n,ms,hc,hloc,hmb,hre,hsr,hsr1,hsr2⟩:=rel_pool hs.heap hid' hrx
 obtain ⟨⟨kt,et⟩,hty⟩:=Option.isSome_iff_exists.1 hty
 have hmbs:mb<E.w.heap.size:=lt_of_heap hmb
 rw [wpOpsIn_cons]
 refine wpOp_value h11 g2 (run_range_op p2 hc (run_range_map E.w ty kt et mb ms clock (mapTy_some hty) hmb)) (fun c e=>by rw [p2] at e; cases e) ro ?_
 rw [q2]
 show (Code.block _ _).wpIn (fz ro) 0 P _ _ _
 generalize hw2:E.w.alloc (.mapIter (some mb) clock #[] clock)=w2
 have hsize:w2.heap.size=E.w.heap.size+1:=by rw [←hw2]; show (E.w.heap.push _).size=_; simp
 have hold:∀ b,b<E.w.heap.size→w2.heap[b]? = E.w.heap[b]? := fun b hb=>by rw [←hw2]; exact (show (E.w.heap.push _)[b]? = _ by rw [Array.getElem?_push,if_neg (by omega)])
 have hitn:w2.heap[E.w.heap.size]? = some (.mapIter (some mb) clock #[] clock):=by rw [←hw2]; exact (show (E.w.heap.push _)[E.w.heap.size]? = _ by simp)
 have hos:SameOs E.w w2:=by rw [←hw2]; exact ⟨rfl,rfl,rfl,by first | exact fun _=>Nat.le_refl _ | exact fun _=>Nat.le_add_right _ _⟩
 -- the map is let go; the elements that are to come are not to be looked at
 have hin1:∀ (i:Nat) r,rows[i]? = some r→(poolTs sp.K sp.V.vks rows)[i]? = some (sp.K.av (gi r 0).row,some ((slotG r).map (gCells sp.V.vks)),bornG r):=fun i r hr=>by
  have h1:(gi r 3).bool=true:=List.all_eq_true.1 hall r (List.mem_of_getElem? hr)
  rw [poolTs_get hr]
  simp only [poolT,h1,cond_true,bornG]
 obtain ⟨hlenP,_⟩:=relEntries_iff.1 hre
 have hkey:∀ i:Nat,∃ q:Option (Nat × Nat),(∀ b m,q=some (b,m)→(E.X.r lb)[hsr i]? = some (some (some (b,m)))∧∃ r,rows[i]? = some r) ∧
   ∀ r e,rows[i]? = some r→ms.toList[i]? = some e→((slotG r).map (gCells sp.V.vks)=[]∧q=none∧∃ base,e.val=.slice base 0 0) ∨
    ∃ b m,q=some (b,m)∧e.val=.slice (some ⟨b,0,none⟩) ((slotG r).map (gCells sp.V.vks)).length m∧isRow E.w b (m*sp.V.vks.length)∧((slotG r).map (gCells sp.V.vks)).length≤m∧closedRows ((slotG r).map (gCells sp.V.vks))∧relRows E sp.V.vks.length ((slotG r).map (gCells sp.V.vks)) b 0:=fun i=>by
  cases hr:rows[i]? with
  | none=>exact ⟨none,fun _ _ e=>(by cases e),fun r e h=>by cases h⟩
  | some r =>
   cases he:ms.toList[i]? with
   | none=>exact ⟨none,fun _ _ e=>(by cases e),fun r e _ h=>by cases h⟩
   | some e =>
    rcases hsr2 i _ _ e (hin1 i r hr) rfl he with ⟨h1,h2⟩ | ⟨b,m,h1,h2⟩
    ·exact ⟨none,fun _ _ e=>(by cases e),fun r' e' h h'=>by cases h; cases h'; exact .inl ⟨h1,rfl,h2⟩⟩
    ·exact ⟨some (b,m),fun b' m' e=>by cases e; exact ⟨h1,r,rfl⟩,fun r' e' h h'=>by cases h; cases h'; exact .inr ⟨b,m,rfl,h2⟩⟩
 obtain ⟨bl,hblA⟩:∃ bl:Nat→Option (Nat × Nat),∀ i,(∀ b m,bl i=some (b,m)→(E.X.r lb)[hsr i]? = some (some (some (b,m)))∧∃ r,rows[i]? = some r) ∧
   ∀ r e,rows[i]? = some r→ms.toList[i]? = some e→((slotG r).map (gCells sp.V.vks)=[]∧bl i=none∧∃ base,e.val=.slice base 0 0) ∨
    ∃ b m,bl i=some (b,m)∧e.val=.slice (some ⟨b,0,none⟩) ((slotG r).map (gCells sp.V.vks)).length m∧isRow E.w b (m*sp.V.vks.length)∧((slotG r).map (gCells sp.V.vks)).length≤m∧closedRows ((slotG r).map (gCells sp.V.vks))∧relRows E sp.V.vks.length ((slotG r).map (gCells sp.V.vks)) b 0:=⟨fun i=>(hkey i).choose,fun i=>(hkey i).choose_spec⟩
 have hbl1:∀ (i j b m n:Nat),bl i=some (b,m)→bl j=some (b,n)→i=j:=fun i j b m n hi hj=>by
  obtain ⟨q2,r1,q1⟩:=(hblA i).1 b m hi
  obtain ⟨q4,r2,q3⟩:=(hblA j).1 b n hj
  have:=(hs.heap.rinj _ _ _ _ _ _ _ q2 q4).2
  exact hsr1 i j _ _ (hin1 i r1 q1) (hin1 j r2 q3) rfl rfl this
 have hown0:∀ (i b m:Nat),bl i=some (b,m)→E.own b∧b<E.w.heap.size:=fun i b m hi=>by
  obtain ⟨q2,_⟩:=(hblA i).1 b m hi
  exact ⟨.inr ⟨lb,hsr i,m,q2⟩,(hs.heap.rlt _ _ _ _ q2).1⟩
 have hnX:∀ (i b m:Nat),bl i=some (b,m)→¬ E.X b:=fun i b m hi=>(hs.heap.rlt _ _ _ _ ((hblA i).1 b m hi).1).2
 have hmbs':mb≠E.w.heap.size:=by omega
 -- the environment of the loop
 generalize hX0:(⟨fun b=>(E.X b∨b=E.w.heap.size)∨pendB bl ms #[] b,E.X.z,offR E.X.r lb⟩:XS)=X0
 generalize hE0:({ w:=w2,H:=E.H.set sp.id .dead,loc:=E.loc.set sp.id none,X:=X0 }:Env)=E0
 have hX0b:∀ b,E0.X b↔((E.X b∨b=E.w.heap.size)∨pendB bl ms #[] b):=fun b=>by rw [←hE0,←hX0]
 have hr0:E0.X.r=offR E.X.r lb:=by rw [←hE0,←hX0]
 have hz0:E0.X.z=E.X.z:=by rw [←hE0,←hX0]
 have hw0:E0.w=w2:=by rw [←hE0]
 have hpo:∀ b,pendB bl ms #[] b→E.own b∧b<E.w.heap.size:=fun b ⟨i,e,mm,_,_,hb⟩=>hown0 i b mm hb
 have hpl:∀ b,pendB bl ms #[] b→∃ h m,(E.X.r lb)[h]? = some (some (some (b,m))):=fun b ⟨i,e,mm,_,_,hb⟩=>⟨_,_,((hblA i).1 b mm hb).1⟩
 have hlt0:=lt_of_getElem? hid'
 have loc_old:∀ (i:Nat) x,E0.loc[i]? = some (some x)→i≠sp.id∧E.loc[i]? = some (some x):=fun i x hi=>by
  rw [←hE0] at hi
  simp only [List.getElem?_set] at hi
  split at hi
  ·split at hi<;>cases hi
  ·rename_i e
   exact ⟨Ne.symm e,hi⟩
 have H_old:∀ (i:Nat) x,E0.H[i]? = some x→(i=sp.id∧x=.dead)∨(i≠sp.id∧E.H[i]? = some x):=fun i x hi=>by
  rw [←hE0] at hi
  simp only [] at hi
  by_cases e2:i=sp.id
  ·subst e2
   rw [List.getElem?_set_self hlt0] at hi
   cases hi
   exact .inl ⟨rfl,rfl⟩
  ·rw [List.getElem?_set_ne (Ne.symm e2)] at hi
   exact .inr ⟨e2,hi⟩
 have hownsub:∀ b,E0.own b→E.own b:=by
  rintro b (⟨i,c,hi⟩ | ⟨l',h,m',hk⟩)
  ·exact .inl ⟨i,c,(loc_old i _ hi).2⟩
  ·rw [hr0] at hk
   exact .inr ⟨l',h,m',(offR_get hk).1⟩
 have hW:E.leW E0:=by
  refine ⟨fun b hb=>⟨⟨by rw [hw0,hsize]; exact Nat.lt_succ_of_lt hb.1,fun ho=>hb.2.1 (hownsub b ho),fun hx=>?_⟩,by rw [hw0]; exact hold b hb.1⟩,fun i ver hp=>?_,fun i ver hp hl=>?_⟩
  ·rcases (hX0b b).1 hx with (h1 | h1) | h1
   ·exact hb.2.2 h1
   ·have:=hb.1; omega
   ·exact hb.2.1 (hpo b h1).1
  ·obtain ⟨x, h1, h2⟩ := hp
   by_cases e2:i=sp.id
   ·subst e2
    exact ⟨.dead,by rw [←hE0]; simp only []; rw [List.getElem?_set_self hlt0],fun v hv=>by cases hv⟩
   ·exact ⟨x,by rw [←hE0]; simp only []; rw [List.getElem?_set_ne (Ne.symm e2)]; exact h1,h2⟩
  ·obtain ⟨x, h1, h2⟩ := hl
   rcases H_old i x h1 with ⟨_,rfl⟩ | ⟨e2,h3⟩
   ·cases h2
   ·exact ⟨⟨x,h3,h2⟩,by rw [←hE0]; simp only []; rw [List.getElem?_set_ne (Ne.symm e2)]⟩
 have hHR0:HRel E0:=by
  refine ⟨by rw [←hE0]; simp [hs.heap.len],fun i j b m n hi hj=>hs.heap.inj i j b m n (loc_old i _ hi).2 (loc_old j _ hj).2,fun i b m hi=>?_,fun b hb=>?_,fun i x hi=>?_,hs.heap.tab.leC hW.toC,fun l' h l2 h' b m n h1 h2=>?_,fun i b m l' h n hi hk=>?_,fun l' h b m hk=>?_,fun i j x y l' hi hj h1 h2=>?_,fun l' hn' h y hy=>?_⟩
  ·obtain ⟨q1, q2⟩ := loc_old i _ hi
   have q3:=hs.heap.lt _ _ _ q2
   refine ⟨by rw [hw0,hsize]; omega,fun hx=>?_⟩
   rcases (hX0b b).1 hx with (h1 | h1) | h1
   ·exact q3.2 h1
   ·omega
   ·obtain ⟨h, m', q4⟩ := hpl b h1
    exact hs.heap.rloc _ _ _ _ _ _ q2 q4
  ·rw [hw0, hsize]
   rcases (hX0b b).1 hb with (h1 | h1) | h1
   ·have:=hs.heap.X b h1; omega
   ·omega
   ·have:=(hpo b h1).2; omega
  ·rcases H_old i x hi with ⟨rfl, rfl⟩ | ⟨e2, h3⟩
   ·simp only [objRel]
    rw [←hE0]
    simp only []
    rw [List.getElem?_set_self (by rw [hs.heap.len]; exact hlt0)]
   ·refine objRel_leW hW (by rw [← hE0]; simp only []; rw [List.getElem?_set_ne (Ne.symm e2)]) (fun b n' hb => by rw [hw0]; exact hold b (hs.heap.lt _ _ _ hb).1) (fun l' hl' => ?_) (hs.heap.obj i x h3)
    have hne2:l'≠lb:=fun e=>e2 (hs.heap.uniq i sp.id x _ l' h3 hid' hl' (by rw [e]; rfl))
    refine ⟨?_,fun h g m' hk=>by rw [hw0]; exact hold g (hs.heap.rlt _ _ _ _ hk).1⟩
    rw [hr0]
    unfold offR
    rw [if_neg hne2]
  ·rw [hr0] at h1 h2
   exact hs.heap.rinj _ _ _ _ _ _ _ (offR_get h1).1 (offR_get h2).1
  ·rw [hr0] at hk
   exact hs.heap.rloc _ _ _ _ _ _ (loc_old i _ hi).2 (offR_get hk).1
  ·rw [hr0] at hk
   obtain ⟨q1,q2⟩:=offR_get hk
   have q3:=hs.heap.rlt _ _ _ _ q1
   refine ⟨by rw [hw0,hsize]; omega,fun hx=>?_⟩
   rcases (hX0b b).1 hx with (h1 | h1) | h1
   ·exact q3.2 h1
   ·omega
   ·obtain ⟨h', m', q4⟩ := hpl b h1
    exact q2 (hs.heap.rinj _ _ _ _ _ _ _ q1 q4).1
  ·rcases H_old i x hi with ⟨_, rfl⟩ | ⟨_, h3⟩
   ·cases h1
   ·rcases H_old j y hj with ⟨_, rfl⟩ | ⟨_, h4⟩
    ·cases h2
    ·exact hs.heap.uniq i j x y l' h3 h4 h1 h2
  ·rw [hr0] at hy
   obtain ⟨q1,q2⟩:=offR_get hy
   refine hs.heap.rdead l' (fun i x hi hl=>?_) h y q1
   by_cases e:i=sp.id
   ·subst e
    rw [hid'] at hi
    cases hi
    exact q2 (by cases hl; rfl)
   ·exact hn' i x (by rw [←hE0]; show (E.H.set sp.id .dead)[i]? = _; rw [List.getElem?_set_ne (Ne.symm e)]; exact hi) hl
 have hmk0:marksOk w2 E0.X a.defers:=⟨hs.defers.1,fun dd hdd=>by
  obtain ⟨D,e,h1,h2,h3⟩:=hs.defers.2 dd hdd
  exact ⟨D,e,by rw [hold D (hs.heap.X D h2)]; exact h1,(hX0b D).2 (.inl (.inl h2)),by rw [hz0]; exact h3⟩⟩
 have hs2:SRel ⟨s.fr,denH (s.H.set sp.id (.raw .dead))⟩ E0 a:=by
  refine ⟨?_,relList_leW hW hs.fr,by rw [hw0]; exact hmk0,hHR0⟩
  rw [←hE0,denH_set,show E.H=denH s.H from hs.H]
  rfl
 have hs3:=hs2.putT sp.it (v:=.lit (.pointer (some ⟨E.w.heap.size,0,none⟩))) (u:=.pointer (some ⟨E.w.heap.size,0,none⟩)) (by simp only [rel])
 have hs3':SRel (sp.s2 s E.w.heap.size).den E0 _:=hs3
 obtain ⟨loc,X4,hs4,hle4⟩:=((openAll_le sp.opens _).trans (readP_le (hin E.w.heap.size))) _ _ hs3'
 have hmbn:¬ E0.own mb:=by
  rintro (⟨j,c,hj⟩ | ⟨l',k,c,hj⟩)
  ·obtain ⟨q1, q2⟩ := loc_old j _ hj
   exact q1 (hs.heap.inj _ _ _ _ _ q2 hloc)
  ·rw [hr0] at hj
   exact hs.heap.rloc _ _ _ _ _ _ hloc (offR_get hj).1
 have hmb2:w2.heap[mb]? = some (.map ms clock):=by rw [hold mb hmbs]; exact hmb
 have hit0:E0.X E.w.heap.size:=(hX0b _).2 (.inl (.inr rfl))
 have hs0z:E0.w.heap.size=E.w.heap.size+1:=by rw [hw0,hsize]
 refine wpIn_block (wpIn_mono (range_loopP hm ht hL hr ho hu1 hu2 hut (E:=E) (rows:=rows) (d0:=sp.init d E.w.heap.size) (itb:=E.w.heap.size) (mb:=mb) (clock:=clock) (ms:=ms) (bl:=bl)
  (Nat.le_refl _) hn hlt (by omega) hbl1 hown0 (hfold _) ?_ ro hro) fun e a1 w1 hq=>?_)
 ·have hw4 : ∀ b, b < E0.w.heap.size → ¬ E0.own b → w2.heap[b]? = E0.w.heap[b]? := fun b _ _ => by rw [hw0]
  have hsm:∀ b,b<E0.w.heap.size→¬ E0.own b→({ w:=E.w,H:=E.H,loc:=E.loc,X:=E.X }:Env).w.heap.size≤E0.w.heap.size:=fun _ _ _=>by rw [hw0,hsize]; exact Nat.le_succ _
  refine ⟨sp.init d E.w.heap.size,loc,X4,#[],clock,[],rfl,hadr _,?_,by rw [←hw0]; exact hs4,?_,(hle4.X E.w.heap.size (by omega)).1.2 hit0,?_,Nat.le_refl _,?_,?_,?_,?_⟩
  ·have : (rows.filter fun x => !(#[] : Array Nat).contains (bornG x)) = rows := List.filter_eq_self.2 (fun x _ => by simp)
   rw [List.nil_append,this]
  ·have hE0':E.leM m { w:=w2,H:=E0.H,loc:=E0.loc,X:=E0.X.less (pendB bl ms #[]) }:=by
    refine ⟨fun i _ hp=>hW.past i 0 hp,by show E.w.heap.size≤w2.heap.size; omega,fun b hb _=>hold b hb,fun b _ hbo ho=>hbo (hownsub b ho),fun i _ hp hl=>hW.live i 0 hp hl,fun b hb=>⟨?_,by show E0.X.z b↔_; rw [hz0]⟩,fun l' h hh=>?_,hos⟩
    ·show (E0.X b ∧ ¬ pendB bl ms #[] b) ↔ E.X b
     constructor
     ·rintro ⟨q1, q2⟩
      rcases (hX0b b).1 q1 with (h1 | h1) | h1
      ·exact h1
      ·omega
      ·exact (q2 h1).elim
     ·exact fun q1=>⟨(hX0b b).2 (.inl (.inl q1)),fun ⟨i,e,mm,_,_,hb2⟩=>hnX i b mm hb2 q1⟩
    ·show h < (E0.X.r l').length ∧ ∀ q, (E0.X.r l')[h]? = some (some q) → _
     rw [hr0,offR_length]
     exact ⟨hh,fun q hq=>(offR_get hq).1⟩
   refine hE0'.trans ⟨hle4.past,by show w2.heap.size≤_; rw [←hw0]; exact hle4.size,fun _ _ _=>rfl,fun b hb hbo=>hle4.own b (by rw [hw0]; exact hb) hbo,hle4.live,fun b hb=>?_,hle4.rl,by show SameOs w2 _; rw [←hw0]; exact hle4.env⟩
   have h1:=hle4.X b (by rw [hw0]; exact hb)
   exact ⟨⟨fun q=>⟨h1.1.1 q.1,q.2⟩,fun q=>⟨h1.1.2 q.1,q.2⟩⟩,h1.2⟩
  ·exact hitn
  ·exact hmb2
  ·exact hle4.own mb (by omega) hmbn
  ·have hre':relEntries E (rows.map fun r=>(sp.K.av (gi r 0).row,AV.undef,bornG r)) ms.toList:=by
    have e:poolEs (poolTs sp.K sp.V.vks rows)=rows.map fun r=>(sp.K.av (gi r 0).row,AV.undef,bornG r):=by
     simp [poolEs,poolTs,poolT,bornG,Function.comp_def]
    rw [←e]
    exact hre
   have h1:=relEntries_closed (leM_C hle4) (relEntries_closed hW.toC hre')
   rw [hw0] at h1
   exact h1
  ·intro i r e hr' he' _
   rcases (hblA i).2 r e hr' he' with h1 | ⟨bb,mm,s1,s2,⟨cs,el,s3,s3'⟩,s4,s5,s6⟩
   ·exact .inl h1
   ·have hbs := (hown0 i bb mm s1).2
    have hXb:E0.X bb:=(hX0b bb).2 (.inr ⟨i,e,mm,he',by simp,s1⟩)
    have h0:=relRows_closed hW.toC _ s5 (show E0.w.heap[bb]? = E.w.heap[bb]? by rw [hw0]; exact hold bb hbs) s6
    have hbo:¬ E0.own bb:=hHR0.ownX hXb
    have h4:=relRows_closed (leM_C hle4) _ s5 (hle4.same bb (by omega) hbo) h0
    refine .inr ⟨bb,mm,s1,s2,(hle4.X bb (by omega)).1.2 hXb,⟨cs,el,by show w2.heap[bb]? = _; rw [hold bb hbs]; exact s3,s3'⟩,s4,s5,?_⟩
    rw [hw0] at h4
    exact h4
 ·obtain ⟨rfl, p, d', h1, h2, h3⟩ := hq
  simp only [Exit.inBlock,if_true]
  exact hQ _ _ ⟨_,p,d',h1,h2,h3⟩
theorem range_wpP (hm:P.follows .mixedOrders=true) (ht:TabOK P τ) (hL:LpK P m L body) (hr:RRoundP P τ L m sp ops2 body) (ho:ROps P sp ops0 ops1 ops2)
  (hu1:∀ d,(mkSt sp.inv d).fr[sp.t1]? = some .undef) (hu2:∀ d,(mkSt sp.inv d).fr[sp.t2]? = some .undef) (hut:∀ d,(mkSt sp.inv d).fr[sp.it]? = some (.lit (.pointer (some ⟨sp.adr d,0,none⟩))))
  {r0 r1 b0 b1 r2:Nat}
  {s s1:TSt} {d:List G} {rows:List (List G)} {clock:Nat} (hp:aOps P τ.pf ops0 ops0.toList.dropLast s.den s1.den) (hx:s1.eval (.tmp sp.y)=.map sp.id) {lb:Nat} (hid:s1.H[sp.id]? = some (.pool lb sp.K sp.V.vks rows clock)) (hall:allIn rows=true) (hn:(rows.map bornG).Nodup)
  (hlt:∀ r∈rows,bornG r<clock) (hin:∀ b,readP m sp.inv sp.ps (openAll sp.opens (sp.s2 s1 b))=some (true,sp.init d b)) (hadr:∀ b,sp.adr (sp.init d b)=b)
  (hfold:∀ b p,p.Perm rows→(foldR sp.st sp.adr p (sp.init d b)).isSome=true) (E:Env) (a:Act) (hs:SRel s.den E a) (ro:Option Nat) (hro:okR ro body) :
  (rangeCode r0 b0 r1 b1 r2 ops0 ops1 ops2 sp.t2 body).wpIn (fz ro) 0 P (fun e a1 w1=>e=.normal∧∃ b p d',p.Perm rows∧foldR sp.st sp.adr p (sp.init d b)=some d'∧MPost m E (mkSt sp.inv d').den a1 w1) a E.w:=by
 refine wpIn_seq (wpIn_region ?_)
 obtain ⟨o2,ty,e1,_⟩:=ho.r0
 have hsz:ops0.size=ops0.toList.dropLast.length+1:=by
  have h:=congrArg List.length e1
  simpa using h
 have hl:List.range ops0.size=List.range' 0 ops0.toList.dropLast.length++[ops0.toList.dropLast.length]:=by
  rw [hsz,List.range_succ,List.range_eq_range']
 rw [hl]
 refine wpOps_pre (pf:=τ.pf) ro ops0.toList.dropLast 0 s.den s1.den E a _ (fun j o hj=>?_) hp hs fun a1 w1 hc=>?_
 ·have hlt := lt_of_getElem? hj
  have:ops0.toList[j]? = some o:=by
   rw [e1,List.getElem?_append_left hlt]
   exact hj
  simpa using this
 ·obtain ⟨loc1, r1, h1, h2⟩ := hc
  refine range_wp1P hm ht hL hr ho hu1 hu2 hut hx hid hall hn hlt hin hadr hfold { w:=w1,H:=s1.den.H,loc:=loc1,X:=E.X.re r1 } a1 h1 ro hro fun a2 w2 ⟨b,p,d',g1,g2,g3⟩=>?_
  exact ⟨rfl,b,p,d',g1,g2,MPost.after h2.toM g3⟩
noncomputable def rangeP (sp:RSpec) (tl:List G→Option (Option Nat × List G)) (rows:List (List G)) (clock:Nat) (d:List G):Option (Option Nat × List G) :=
 bif allIn rows then rangeR sp tl rows clock d else none
theorem range_satP (hm:P.follows .mixedOrders=true) (ht:TabOK P τ) {rest:Code} {q qr:LSpec} (hL:LpK P m L body) (hr:RRoundP P τ L m sp ops2 body) (ho:ROps P sp ops0 ops1 ops2)
  (hu1:∀ d,(mkSt sp.inv d).fr[sp.t1]? = some .undef) (hu2:∀ d,(mkSt sp.inv d).fr[sp.t2]? = some .undef) (hut:∀ d,(mkSt sp.inv d).fr[sp.it]? = some (.lit (.pointer (some ⟨sp.adr d,0,none⟩))))
  {r0 r1 b0 b1 r2:Nat}
  {rows:List G→List (List G)} {clock:List G→Nat} {pre:List G→TSt} (hy:∀ d,(runOps P τ ops0 ops0.toList.dropLast (mkSt q.inv d) fun s=>.done .normal s).val1=some (.normal,pre d)) (hx:∀ d,(pre d).eval (.tmp sp.y)=.map sp.id) {lb:Nat} (hid:∀ d,(pre d).H[sp.id]? = some (.pool lb sp.K sp.V.vks (rows d) (clock d)))
  (hin:∀ d b,readP m sp.inv sp.ps (openAll sp.opens (sp.s2 (pre d) b))=some (sp.side d b,sp.init d b)) (hadr:∀ d b,sp.adr (sp.init d b)=b)
  (hinv:qr.inv=sp.inv) (houts:qr.outs=q.outs) (hrest:CutSat P m rest qr) (hst:∀ d,q.st d=rangeP sp qr.st (rows d) (clock d) d) :
  CutSat P m (.seq (rangeCode r0 b0 r1 b1 r2 ops0 ops1 ops2 sp.t2 body) rest) q:=by
 intro d i d' h
 rw [hst] at h
 unfold rangeP at h
 cases hai:allIn (rows d) with
 | false=>rw [hai] at h; cases h
 | true =>
 rw [hai,cond_true] at h
 unfold rangeR at h
 cases hok:okSt (rows d) (clock d) with
 | false=>rw [hok] at h; cases h
 | true =>
  rw [hok] at h
  simp only [cond_true] at h
  have hall:=permB_all h
  obtain ⟨hn,hlt⟩:=okSt_iff hok
  have hsome:∀ b p,p.Perm (rows d)→sp.side d b=true∧∃ d1,foldR sp.st sp.adr p (sp.init d b)=some d1∧qr.st d1=some (some i,d'):=by
   intro b p hp
   have:=hall b p hp
   cases hsd:sp.side d b with
   | false=>rw [hsd] at this; cases this
   | true =>
    rw [hsd] at this
    simp only [cond_true] at this
    cases hf:foldR sp.st sp.adr p (sp.init d b) with
    | none=>rw [hf] at this; cases this
    | some d1 =>
     rw [hf] at this
     exact ⟨rfl,d1,rfl,this⟩
  obtain ⟨_,d1,_,g1⟩:=hsome 0 (rows d) (List.Perm.refl _)
  obtain ⟨o,ho1,_⟩:=hrest d1 i d' g1
  refine ⟨o,by rw [←houts]; exact ho1,fun ro hro E a hs=>wpIn_seq (wpIn_mono (range_wpP hm ht hL hr ho hu1 hu2 hut (pre_ops ht (hy d)) (hx d) (hid d) hai hn hlt (fun b=>by rw [hin d b,(hsome b (rows d) (List.Perm.refl _)).1]) (hadr d) (fun b p hp=>?_) E a hs ro (okR_body hro.seq1)) fun e a1 w1 hq=>?_)⟩
  ·obtain ⟨_, d2, h2, _⟩ := hsome b p hp
   rw [h2]
   rfl
  ·obtain ⟨rfl, b, p, d2, hp, hf, loc, X, hs2, hle⟩ := hq
   obtain ⟨_,d3,h3,h4⟩:=hsome b p hp
   rw [hf] at h3
   cases h3
   obtain ⟨o',ho2,hsat⟩:=hrest d2 i d' h4
   rw [ho1] at ho2
   cases ho2
   rw [hinv] at hsat
   exact wpIn_mono (hsat ro hro.seq2 { w:=w1,H:=(mkSt sp.inv d2).den.H,loc:=loc,X:=X } a1 hs2) fun x a2 w2 hx=>⟨hx.1,MPost.after hle hx.2⟩
theorem LpK.addRangeP (hm:P.follows .mixedOrders=true) (ht:TabOK P τ) {fn:Func} {q qr:LSpec} {r0 b0 r1 b1 r2:Nat} {rows:List G→List (List G)} {clock:List G→Nat}
  (hn:oneKey q.key (cutsIn (bodyOf fn))=true) (hL:LpK P m L (bodyOf fn))
  (hc:cutAt fn q.key=.seq (rangeCode r0 b0 r1 b1 r2 (rOps0 (cutAt fn q.key)) (rOps1 (cutAt fn q.key)) (rOps2 (cutAt fn q.key)) sp.t2 (rBody (cutAt fn q.key))) (rRest (cutAt fn q.key)))
  (ho:(ops0Ok P sp (rOps0 (cutAt fn q.key))&&ops1Ok sp (rOps1 (cutAt fn q.key))&&ops2Ok sp (rOps2 (cutAt fn q.key)))=true)
  (hr:RRoundP P τ L m sp (rOps2 (cutAt fn q.key)) (rBody (cutAt fn q.key)))
  (hu1:∀ d,(mkSt sp.inv d).fr[sp.t1]? = some .undef) (hu2:∀ d,(mkSt sp.inv d).fr[sp.t2]? = some .undef) (hut:∀ d,(mkSt sp.inv d).fr[sp.it]? = some (.lit (.pointer (some ⟨sp.adr d,0,none⟩))))
  {pre:List G→TSt} (hy:∀ d,(runOps P τ (rOps0 (cutAt fn q.key)) (rOps0 (cutAt fn q.key)).toList.dropLast (mkSt q.inv d) fun s=>.done .normal s).val1=some (.normal,pre d)) (hx:∀ d,(pre d).eval (.tmp sp.y)=.map sp.id) {lb:Nat} (hid:∀ d,(pre d).H[sp.id]? = some (.pool lb sp.K sp.V.vks (rows d) (clock d)))
  (hin:∀ d b,readP m sp.inv sp.ps (openAll sp.opens (sp.s2 (pre d) b))=some (sp.side d b,sp.init d b)) (hadr:∀ d b,sp.adr (sp.init d b)=b)
  (hinv:qr.inv=sp.inv) (houts:qr.outs=q.outs) (hrest:CutOK P τ L m (rRest (cutAt fn q.key)) qr) (hst:∀ d,q.st d=rangeP sp qr.st (rows d) (clock d) d) :
  LpK P m (L.addCut m q) (bodyOf fn):=by
 refine LpK.addCutS hn hL fun hLc=>?_
 rw [hc] at hLc
 obtain ⟨hLb,hLr⟩:=loopsOK_parts hLc
 simp only [Bool.and_eq_true] at ho
 rw [hc]
 exact range_satP hm ht hLb hr (rops_of ho.1.1 ho.1.2 ho.2) hu1 hu2 hut hy hx hid hin hadr hinv houts (hrest.sat hm ht hLr) hst
end range
end Go.AL
