/-
 What is proved here: the function that slices.Backward hands back, called with a round's body: the rounds come from the last row to the first one. No program in sight; no condition.
-/
import Derived.Test.YtmohppjkkpaaoaaGreatDoorMD
import Derived.Test.YtmohppjkkpaaoaaGreatDoorMC
import Derived.Lib.LaidTab
import Derived.Sort.Grow
import Derived.Deep.Draws
set_option linter.all false
namespace Go.AL
open Go
variable [Dr]
structure BwOps (S T : TypeId) (ops0 ops1 ops2 ops3 : Array Oper) : Prop where
 r0 : ∃ o1 o2 o3 o4 t t', ops0.toList = [o1, o2, o3, o4] ∧ (o1.guard = none ∧ o1.op = .load S (.tmp 1) ∧ o1.dst = some 4) ∧ (o2.guard = none ∧ o2.op = .call { callee := .builtin .len, args := #[.tmp 4], argTypes := #[S] } ∧ o2.dst = some 5) ∧
  (o3.guard = none ∧ o3.op = .binOp .sub t (.tmp 5) (.const (.int .i64 1)) t' ∧ o3.dst = some 6) ∧ (o4.guard = none ∧ o4.op = .assign (.tmp 6) ∧ o4.dst = some 3)
 r1 : ∃ o1 o2 t t', ops1.toList = [o1, o2] ∧ (o1.guard = none ∧ o1.op = .move (.tmp 3) ∧ o1.dst = some 7) ∧ (o2.guard = none ∧ o2.op = .binOp .geq t (.tmp 7) (.const (.int .i64 0)) t' ∧ o2.dst = some 8)
 r2 : ∃ o1 o2 o3 t t', ops2.toList = [o1, o2, o3] ∧ (o1.guard = none ∧ o1.op = .move (.tmp 3) ∧ o1.dst = some 9) ∧ (o2.guard = none ∧ o2.op = .binOp .sub t (.tmp 9) (.const (.int .i64 1)) t' ∧ o2.dst = some 10) ∧ (o3.guard = none ∧ o3.op = .assign (.tmp 10) ∧ o3.dst = some 3)
 r3 : ∃ o1 o2 o3 o4 o5 o6 o7 o8 t tys, ops3.toList = [o1, o2, o3, o4, o5, o6, o7, o8] ∧ (o1.guard = none ∧ o1.op = .move (.tmp 0) ∧ o1.dst = some 11) ∧ (o2.guard = none ∧ o2.op = .move (.tmp 3) ∧ o2.dst = some 12) ∧ (o3.guard = none ∧ o3.op = .load S (.tmp 1) ∧ o3.dst = some 13) ∧
  (o4.guard = none ∧ o4.op = .move (.tmp 3) ∧ o4.dst = some 14) ∧ (o5.guard = none ∧ o5.op = .indexAddr S (.tmp 13) (.tmp 14) ∧ o5.dst = some 15) ∧ (o6.guard = none ∧ o6.op = .load T (.tmp 15) ∧ o6.dst = some 16) ∧
  (o7.guard = none ∧ o7.op = .call { callee := .value (.tmp 11), args := #[.tmp 12, .tmp 16], argTypes := tys } ∧ o7.dst = some 17) ∧ (o8.guard = none ∧ o8.op = .unOp .not t (.tmp 17) ∧ o8.dst = some 18)
structure BwT (P : Program) (S T : TypeId) (sl : AV) (n : Nat) (rv : Nat → AV) : Prop where
 load : ∀ H, loadA P S (.cptr [sl]) H = some sl
 len : lenTA (kindK P S) sl = some (.lit (.int .i64 (n : Nat)))
 idx : ∀ i : Int, 0 ≤ i → i < n → ∃ cells, idxAddrA (kindK P S) sl (.lit (.int .i64 i)) = some (.cptr cells) ∧ ∀ H, loadA P T (.cptr cells) H = some (rv i.toNat)
 cl : AV.closedL [sl] = true
end Go.AL
namespace Go.AL
open Go
variable [Dr]
section bw
variable {P : Program} {pf : FuncId → Bool} {S T : TypeId} {sl : AV} {n : Nat} {rv : Nat → AV} {ops0 ops1 ops2 ops3 : Array Oper}
end bw
end Go.AL

namespace Go.AL
open Go
variable [Dr]
mutual
def fixedA (m : Nat) : AV → Bool
 | .agg cs => fixedL m cs
 | .tuple cs => fixedL m cs
 | .clo _ cs => fixedL m cs
 | .ptr id ver _ _ _ => Nat.blt id m && Nat.beq ver 0
 | .vec _ id ver _ _ => Nat.blt id m && Nat.beq ver 0
 | .map id => Nat.blt id m
 | _ => true
def fixedL (m : Nat) : List AV → Bool
 | [] => true
 | a :: as => fixedA m a && fixedL m as
end
mutual
theorem rel_fixed {E E' : Env} {m : Nat} (h : E.leM m E') : ∀ (a : AV) {c : Value}, fixedA m a = true → rel E a c → rel E' a c
 | .undef, _, _, _ => by simp [rel]
 | .lit v, c, _, hr => by simpa only [rel] using hr
 | .nils, c, _, hr => by simpa only [rel] using hr
 | .list k rows, c, _, hr => rel_closed (leM_C h) _ (by simp [AV.closed]) hr
 | .listF ks rows, c, _, hr => rel_closed (leM_C h) _ (by simp [AV.closed]) hr
 | .agg cells, c, hf, hr => by
  simp only [rel] at hr ⊢
  obtain ⟨cs, e, h1, h2⟩ := hr
  exact ⟨cs, e, h1, relList_fixed h cells (by simpa only [fixedA] using hf) h2⟩
 | .tuple cells, c, hf, hr => by
  simp only [rel] at hr ⊢
  obtain ⟨cs, e, h2⟩ := hr
  exact ⟨cs, e, relList_fixed h cells (by simpa only [fixedA] using hf) h2⟩
 | .cptr cells, c, _, hr => rel_closed (leM_C h) _ (by simp [AV.closed]) hr
 | .ptr id ver k row col, c, hf, hr => by
  simp only [fixedA, Bool.and_eq_true, Nat.blt_eq] at hf
  obtain ⟨h1, h2⟩ := hf
  have h2 := Nat.eq_of_beq_eq_true h2
  subst h2
  simp only [rel] at hr ⊢
  obtain ⟨g1, g2, g3⟩ := hr
  refine ⟨g1, h.past id h1 g2, fun hl => ?_⟩
  obtain ⟨k1, k2⟩ := h.live id h1 g2 hl
  rw [k2]
  exact g3 k1
 | .vec k id ver off n, c, hf, hr => by
  simp only [fixedA, Bool.and_eq_true, Nat.blt_eq] at hf
  obtain ⟨h1, h2⟩ := hf
  have h2 := Nat.eq_of_beq_eq_true h2
  subst h2
  simp only [rel] at hr ⊢
  obtain ⟨g1, g2, g3⟩ := hr
  refine ⟨g1, h.past id h1 g2, fun hl => ?_⟩
  obtain ⟨k1, k2⟩ := h.live id h1 g2 hl
  rw [k2]
  exact g3 k1
 | .map id, c, hf, hr => by
  simp only [fixedA, Nat.blt_eq] at hf
  simp only [rel] at hr ⊢
  obtain ⟨g1, g2, g3⟩ := hr
  refine ⟨g1, h.past id hf g2, fun hl => ?_⟩
  obtain ⟨k1, k2⟩ := h.live id hf g2 hl
  rw [k2]
  exact g3 k1
 | .clo f caps, c, hf, hr => by
  simp only [rel] at hr ⊢
  obtain ⟨cs, e, h2⟩ := hr
  exact ⟨cs, e, relList_fixed h caps (by simpa only [fixedA] using hf) h2⟩
 | .ifc, c, _, hr => by simpa only [rel] using hr
 | .emptyS n, c, _, hr => by simpa only [rel] using hr
theorem relList_fixed {E E' : Env} {m : Nat} (h : E.leM m E') : ∀ (as : List AV) {vs : List Value}, fixedL m as = true → rLs E as vs → rLs E' as vs
 | [], [], _, _ => by simp [rLs]
 | [], _ :: _, _, hr => by simp [rLs] at hr
 | _ :: _, [], _, hr => by simp [rLs] at hr
 | a :: as, v :: vs, hf, hr => by
  simp only [fixedL, Bool.and_eq_true] at hf
  simp only [rLs] at hr ⊢
  exact ⟨rel_fixed h a hf.1 hr.1, relList_fixed h as hf.2 hr.2⟩
end
theorem Env.leM.mono {m m' : Nat} {E E' : Env} (h : E.leM m' E') (hm : m ≤ m') : E.leM m E' :=
 ⟨fun id hi => h.past id (by omega), h.size, h.same, h.own, fun id hi => h.live id (by omega), h.X, h.rl, h.env⟩
structure Env.leX (m l : Nat) (E E' : Env) : Prop where
 past : ∀ id, id < m → E.past id 0 → E'.past id 0
 size : E.w.heap.size ≤ E'.w.heap.size
 same : ∀ b, b < E.w.heap.size → ¬ E.own b → b ≠ l → E'.w.heap[b]? = E.w.heap[b]?
 own : ∀ b, b < E.w.heap.size → ¬ E.own b → ¬ E'.own b
 live : ∀ id, id < m → E.past id 0 → E'.live id 0 → E.live id 0 ∧ E'.loc[id]? = E.loc[id]?
 X : ∀ b, b < E.w.heap.size → (E'.X b ↔ E.X b) ∧ (E'.X.z b ↔ E.X.z b)
 rl : ∀ l h, h < (E.X.r l).length → h < (E'.X.r l).length ∧ ∀ q, (E'.X.r l)[h]? = some (some q) → (E.X.r l)[h]? = some (some q)
 env : SameOs E.w E'.w
theorem Env.leX.trans {m l : Nat} {E E' E'' : Env} (h : E.leX m l E') (h' : E'.leX m l E'') : E.leX m l E'' where
 past := fun id hi hp => h'.past id hi (h.past id hi hp)
 size := Nat.le_trans h.size h'.size
 same := fun b hb ho hl => by rw [h'.same b (Nat.lt_of_lt_of_le hb h.size) (h.own b hb ho) hl, h.same b hb ho hl]
 own := fun b hb ho => h'.own b (Nat.lt_of_lt_of_le hb h.size) (h.own b hb ho)
 live := fun id hi hid hl => by
  obtain ⟨a1, a2⟩ := h'.live id hi (h.past id hi hid) hl
  obtain ⟨b1, b2⟩ := h.live id hi hid a1
  exact ⟨b1, by rw [a2, b2]⟩
 X := fun b hb => by
  have h1 := h'.X b (Nat.lt_of_lt_of_le hb h.size)
  have h2 := h.X b hb
  exact ⟨h1.1.trans h2.1, h1.2.trans h2.2⟩
 rl := fun l i hi => by
  obtain ⟨a1, a2⟩ := h.rl l i hi
  obtain ⟨b1, b2⟩ := h'.rl l i a1
  exact ⟨b1, fun q hq => a2 q (b2 q hq)⟩
 env := h.env.trans h'.env
theorem Env.leX.toM {m l : Nat} {E E' : Env} (h : E.leX m l E') (hl : l < E.w.heap.size → E'.w.heap[l]? = E.w.heap[l]?) : E.leM m E' :=
 ⟨h.past, h.size, fun b hb ho => by
  by_cases e : b = l
  ·subst e
   exact hl hb
  ·exact h.same b hb ho e, h.own, h.live, h.X, h.rl, h.env⟩
end Go.AL

namespace Go.AL
open Go
variable [Dr]
structure BwR (P : Program) (m : Nat) (n : Nat) (rv : Nat → AV) (p0 p1 : Tmp) (assign body : Code) (S : Nat → St) : Prop where
 na : noRF assign = true
 nb : noRF body = true
 fix : ∀ k, k < n → fixedL m (S k).fr = true
 round : ∀ k, k < n → ∃ s1 s2, ASat P m assign ⟨((S k).fr.set p0 (.lit (.int .i64 ((n : Int) - 1 - k)))).set p1 (rv (n - 1 - k)), (S k).H⟩ .normal s1 ∧ ASat P m body s1 .normal s2 ∧ SLe m ⟨(S k).fr, s2.H⟩ (S (k + 1))
section bw
variable {P : Program} {m' : Nat} {n : Nat} {rv : Nat → AV} {p0 p1 : Tmp} {assign body : Code} {S : Nat → St}
end bw
end Go.AL

namespace Go.AL
open Go
variable [Dr]
variable {P : Program}
structure BwI where
 f : FuncId
 T1 : TypeId
 T2 : TypeId
 w : Nat
 pw : Nat
 agg : Bool
end Go.AL

namespace Go.AL
open Go
variable [Dr]
def fresh1 : TObj → Bool
 | .vec _ v _ => Nat.beq v 0
 | .map .. => true
 | .raw (.vec _ v _) => Nat.beq v 0
 | .raw .dead => false
 | .raw _ => true
theorem fresh1_ok {H : List TObj} (h : H.all fresh1 = true) : freshH (denH H) := by
 intro o ho
 obtain ⟨t, ht, rfl⟩ := List.mem_map.1 ho
 have := List.all_eq_true.1 h t ht
 cases t with
 | vec ks v rows => simp only [fresh1] at this; rw [Nat.eq_of_beq_eq_true this]; rfl
 | map => rfl
 | raw o => cases o with
  | vec k v rows => simp only [fresh1] at this; rw [Nat.eq_of_beq_eq_true this]; rfl
  | dead => cases this
  | box => rfl
  | map => rfl
  | iter => rfl
  | bld => rfl
def runW (P : Program) (τ : Tab) (fn : Func) (args : List AV) (H : List TObj) : Option (Bool × AV × List TObj) :=
 match H.all fresh1 with
 | true => match (runCode P τ nL0 (bodyOf fn) ⟨frame0 args fn.ntmps, H⟩ .done).val1 with
  | some (.normal, s') => match resultsA P s'.den fn.results.toList with
   | some vs => some (true, oneA vs, s'.H)
   | none => none
  | some (.ret, s') => match resultsA P s'.den fn.results.toList with
   | some vs => some (true, oneA vs, s'.H)
   | none => none
  | _ => none
 | false => none
def Tab.inlineW (P : Program) (τ : Tab) (f : FuncId) (fn : Func) : Tab where
 pf g := match Nat.beq g f with
  | true => false
  | false => τ.pf g
 T g as := match Nat.beq g f with
  | true => none
  | false => τ.T g as
 W g as H := match Nat.beq g f with
  | true => runW P τ fn as H
  | false => τ.W g as H
 C g as H := match Nat.beq g f with
  | true => List.range H.length
  | false => τ.C g as H
 I := τ.I
theorem TabOK.inlineW {P : Program} {τ : Tab} (h : TabOK P τ) (hm : P.follows .mixedOrders = true) {f : FuncId} {fn : Func} (hf : P.funcs[f]? = some fn) (hb : hasBody P f = true) (hbs : fn.body.isSome = true) : TabOK P (τ.inlineW P f fn) := by
 refine ⟨fun g as b v hg ht => ?_, fun g as H b v H' hg ht => ?_, fun g as H b v H' hg A hA hlt => ?_, fun g as H t hg Q hQ => ?_⟩
 rotate_left 3
 ·obtain ⟨g1, v, H', g2, g3, g4⟩ := h.I g as H t hg Q hQ
  refine ⟨g1, v, H', g2, fun A hA hlt => g3 A (fun hm => hA ?_) hlt, g4⟩
  simp only [Tab.inlineW]
  split
  ·exact List.mem_range.2 hlt
  ·exact hm
 ·simp only [Tab.inlineW] at hg
  split at hg
  ·cases hg
  ·exact h.T g as b v hg ht
 ·simp only [Tab.inlineW] at hg
  split at hg
  ·rename_i e
   have e := Nat.eq_of_beq_eq_true e
   subst e
   refine ⟨hb, ?_⟩
   obtain ⟨c, hc⟩ := Option.isSome_iff_exists.1 hbs
   have hbo : bodyOf fn = c := by unfold bodyOf; rw [hc]
   unfold runW at hg
   rw [hbo] at hg
   split at hg
   case h_2 => cases hg
   rename_i hfr
   have key : ∀ {x : AExit} {s' : TSt} {vs : List AV}, (runCode P τ nL0 c ⟨frame0 as fn.ntmps, H⟩ .done).val1 = some (x, s') → (x = .normal ∨ x = .ret) → resultsA P s'.den fn.results.toList = some vs → ACallX P g as (denH H) (oneA vs) (denH s'.H) := by
    intro x s' vs h1 hx h2
    obtain ⟨x1, s1, h3, h4⟩ := runCode_sound hm h c ⟨frame0 as fn.ntmps, H⟩ .done (nLk P (denH H).length c) (val1_holds h1)
    obtain ⟨rfl, rfl⟩ := h4
    exact call_body hf hc h3 hx h2 (fresh1_ok hfr)
   split at hg
   ·rename_i s' h1
    split at hg
    ·rename_i vs h2
     cases hg
     exact key h1 (.inl rfl) h2
    ·cases hg
   ·rename_i s' h1
    split at hg
    ·rename_i vs h2
     cases hg
     exact key h1 (.inr rfl) h2
    ·cases hg
   ·cases hg
  ·exact h.W g as H b v H' hg ht
 ·simp only [Tab.inlineW] at hg hA
  split at hg
  ·rename_i e
   rw [e] at hA
   exact (hA (List.mem_range.2 hlt)).elim
  ·rename_i e
   rw [e] at hA
   exact h.C g as H b v H' hg A hA hlt
end Go.AL

namespace Go.AL
open Go Go.ChangeMaps
variable [Dr]
section range
variable {P : Program} {τ : Tab} {L : LT} {m : Nat} {sp : RSpec} {ops0 ops1 ops2 : Array Oper} {body : Code} {ri : List G → List (List G)} {ci : List G → Nat}
end range
end Go.AL

namespace Go.AL
open Go
variable [Dr]
theorem SameOs.anyDr {w w' : World} (h : @SameOs drT w w') : SameOs w w' := ⟨h.1, h.2.1, h.2.2.1, fun _ => h.2.2.2 rfl⟩
theorem Env.le.anyDr {E E' : Env} (h : @Env.le drT E E') : E.le E' := by
 cases h with
 | mk a b c d e f r g => exact ⟨a, b, c, d, e, f, r, SameOs.anyDr g⟩
theorem ACall.anyDr {P : Program} {f : FuncId} {args : List AV} {H : List AObj} {Q : AV → List AObj → Prop} (h : @ACall drT P f args H Q) : ACall P f args H Q := fun E cargs h1 h2 h3 =>
 (h E cargs h1 h2 h3).mono fun _ _ ⟨c, v, H', e, q, loc', r', r1, r2, r3⟩ => ⟨c, v, H', e, q, loc', r', r1, r2, r3.anyDr⟩
theorem TabOK.anyDr {P : Program} {τ : Tab} (h : @TabOK drT P τ) : TabOK P τ := by
 cases h with
 | mk hT hW hC hI =>
  refine ⟨fun f args b v h1 h2 => ⟨(hT f args b v h1 h2).1, fun H => ACall.anyDr ((hT f args b v h1 h2).2 H)⟩, fun f args H b v H' h1 h2 => ⟨(hW f args H b v H' h1 h2).1, ACall.anyDr (hW f args H b v H' h1 h2).2⟩, hC, fun f args H t h1 Q h2 => ?_⟩
  obtain ⟨g1, v, H', g2, g3, g4⟩ := hI f args H t h1 Q h2
  exact ⟨g1, v, H', ACall.anyDr g2, g3, g4⟩
end Go.AL

namespace Go.AL
open Go
variable [Dr]
theorem ext_growG (w : World) (q : Nat) (os : Array Obj) : Ext w (Go.Sort.grow (w.drewN q) os) :=
 ⟨by simp [Go.Sort.grow, World.drewN], fun b hb => by
  show (w.heap ++ os)[b]? = w.heap[b]?
  rw [Array.getElem?_append_left hb], ⟨rfl, rfl, rfl, fun _ => Nat.le_add_right _ _⟩⟩
theorem tabIs_of {P : Program} {E : Env} (H : HTab E) {name : String} {g : Nat} {k : IntKind} {zs : List Int} (hg : P.globalNamed name = some g) (hz : (g, (zs.map fun z => Value.int k z).toArray) ∈ tabZ) : Lib.TabIs P E.w name k zs := by
 obtain ⟨_, t, f, h⟩ := H _ hz
 unfold Lib.TabIs World.var?
 rw [hg]
 simp only [Option.bind_some]
 rw [h]
theorem heap_of_tabIs {P : Program} {w : World} {name : String} {g : Nat} {k : IntKind} {zs : List Int} (hg : P.globalNamed name = some g) (h : Lib.TabIs P w name k zs) : ∃ t f, w.heap[g]? = some (.cells (zs.map fun z => Value.int k z).toArray t f) := by
 unfold Lib.TabIs World.var? at h
 rw [hg] at h
 simp only [Option.bind_some] at h
 split at h
 ·rename_i cs t f hc
  cases h
  exact ⟨t, f, hc⟩
 ·cases h
theorem pcall_litsT {P : Program} {f : FuncId} {vs : List Value} {u : Value} (h : ∀ E : Env, HTab E → Calls P f vs.toArray E.w fun e w' => e = .returned u ∧ Ext E.w w') : PCall P f (vs.map .lit) (.lit u) := by
 intro H E cargs hH HE hargs
 have e : cargs = vs.toArray := by
  have : ∀ (vs us : List Value), rLs E (vs.map AV.lit) us → us = vs := by
   intro vs
   induction vs with
   | nil => intro us h; cases us with
    | nil => rfl
    | cons _ _ => simp [rLs] at h
   | cons v vs ih =>
    intro us h
    cases us with
    | nil => simp [rLs] at h
    | cons u us =>
     simp only [List.map_cons, rLs, rel] at h
     rw [h.1, ih us h.2]
  have := this vs cargs.toList hargs
  rw [← this]
 rw [e]
 refine (h E HE.tab).mono ?_
 rintro _ w' ⟨rfl, hext⟩
 refine ⟨u, .lit u, H, rfl, ⟨rfl, rfl⟩, E.loc, E.X.r, by simp [rel], ?_, ?_⟩
 ·rw [← hH]; exact HE.ext hext
 ·rw [← hH]; exact Env.le_ext hext
end Go.AL
