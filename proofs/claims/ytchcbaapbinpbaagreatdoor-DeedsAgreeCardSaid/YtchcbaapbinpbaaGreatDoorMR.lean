/-
 What is proved here: a range over slices.Backward of data, and what comes behind it, as a function on data: rounds from the last row to the first one. No program in sight; no condition.
-/
import Derived.Test.YtchcbaapbinpbaaGreatDoorMG
set_option linter.all false
namespace Go.AL
open Go
variable [Dr]
variable {P : Program} {τ : Tab} {L : LT} {m : Nat}
def bwKs (i : BwI) (K : List Kd) : Bool := Nat.beq K.length i.w && (bif i.agg then Nat.ble i.pw K.length else Nat.blt 0 K.length)
theorem bwT_listF {i : BwI} {e b : Nat} {K : List Kd} {rows : List (List G)} (h1 : varK P i.T1 = some (1, false)) (h2 : kindK P i.T1 = .slice e i.w b) (h3 : varK P i.T2 = some (i.pw, i.agg)) (hk : bwKs i K = true) :
  BwT P i.T1 i.T2 (.listF K rows) rows.length (fun k => rvOf i.agg i.pw (gCells K (rows.getD k []))) := by
 unfold bwKs at hk
 simp only [Bool.and_eq_true] at hk
 obtain ⟨hw, hp⟩ := hk
 have hw := Nat.eq_of_beq_eq_true hw
 refine ⟨fun H => ?_, ?_, fun k hk0 hk1 => ?_, by simp [AV.closedL, AV.closed]⟩
 ·simp [loadA, h1, partA]
 ·rw [h2]
  rfl
 ·refine ⟨gCells K (rows.getD k.toNat []), ?_, fun H => ?_⟩
  ·rw [h2]
   simp only [idxAddrA]
   rw [if_pos ⟨hw, hk0, hk1⟩]
  ·have hv : ∃ v, partA i.agg i.pw (gCells K (rows.getD k.toNat [])) = some v := by
    have hl := gCells_length K (rows.getD k.toNat [])
    unfold partA
    cases ha : i.agg with
    | true =>
     rw [ha] at hp
     have hp := Nat.le_of_ble_eq_true hp
     exact ⟨_, by rw [if_pos rfl, if_pos (by rw [hl]; exact hp)]⟩
    | false =>
     rw [ha] at hp
     have hp : 0 < K.length := by simpa [Nat.blt_eq] using hp
     rw [if_neg (by simp), List.getElem?_eq_getElem (by rw [hl]; exact hp)]
     exact ⟨_, rfl⟩
   obtain ⟨v, hv⟩ := hv
   simp only [loadA, h3, hv]
   unfold rvOf
   rw [hv]
   rfl
structure BSpec where
 inv : SSh
 ps : List OPath
 opens : List (Nat × List Kd)
 K : List Kd
 agg : Bool
 pw : Nat
 id : Nat
 p0 : Tmp
 p1 : Tmp
 init : List G → List G
 side : List G → Bool
 st : Int → List G → List G → Option (List G)
def foldB (st : Int → List G → List G → Option (List G)) (rows : List (List G)) : Nat → List G → Option (List G)
 | 0, d => some d
 | n + 1, d => match st ((n : Nat) : Int) (rows.getD n []) d with
  | some d' => foldB st rows n d'
  | none => none
theorem foldB_steps {st : Int → List G → List G → Option (List G)} {rows : List (List G)} : ∀ (n : Nat) (d dn : List G), foldB st rows n d = some dn → ∃ f : Nat → List G, f 0 = d ∧ f n = dn ∧ ∀ k, k < n → st ((n : Int) - 1 - k) (rows.getD (n - 1 - k) []) (f k) = some (f (k + 1))
 | 0, d, dn, h => by
  cases h
  exact ⟨fun _ => d, rfl, rfl, fun k hk => by omega⟩
 | n + 1, d, dn, h => by
  simp only [foldB] at h
  split at h
  ·rename_i d' hd
   obtain ⟨f, h0, h1, h2⟩ := foldB_steps n d' dn h
   refine ⟨fun j => match j with | 0 => d | j + 1 => f j, rfl, h1, fun k hk => ?_⟩
   cases k with
   | zero =>
    show st _ _ d = some (f 0)
    rw [h0, ← hd]
    congr 1
    ·omega
   | succ k =>
    have := h2 k (by omega)
    show st _ _ (f k) = some (f (k + 1))
    rw [← this]
    congr 1
    ·omega
    ·congr 1
     omega
  ·cases h
def backR (sp : BSpec) (tl : List G → Option (Option Nat × List G)) (rows : List (List G)) (d : List G) : Option (Option Nat × List G) :=
 bif (Nat.ble rows.length 1048576 && sp.side d) then (foldB sp.st rows rows.length (sp.init d)).bind tl else none
def fixPs (n : Nat) : List OPath := (List.range n).map .fix
def BRound (P : Program) (τ : Tab) (L : LT) (sp : BSpec) (assign body : Code) : Prop :=
 ∀ (i : Int) (r d : List G), (runCode P τ L assign ⟨((mkSt sp.inv d).fr.set sp.p0 (.lit (.int .i64 i))).set sp.p1 (rvOf sp.agg sp.pw (gCells sp.K r)), (mkSt sp.inv d).H⟩ fun x s1 => match x with
  | .normal => runCode P τ L body s1 fun x s2 => match x with
   | .normal => .done .normal ⟨(mkSt sp.inv d).fr, s2.H⟩
   | _ => .fail
  | _ => .fail).leaf (leafM sp.inv.objs.length sp.inv (fixPs sp.inv.objs.length)) = sp.st i r d
theorem bround_sat (hm : P.follows .mixedOrders = true) (ht : TabOK P τ) {sp : BSpec} {assign body : Code} (hLa : ∀ m, LpK P m L assign) (hLb : ∀ m, LpK P m L body) (hr : BRound P τ L sp assign body) {i : Int} {r d d' : List G} (h : sp.st i r d = some d') :
  ∃ s1 s2 : TSt, ASat P sp.inv.objs.length assign ⟨((mkSt sp.inv d).fr.set sp.p0 (.lit (.int .i64 i))).set sp.p1 (rvOf sp.agg sp.pw (gCells sp.K r)), (mkSt sp.inv d).den.H⟩ .normal s1.den ∧ ASat P sp.inv.objs.length body s1.den .normal s2.den ∧
   SLe sp.inv.objs.length ⟨(mkSt sp.inv d).fr, s2.den.H⟩ (mkSt sp.inv d').den := by
 rw [← hr i r d] at h
 have h := leaf_holds h
 obtain ⟨x, s1, h1, h2⟩ := runCode_sound hm ht (m := sp.inv.objs.length) assign _ _ (hLa _) h
 cases x with
 | exit _ => exact h2.elim
 | ret => exact h2.elim
 | normal =>
  obtain ⟨x, s2, h3, h4⟩ := runCode_sound hm ht (m := sp.inv.objs.length) body _ _ (hLb _) h2
  cases x with
  | exit _ => exact h4.elim
  | ret => exact h4.elim
  | normal =>
   have h4 : leafM sp.inv.objs.length sp.inv (fixPs sp.inv.objs.length) .normal ⟨(mkSt sp.inv d).fr, s2.H⟩ = some (true, d') := h4
   exact ⟨s1, s2, h1, h3, readP_le (s := ⟨(mkSt sp.inv d).fr, s2.H⟩) h4⟩
theorem back_sat (hm : P.follows .mixedOrders = true) (ht : TabOK P τ) {i : BwI} (hi : BwFact P i) {sp : BSpec} {rest r3 assign body : Code} {q qr : LSpec} {b : Nat} {g : Tmp} {wd : Nat} {L0 : LT}
  (hLa : ∀ m, LpK P m L0 assign) (hLb : ∀ m, LpK P m L0 body) (hr : BRound P τ L0 sp assign body) (hL3 : LpK P m L r3) (hnr : (noRF assign && noRF body) = true) (hk : (bwKs i sp.K && (Nat.beq sp.pw i.pw && (sp.agg == i.agg) && Nat.ble m sp.inv.objs.length)) = true)
  {rows : List G → List (List G)} {pre : List G → TSt} (hy : ∀ d, (runCode P τ L r3 (mkSt q.inv d) .done).val1 = some (.normal, pre d)) (hg : ∀ d, (pre d).fr.getD g .undef = .clo i.f [.ptr sp.id 0 wd 0 0]) (hid : ∀ d, (pre d).H[sp.id]? = some (.raw (.box [.listF sp.K (rows d)])))
  (hin : ∀ d, readP m sp.inv sp.ps (openAll sp.opens ⟨(pre d).fr, (pre d).H.set sp.id (.raw .dead)⟩) = some (sp.side d, sp.init d)) (hfix : ∀ d, fixedL sp.inv.objs.length (mkSt sp.inv d).fr = true)
  (hinv : qr.inv = sp.inv) (houts : qr.outs = q.outs) (hrest : CutSat P m rest qr) (hst : ∀ d, q.st d = backR sp qr.st (rows d) d) :
  CutSat P m (.seq (.seq r3 (.block b (.rangeFunc (.tmp g) #[sp.p0, sp.p1] assign body))) rest) q := by
 intro d x d' h
 rw [hst] at h
 unfold backR at h
 cases hok : (Nat.ble (rows d).length 1048576 && sp.side d) with
 | false => rw [hok] at h; cases h
 | true =>
  rw [hok] at h
  simp only [cond_true] at h
  simp only [Bool.and_eq_true] at hok hk hnr
  obtain ⟨hlen, hsd⟩ := hok
  obtain ⟨hk1, ⟨hk2, hk3⟩, hk4⟩ := hk
  have hk2 := Nat.eq_of_beq_eq_true hk2
  have hk3 : sp.agg = i.agg := by simpa using hk3
  cases hf : foldB sp.st (rows d) (rows d).length (sp.init d) with
  | none => rw [hf] at h; cases h
  | some dn =>
   rw [hf] at h
   have h : qr.st dn = some (some x, d') := h
   obtain ⟨o, ho1, hsat⟩ := hrest dn x d' h
   refine ⟨o, by rw [← houts]; exact ho1, ?_⟩
   obtain ⟨x3, s3, h3, h4⟩ := runCode_sound hm ht r3 (mkSt q.inv d) .done hL3 (val1_holds (hy d))
   obtain ⟨rfl, rfl⟩ := h4
   obtain ⟨f, f0, f1, f2⟩ := foldB_steps _ _ _ hf
   obtain ⟨fd, ops0, ops1, ops2, ops3, r0, r1, r2, r3', b0, b1, e, bb, q1, q2, q3, q4, q5, q6, q7, q8, q9⟩ := hi
   have hR : BwR P sp.inv.objs.length (rows d).length (fun k => rvOf i.agg i.pw (gCells sp.K ((rows d).getD k []))) sp.p0 sp.p1 assign body (fun k => (mkSt sp.inv (f k)).den) := by
    refine ⟨hnr.1, hnr.2, fun k _ => hfix (f k), fun k hk => ?_⟩
    obtain ⟨s1, s2, g1, g2, g3⟩ := bround_sat hm ht hLa hLb hr (f2 k hk)
    rw [hk2, hk3] at g1
    exact ⟨s1.den, s2.den, g1, g2, g3⟩
   have hS := sat_bw (m := m) (m' := sp.inv.objs.length) (P := P) (bwT_listF (rows := rows d) q7 q8 q9 hk1) q1 q2 q3 q4 q5 q6 (Nat.le_of_ble_eq_true hlen) (Nat.le_of_ble_eq_true hk4) hR (g := g) (s := (pre d).den) (id := sp.id) (wd := wd) (hg d) (denH_get (hid d)) (by
    have h5 := hin d
    rw [hsd] at h5
    have h6 := (openAll_le (m := m) sp.opens ⟨(pre d).fr, (pre d).H.set sp.id (.raw .dead)⟩).trans (readP_le h5)
    rw [f0]
    have e : (⟨(pre d).fr, denH ((pre d).H.set sp.id (.raw .dead))⟩ : St) = ⟨(pre d).den.fr, (pre d).den.H.set sp.id .dead⟩ := by
     show (⟨(pre d).fr, denH ((pre d).H.set sp.id (.raw .dead))⟩ : St) = ⟨(pre d).fr, (denH (pre d).H).set sp.id .dead⟩
     rw [denH_set]
     rfl
    rw [← e]
    exact h6)
   rw [f1] at hS
   have hB : ASat P m (.block b (.rangeFunc (.tmp g) #[sp.p0, sp.p1] assign body)) (pre d).den .normal (mkSt sp.inv dn).den := sat_block (x := .normal) hS
   rw [← hinv] at hB
   exact sat_seq (sat_seq h3 hB) hsat
def kR3 : Code → Code
 | .seq (.seq r _) _ => r
 | _ => .skip
def kAs : Code → Code
 | .seq (.seq _ (.block _ (.rangeFunc _ _ a _))) _ => a
 | _ => .skip
def kBd : Code → Code
 | .seq (.seq _ (.block _ (.rangeFunc _ _ _ b))) _ => b
 | _ => .skip
theorem loopsOK_back {r3 assign body rest : Code} {b : Nat} {o : Operand} {ps : Array Tmp} (h : LpK P m L (.seq (.seq r3 (.block b (.rangeFunc o ps assign body))) rest)) : LpK P m L r3 ∧ LpK P m L rest := by
 refine ⟨h.sub (fun p hp => ?_) (fun p hp => ?_), h.sub (fun p hp => ?_) (fun p hp => ?_)⟩
 ·simp only [loopsIn, List.mem_append]
  exact .inl (.inl hp)
 ·simp only [cutsIn, List.mem_append]
  exact .inl (.inl hp)
 ·simp only [loopsIn, List.mem_append]
  exact .inr hp
 ·simp only [cutsIn, List.mem_append]
  exact .inr (.inr hp)
theorem LpK.addBack (hm : P.follows .mixedOrders = true) (ht : TabOK P τ) {i : BwI} (hi : BwFact P i) {fn : Func} {sp : BSpec} {q qr : LSpec} {b : Nat} {g : Tmp} {wd : Nat} {L0 : LT}
  (hn : oneKey q.key (cutsIn (bodyOf fn)) = true) (hL : LpK P m L (bodyOf fn)) (hL0 : ∀ m c, LpK P m L0 c)
  (hc : cutAt fn q.key = .seq (.seq (kR3 (cutAt fn q.key)) (.block b (.rangeFunc (.tmp g) #[sp.p0, sp.p1] (kAs (cutAt fn q.key)) (kBd (cutAt fn q.key))))) (rRest (cutAt fn q.key)))
  (hr : BRound P τ L0 sp (kAs (cutAt fn q.key)) (kBd (cutAt fn q.key))) (hnr : (noRF (kAs (cutAt fn q.key)) && noRF (kBd (cutAt fn q.key))) = true) (hk : (bwKs i sp.K && (Nat.beq sp.pw i.pw && (sp.agg == i.agg) && Nat.ble m sp.inv.objs.length)) = true)
  {rows : List G → List (List G)} {pre : List G → TSt} (hy : ∀ d, (runCode P τ L (kR3 (cutAt fn q.key)) (mkSt q.inv d) .done).val1 = some (.normal, pre d)) (hg : ∀ d, (pre d).fr.getD g .undef = .clo i.f [.ptr sp.id 0 wd 0 0]) (hid : ∀ d, (pre d).H[sp.id]? = some (.raw (.box [.listF sp.K (rows d)])))
  (hin : ∀ d, readP m sp.inv sp.ps (openAll sp.opens ⟨(pre d).fr, (pre d).H.set sp.id (.raw .dead)⟩) = some (sp.side d, sp.init d)) (hfix : ∀ d, fixedL sp.inv.objs.length (mkSt sp.inv d).fr = true)
  (hinv : qr.inv = sp.inv) (houts : qr.outs = q.outs) (hrest : CutOK P τ L m (rRest (cutAt fn q.key)) qr) (hst : ∀ d, q.st d = backR sp qr.st (rows d) d) :
  LpK P m (L.addCut m q) (bodyOf fn) := by
 refine LpK.addCutS hn hL fun hLc => ?_
 rw [hc] at hLc
 obtain ⟨hL3, hLr⟩ := loopsOK_back hLc
 rw [hc]
 exact back_sat hm ht hi (fun m => hL0 m _) (fun m => hL0 m _) hr hL3 hnr hk hy hg hid hin hfix hinv houts (hrest.sat hm ht hLr) hst
def preB (P : Program) (τ : Tab) (L : LT) (c : Code) (s : TSt) : TSt := match (runCode P τ L (kR3 c) s .done).val1 with
 | some (_, s1) => s1
 | none => s
end Go.AL
