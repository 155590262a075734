/-
 What is proved here: the library's sorted keys of a map (slices.Sorted of maps.Keys), as a function on data (by the kit's own contracts). No program in sight; what is asked is that the library's text lies in the program.
-/
import Derived.Test.YtdhpplgohigbdaaGreatDoorMG
import Derived.Shelf.SlIter.Nil
import Derived.Maps.OwnSet
set_option linter.all false
namespace Go.AL
open Go Go.Proofs Go.Maps Go.ChangeMaps Go.MapKept
open Go.WideElems (Fit rd rg)
variable [Dr]
def strK (r : List G) : ByteArray := ((gi r 0).row.headD default).str
def sortedK (rows : List (List G)) : List (List G) := ((rows.map fun r => (strK r).data.toList).mergeSort leB).map fun bs => [G.s ⟨bs.toArray⟩]
structure KeysOK (rows : List (List G)) (clock : Nat) : Prop where
 st : okSt rows clock = true
 size : ∀ r ∈ rows, (strK r).size ≤ maxLen
 nodup : (rows.map fun r => (strK r).data.toList).Nodup
 small : rows.length ≤ 1048576
open Classical in
noncomputable def keysG (d : List G) : Option (List G) :=
 if KeysOK (gi d 0).rows (gi d 1).int.toNat then some [.l (gi d 0).rows, .i (((gi d 1).int.toNat : Nat) : Int), .l (sortedK (gi d 0).rows)] else none
theorem ent_keys {E : Env} {V : Ct} : ∀ {rows : List (List G)} {ms : List MapEntry}, relEntries E (mapEs (.one .str) V rows) ms → ms.map (·.key) = rows.map (fun r => Value.string (strK r)) ∧ ms.map (·.born) = rows.map bornG
 | [], [], _ => ⟨rfl, rfl⟩
 | [], _ :: _, h => by simp [mapEs, relEntries] at h
 | _ :: _, [], h => by simp [mapEs, relEntries] at h
 | r :: rows, e :: ms, h => by
  simp only [mapEs, List.map_cons, relEntries] at h
  obtain ⟨h1, h2⟩ := ent_keys (V := V) (rows := rows) (ms := ms) h.2.2.2.2.2
  have hk : e.key = .string (strK r) := by
   have := h.1
   simp only [Ct.av, gCell, rel] at this
   exact this
  exact ⟨by simp only [List.map_cons, h1, hk], by simp only [List.map_cons, h2, h.2.2.1, bornG]⟩
theorem strKeys_perm {P : Program} {k : TypeId} (hk : P.underlying k = some .string) {R : Value → Option (DataW Unit × List MemPlace)} (hR : ∀ v, R v = some (.nil, [])) {ms : List MapEntry} {ks : List ByteArray} (h : ms.map (·.key) = ks.map Value.string) (hs : ∀ b ∈ ks, b.size ≤ maxLen) :
  (strKeys (.map ((ms.map (rg P k R)).foldr DataW.insert []))).Perm (ks.map fun b => b.data.toList) ∧ (∀ x ∈ ms, ∃ y, rd P k R x = some y) := by
 have key : ∀ x ∈ ms, ∃ b ∈ ks, x.key = .string b ∧ rd P k R x = some (.string b.data.toList, .nil) := fun x hx => by
  have : x.key ∈ ms.map (·.key) := List.mem_map_of_mem hx
  rw [h] at this
  obtain ⟨b, hb, e⟩ := List.mem_map.1 this
  refine ⟨b, hb, e.symm, ?_⟩
  have hsz := hs b hb
  unfold WideElems.rd
  rw [← e, hR]
  simp [keyOf, hk, mapKey, hsz]
 refine ⟨?_, fun x hx => by
  obtain ⟨b, _, _, h2⟩ := key x hx
  exact ⟨_, h2⟩⟩
 have hp := (WideShapes.sorted_perm (ms.map (rg P k R))).map fun p => strOf p.1
 refine hp.trans ?_
 rw [List.map_map]
 have e : ms.map ((fun p : Lit × DataW Unit => strOf p.1) ∘ rg P k R) = ks.map fun b => b.data.toList := by
  have e1 : ms.map ((fun p : Lit × DataW Unit => strOf p.1) ∘ rg P k R) = (ms.map (·.key)).map fun v => match v with | .string b => b.data.toList | _ => [] := by
   rw [List.map_map]
   refine List.map_congr_left fun x hx => ?_
   obtain ⟨b, _, h1, h2⟩ := key x hx
   simp only [Function.comp_apply, WideElems.rg, h2, Option.getD_some, h1, strOf]
  rw [e1, h, List.map_map]
  rfl
 rw [e]
section
variable {P : Program} {ρ ρ' : Go.Shelf.Ren}
theorem sortedK_call (hd : tabD = false) (LS : SlLaysZ.n6 P ρ) (LK : SlLaysZ.n10 P ρ') (hsort : ∀ m, AnyZ.SortsIn P ρ Fence.wide m) (h9 : hasBody P (ρ.f 9) = true) (hg : hasBody P (ρ'.f 10) = true) (V : Ct) (d r : List G) (h : keysG d = some r) :
  ACallX P (ρ.f 6) (mkS (osOf [.box [.map 1], .map (.one .str) V] d) [.clo (ρ'.f 10) [.ptr 0 0]] (dropT 2 d)) (denH (mkOs (osOf [.box [.map 1], .map (.one .str) V] d) [.box [.map 1], .map (.one .str) V] d))
   (oneA (mkS (osOf [.box [.map 1], .map (.one .str) V] r) [.s (.list [.str])] (dropT 2 r))) (denH (mkOs (osOf [.box [.map 1], .map (.one .str) V] r) [.box [.map 1], .map (.one .str) V] r)) := by
 have e0 : gi d 0 = d.headD default := rfl
 have e1 : gi d 1 = d.tail.headD default := by
  cases d with
  | nil => rfl
  | cons x l => cases l <;> rfl
 unfold keysG at h
 split at h
 case isFalse => cases h
 rename_i hok
 cases h
 rw [e0, e1] at hok ⊢
 generalize hrows : (d.headD default).rows = rows at hok ⊢
 generalize hclk : (d.tail.headD default).int.toNat = clock at hok ⊢
 intro E cargs hH HE hargs
 simp only [mkS, mkSh, mkL0, mk0, mkOs, mkO, denH, List.map_cons, List.map_nil, TObj.den, dropT, Sh0.sz, Sh.sz, szL, OSh.sz, Nat.add_zero, oneA] at hH hargs ⊢
 rw [hrows, hclk] at hH
 simp only [List.headD_cons, List.tail_cons, G.rows, G.int, Int.toNat_natCast]
 obtain ⟨cs⟩ := cargs
 match cs, hargs with
 | [c0], hargs =>
 simp only [rLs, and_true] at hargs
 simp only [rel, rLs] at hargs
 obtain ⟨cb, rfl, hcb⟩ := hargs
 obtain ⟨cb⟩ := cb
 match cb, hcb with
 | [p], hcb =>
 simp only [rLs, rel, and_true] at hcb
 obtain ⟨_, _, hlive⟩ := hcb
 have hl0 : E.H[0]? = some (AObj.box [.map 1]) := by rw [hH]; rfl
 have hl1 : E.H[1]? = some (AObj.map (mapEs (.one .str) V rows) clock) := by rw [hH]; rfl
 obtain ⟨b, n, hloc0, rfl⟩ := hlive ⟨_, hl0, rfl⟩
 obtain ⟨b', n', hloc0', hrow0, hcell0⟩ := HE.obj 0 _ hl0
 have hbb : b' = b := by
  rw [hloc0] at hloc0'
  cases hloc0'
  rfl
 subst hbb
 simp only [relCells, and_true] at hcell0
 obtain ⟨v0, hv0, _, hr0⟩ := hcell0
 simp only [rel] at hr0
 obtain ⟨_, _, hlive1⟩ := hr0
 obtain ⟨b1, n1, hloc1, rfl⟩ := hlive1 ⟨_, hl1, rfl⟩
 obtain ⟨b1', n1', ms, hloc1', hms, hents⟩ := HE.obj 1 _ hl1
 have hbb1 : b1' = b1 := by
  rw [hloc1] at hloc1'
  cases hloc1'
  rfl
 subst hbb1
 obtain ⟨hk, hb⟩ := ent_keys hents
 obtain ⟨st1, st2⟩ := okSt_iff hok.st
 obtain ⟨R, hR⟩ : ∃ R : Value → Option (DataW Unit × List MemPlace), ∀ v, R v = some (.nil, []) := ⟨fun _ => some (.nil, []), fun _ => rfl⟩
 have hk' : ms.toList.map (·.key) = (rows.map strK).map Value.string := by rw [hk, List.map_map]; rfl
 obtain ⟨hperm, hreads⟩ := strKeys_perm (P := P) (k := ρ'.t 26) LK.t26 hR hk' (fun x hx => by
  obtain ⟨y, hy, rfl⟩ := List.mem_map.1 hx
  exact hok.size y hy)
 have hlen : ms.size = rows.length := by
  have := congrArg List.length hk
  simpa using this
 have F : Fit P (ρ'.t 26) R ms clock := ⟨by rw [hlen]; exact Nat.le_trans hok.small (by decide), ⟨fun x hx => by
   have : x.born ∈ ms.toList.map (·.born) := List.mem_map_of_mem hx
   rw [hb] at this
   obtain ⟨y, hy, e⟩ := List.mem_map.1 this
   have := st2 y hy
   omega, by rw [hb]; exact st1, by
   rw [hk']
   have := hok.nodup
   rw [List.nodup_iff_pairwise_ne, List.pairwise_map] at this ⊢
   rw [List.pairwise_map]
   refine this.imp fun hne e => hne ?_
   injection e with e
   rw [e]⟩, hreads⟩
 have hown := World.ownsMap_of_fit (w := E.w) (b := b1') (R := R) hms F (fun _ _ _ h => h)
 have hsz : Maps.size (DataW.map ((ms.toList.map (rg P (ρ'.t 26) R)).foldr DataW.insert [])) = rows.length := by
  show (List.foldr DataW.insert [] (ms.toList.map (rg P (ρ'.t 26) R))).length = _
  rw [(WideShapes.sorted_perm _).length_eq, List.length_map]
  simpa using hlen
 have hblt : b' < E.w.heap.size := (HE.lt 0 b' n hloc0).1
 have hseq := AnyZ.keys_gives (ρ := ρ') LK Fence.wide 2 trivial rfl (by omega) b' b1' ms.size _ E.w hblt (by simpa using hv0) hown
 have cS := AnyZ.sorted_in LS Fence.wide 5 trivial trivial trivial trivial rfl (by omega) (hsort _) (fun args w => run_callFunc h9 args w) (ρ'.f 10) #[.pointer (some ⟨b', 0, none⟩)] trivial (fun args w => run_callFunc hg args w) _ _ (by rw [hsz]; exact Nat.le_trans hok.small (by decide)) (by rw [hsz]; have := hok.small; omega) E.w hseq
 refine ((callsIn_wide (n := 5)).1 cS).mono ?_
 rintro e w' ⟨v, ss, rfl, hS, hrow, hnil, hbel⟩
 have hss : ss.Perm ((rows.map strK).map fun b => b.data.toList) := hS.trans hperm
 have hsorted : ss.mergeSort leB = (rows.map fun r => (strK r).data.toList).mergeSort leB := by
  rw [mergeSort_of_perm hss, List.map_map]
  rfl
 have hext : Ext E.w w' := ⟨hbel.size, fun x hx => hbel.block x hx, hbel.os, hbel.output, hbel.tape, fun ht => by rw [hd] at ht; cases ht⟩
 refine ⟨v, _, _, rfl, ⟨rfl, rfl⟩, E.loc, ?_, ?_, ?_⟩
 ·simp only [rel, relKd, G.rows]
  have hl : (sortedK rows).length = ss.length := by
   unfold sortedK
   rw [← hsorted]
   simp
  rcases hrow.2 with ⟨rfl, hz⟩ | ⟨gb, cap, cur, rfl, hbase, hgb, r1, r2, r3, r4⟩
  ·exact ⟨none, 0, by rw [hl, hz], by rw [hl, hz]; exact Nat.le_refl _, .inl (List.eq_nil_of_length_eq_zero (by rw [hl, hz]))⟩
  ·refine ⟨_, cap, by rw [hl], by rw [hl]; exact r1, .inr ⟨gb, 0, rfl, ⟨(Array.getElem?_eq_some_iff.1 hgb).1, ?_, fun hx => by have := HE.X gb hx; omega⟩, fun i x hi => ?_⟩⟩
   ·rintro ⟨i, c, hi⟩
    have := (HE.lt i gb c hi).1
    omega
   ·unfold sortedK at hi
    rw [← hsorted, List.getElem?_map] at hi
    cases hq : (ss.mergeSort leB)[i]? with
    | none => rw [hq] at hi; cases hi
    | some bs =>
     rw [hq] at hi
     cases hi
     simp only [relKs, relKd, List.headD_cons, List.length_cons, List.length_nil, Nat.zero_add, Nat.mul_one, and_true, G.str]
     have hlt : i < ss.length := by
      have := lt_of_getElem? hq
      simpa using this
     have hc : cur[i]? = some (encStr bs) := by
      have := congrArg (fun l => l[i]?) r4
      simp only [Nat.mul_one] at this
      rw [List.getElem?_take, if_pos hlt, List.getElem?_map, hq] at this
      simpa using this
     refine ⟨encStr bs, ?_, rfl, rfl⟩
     unfold World.cell?
     rw [hgb]
     simpa using hc
 ·rw [← hH]
  exact HE.ext hext
 ·rw [← hH]
  exact Env.le_ext hext
end
end Go.AL
