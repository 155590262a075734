/-
 What is proved here: the library's sort of a slice by a function that compares,as a function on data (by the kit's own contracts). No program in sight; what is asked is that the library's text lies in the program.
-/
import Derived.Test.YtioeckojljemcaaGreatDoorMG
import Derived.Shelf.SlSortCmp.NoneTotal
set_option linter.all false
namespace Go.AL
open Go Go.Proofs
variable [Dr]
theorem vCells_length:∀ (ks:List Kd) (r:List G),(vCells ks r).length=ks.length
 | [],_=>rfl
 | _::ks,r=>by simp [vCells,vCells_length ks]
theorem vCell_one:∀ (k:Kd) (g:G),one1 (vCell k g)=true∧(vCell k g).oneCell'=true
 | .int _,_=>⟨rfl,rfl⟩
 | .str,_=>⟨rfl,rfl⟩
 | .bool,_=>⟨rfl,rfl⟩
 | .list _,_=>⟨rfl,rfl⟩
theorem vCells_one:∀ (ks:List Kd) (r:List G),∀ v∈vCells ks r,one1 v=true∧v.oneCell'=true
 | [],_,v,h=>by simp [vCells] at h
 | k::ks,r,v,h=>by
  simp only [vCells,List.mem_cons] at h
  rcases h with rfl | h
  ·exact vCell_one _ _
  ·exact vCells_one ks r.tail v h
theorem rel_vCells {E:Env}:∀ {ks:List Kd} {r:List G} {vs:List Value},Kd.solidL ks=true→(rLs E (gCells ks r) vs↔vs=vCells ks r)
 | [],r,[],_=>by simp [gCells,rLs,vCells]
 | [],r,_::_,_=>by simp [gCells,rLs,vCells]
 | _::_,r,[],_=>by simp [gCells,rLs,vCells]
 | .list _::_,_,_::_,h=>by simp [Kd.solidL] at h
 | .int k::ks,r,v::vs,h=>by
  simp only [Kd.solidL] at h
  simp only [gCells,rLs,rel_vCells (ks:=ks) h,vCells,gCell,vCell,rel,List.cons.injEq]
 | .str::ks,r,v::vs,h=>by
  simp only [Kd.solidL] at h
  simp only [gCells,rLs,rel_vCells (ks:=ks) h,vCells,gCell,vCell,rel,List.cons.injEq]
 | .bool::ks,r,v::vs,h=>by
  simp only [Kd.solidL] at h
  simp only [gCells,rLs,rel_vCells (ks:=ks) h,vCells,gCell,vCell,rel,List.cons.injEq]
theorem rel_solidV {E:Env} {ks:List Kd} (r:List G) (h:Kd.solidL ks=true):rLs E (gCells ks r) (vCells ks r):=(rel_vCells h).2 rfl
theorem cells_solid {E:Env} {ks:List Kd} {r:List G} {b o:Nat} (hs:Kd.solidL ks=true) (h:relCells E (gCells ks r) b o):∀ c,c<ks.length→E.w.cell? ⟨b,o+c,none⟩=some (vCells ks r)[c]! := by
 obtain ⟨vs,h1,_,h3⟩:=relCells_values h
 have e:=(rel_vCells hs).1 h1
 subst e
 intro c hc
 refine h3 c _ ?_
 rw [List.getElem?_eq_getElem (by rw [vCells_length]; exact hc),getElem!_pos _ c (by rw [vCells_length]; exact hc)]
theorem ext_grow {w w':World} (h:@Ext drT w w'):∃ q os,w'=Go.Sort.grow (w.drewN q) os:=by
 obtain ⟨h1,h2,h3,h4,h5,h6⟩:=h
 have h6:=h6 rfl
 refine ⟨w'.drawn-w.drawn,w'.heap.extract w.heap.size w'.heap.size,?_⟩
 cases w with
 | mk hp tp dr os ou =>
  cases w' with
  | mk hp' tp' dr' os' ou' =>
   simp only at h1 h2 h3 h4 h5 h6
   subst h3 h4 h5
   simp only [Go.Sort.grow,World.drewN,World.mk.injEq,eq_self,true_and,and_true]
   refine ⟨?_,by omega⟩
   apply Array.ext_getElem?
   intro i
   rw [Array.getElem?_append]
   split
   ·exact h2 i (by assumption)
   ·rw [Array.getElem?_extract]
    split
    ·congr 1
     omega
    ·rw [Array.getElem?_eq_none (by omega)]
def bare (w:World):Env:={ w:=w,H:=[],loc:=[],X:=⟨fun _=>False,fun _=>False,noR⟩ }
theorem bare_rel (w:World) (ht:HTab (bare w)):HRel (bare w):=⟨rfl,fun i j b m n h=>by simp [bare] at h,fun i b m h=>by simp [bare] at h,fun b h=>h.elim,fun i o h=>by simp [bare] at h,ht,fun l k l' k' b m n hk=>by simp [bare,noR] at hk,fun i b m l k n hi=>by simp [bare] at hi,fun l k b m hk=>by simp [bare,noR] at hk,fun i j o o' l hi=>by simp [bare] at hi,fun l _ k q hk=>by simp [bare,noR] at hk⟩
theorem calls_int {P:Program} {g:FuncId} {args:List AV} {n:Int} (h:@ACallX drT P g args [] (.lit (.int .i64 n)) []) {cs:Array Value} (w:World) (ht:HTab (bare w)) (hr:rLs (bare w) args cs.toList) :
  Calls P g cs w fun e w'=>e=.returned (.int .i64 n)∧∃ q os,w'=Go.Sort.grow (w.drewN q) os:=by
 refine (h (bare w) cs rfl (bare_rel w ht) hr).mono ?_
 rintro e w' ⟨c,v,H',rfl,⟨rfl,rfl⟩,loc',r',h1,h2,h3⟩
 simp only [rel] at h1
 subst h1
 cases h3 with
 | mk _ k2 k3 _ _ _ _ k7 =>
 refine ⟨rfl,ext_grow (@Ext.mk drT _ _ k2 (fun b hb=>k3 b hb ?_) k7)⟩
 rintro (⟨i,c,hi⟩ | ⟨l,k,c,hk⟩)
 ·simp [bare] at hi
 ·simp [bare,noR] at hk
def cmpZ (C:List G→Option (List G)) (r s:List G):Int:=(gi ((C [.l [r],.l [s]]).getD []) 0).int
def elS (rows:List (List G)) (i:Nat):List G:=rows.getD i (rows.headD [])
theorem elS_mem {rows:List (List G)} (h:rows≠[]) (i:Nat):elS rows i∈rows:=by
 unfold elS
 rw [List.getD_eq_getElem?_getD]
 cases hi:rows[i]? with
 | some x=>exact List.mem_of_getElem? hi
 | none =>
  cases rows with
  | nil=>exact (h rfl).elim
  | cons x l=>simp
abbrev numC (C:List G→Option (List G)) (rows:List (List G)) (i j:Nat):Int:=cmpZ C (elS rows i) (elS rows j)
structure SortOK (C:List G→Option (List G)) (rows:List (List G)):Prop where
 ans:∀ r∈rows,∀ s∈rows,∃ n,C [.l [r],.l [s]]=some [.i n]
 swo:Go.Sort.SWO (ltOf (numC C rows))
 small:rows.length<4611686018427387904
noncomputable def sortN (C:List G→Option (List G)) (rows:List (List G)):Array Nat:=Go.Sort.pdq (ltOf (numC C rows)) (Array.range rows.length) 0 (Array.range rows.length).size (Lib.bitLen (Array.range rows.length).size) true true
noncomputable def sortL (C:List G→Option (List G)) (rows:List (List G)):List (List G):=(sortN C rows).toList.map (elS rows)
open Classical in
noncomputable def sortG (C:List G→Option (List G)) (d:List G):Option (List G) :=
 if (gi d 0).rows=[] then some [.l []] else if SortOK C (gi d 0).rows then some [.l (sortL C (gi d 0).rows)] else none
theorem sortN_spec {C:List G→Option (List G)} {rows:List (List G)} (h:SortOK C rows):Go.Sort.PermIn 0 (Array.range rows.length).size (Array.range rows.length) (sortN C rows)∧Go.Sort.SortedIn (ltOf (numC C rows)) 0 (Array.range rows.length).size (sortN C rows) :=
 Go.Sort.pdq_sorts _ h.swo _ 0 _ _ true true (Nat.zero_le _) (Nat.le_refl _) (Or.inl rfl)
theorem sortN_perm {C:List G→Option (List G)} {rows:List (List G)} (h:SortOK C rows):(sortN C rows).toList.Perm (List.range rows.length):=by
 have:=(sortN_spec h).1.2.2
 have e:=(sortN_spec h).1.1
 simp only [Array.size_range] at this e
 rw [show (sortN C rows).extract 0 rows.length=sortN C rows by rw [←e]; simp,show (Array.range rows.length).extract 0 rows.length=Array.range rows.length by simp] at this
 simpa using this
theorem sortN_size {C:List G→Option (List G)} {rows:List (List G)} (h:SortOK C rows):(sortN C rows).size=rows.length:=by
 have:=(sortN_spec h).1.1
 simpa using this
theorem map_elS (rows:List (List G)):(List.range rows.length).map (elS rows)=rows:=by
 apply List.ext_getElem?
 intro i
 rw [List.getElem?_map]
 by_cases h:i<rows.length
 ·rw [List.getElem?_range h, List.getElem?_eq_getElem h]
  simp [elS,List.getD_eq_getElem?_getD,h]
 ·rw [List.getElem?_eq_none (by simpa using h), List.getElem?_eq_none (by omega)]
  rfl
theorem sortL_perm {C:List G→Option (List G)} {rows:List (List G)} (h:SortOK C rows):(sortL C rows).Perm rows:=by
 have:=(sortN_perm h).map (elS rows)
 rw [map_elS] at this
 exact this
theorem sortL_sorted {C:List G→Option (List G)} {rows:List (List G)} (h:SortOK C rows):(sortL C rows).Pairwise fun a b=>¬ cmpZ C b a<0:=by
 unfold sortL
 rw [List.pairwise_map,List.pairwise_iff_getElem]
 intro i j hi hj hij
 have:=(sortN_spec h).2 i j (Nat.zero_le _) hij (by rw [Array.size_range,←sortN_size h]; simpa using hj)
 simp only [Array.length_toList] at hi hj
 rw [getElem!_pos _ i hi,getElem!_pos _ j hj] at this
 simpa [ltOf,numC] using this
section
variable {P:Program} {ρ:Go.Shelf.Ren}
theorem holds_rows {E:Env} {K:List Kd} {rows:List (List G)} {b m:Nat} (hs:Kd.solidL K=true) (hrow:isRow E.w b (m*K.length)) (hr:relRows E K.length (rows.map (gCells K)) b 0) (d:Array Nat) (hd:d.size=rows.length) (hi:∀ i,i<rows.length→d[i]! = i) :
  Go.Sort.HoldsK (fun i=>vCells K (elS rows i)) K.length E.w b 0 d:=by
 intro t ht
 rw [Go.Sort.size_flatK,hd] at ht
 have hk:0<K.length:=by
  rcases Nat.eq_zero_or_pos K.length with h | h
  ·rw [h] at ht; simp at ht
  ·exact h
 have hq:t / K.length<rows.length:=Nat.div_lt_of_lt_mul (by rw [Nat.mul_comm]; exact ht)
 rw [Go.Sort.get_flatK _ _ _ _ (by rw [hd]; exact ht),hi _ hq]
 have hx:(rows.map (gCells K))[t / K.length]? = some (gCells K (elS rows (t / K.length))):=by
  rw [List.getElem?_map,List.getElem?_eq_getElem hq]
  simp [elS,List.getD_eq_getElem?_getD,hq]
 have:=cells_solid hs (relRows_get hr hx).2 (t%K.length) (Nat.mod_lt _ hk)
 refine ⟨?_,?_⟩
 ·rw [show 0 + t = 0 + t / K.length * K.length + t % K.length by rw [Nat.zero_add, Nat.zero_add, Nat.mul_comm, Nat.div_add_mod]]
  exact this
 ·obtain ⟨cs, el, h1, _⟩ := hrow
  simp [World.frozen?,h1]
theorem heap_mapBlock_other {w:World} {blk:Nat} {f:Array Value→Array Value} {x:Nat} (h:x≠blk):(Go.Sort.mapBlock w blk f).heap[x]? = w.heap[x]? := by
 simp [Go.Sort.mapBlock,Array.getElem?_modify,Ne.symm h]
theorem sorted_env {E:Env} (HE:HRel E) {K:List Kd} {rows rows':List (List G)} {b m:Nat} (hs:Kd.solidL K=true) (hH:E.H=[.vec K.length 0 (rows.map (gCells K))]) (hl:E.loc[0]? = some (some (b,m))) (hrow:isRow E.w b (m*K.length))
  (hr:relRows E K.length (rows.map (gCells K)) b 0) (hm:rows'.length≤m) {w':World} (hsize:E.w.heap.size≤w'.heap.size) (hsame:∀ x,x<E.w.heap.size→x≠b→w'.heap[x]? = E.w.heap[x]?) (hrow':isRow w' b (m*K.length))
  (hcells:∀ i c,i<rows'.length→c<K.length→w'.cell? ⟨b,i*K.length+c,none⟩=some (vCells K (rows'.getD i []))[c]!) (henv:SameOs E.w w') :
  OpPost E (.tuple []) [.vec K.length 0 (rows'.map (gCells K))] (.tuple #[]) w':=by
 have h0:E.H[0]? = some (AObj.vec K.length 0 (rows.map (gCells K))):=by rw [hH]; rfl
 have hne:∀ x,x<E.w.heap.size→(∀ n,E.loc[0]? ≠ some (some (x,n)))→w'.heap[x]? = E.w.heap[x]? := fun x hx hn=>hsame x hx fun e=>hn m (by rw [hl,e])
 have eset:E.H.set 0 (AObj.vec K.length 0 (rows'.map (gCells K)))=[.vec K.length 0 (rows'.map (gCells K))]:=by rw [hH]; rfl
 have lset:E.loc.set 0 (some (b,m))=E.loc:=by
  apply List.ext_getElem?
  intro i
  rw [List.getElem?_set]
  split
  ·rename_i e
   subst e
   split
   ·exact hl.symm
   ·rename_i h; exact (h (lt_of_getElem? hl)).elim
  ·rfl
 have hver:(∀ v,(AObj.vec K.length 0 (rows'.map (gCells K))).ver? = some v→(AObj.vec K.length 0 (rows.map (gCells K))).ver? = some v∧E.loc[0]? = some (some (b,m))):=fun v hv=>⟨hv,hl⟩
 have hup:∀ v u,(AObj.vec K.length 0 (rows'.map (gCells K))).ver? = some v→(AObj.vec K.length 0 (rows.map (gCells K))).ver? = some u→u≤v:=fun v u hv hu=>by
  simp only [AObj.ver?,Option.some.injEq] at hv hu
  omega
 have hle:=Env.le_turn (E:=E) (w':=w') (id:=0) (o:=.vec K.length 0 (rows.map (gCells K))) (o':=.vec K.length 0 (rows'.map (gCells K))) (l:=some (b,m)) h0 HE.len hsize hne (fun b' n' e=>.inr ⟨m,by cases e; exact hl⟩) (.inl hver) hup (fun h=>by simp [AObj.ver?] at h) henv
 have hobj:objRel { w:=w',H:=E.H.set 0 (AObj.vec K.length 0 (rows'.map (gCells K))),loc:=E.loc.set 0 (some (b,m)),X:=E.X } 0 (.vec K.length 0 (rows'.map (gCells K))):=by
  simp only [objRel]
  refine .inr ⟨b,m,by rw [lset]; exact hl,hrow',by simpa using hm,?_,?_⟩
  ·intro r hr
   obtain ⟨x,_,rfl⟩:=List.mem_map.1 hr
   exact gCells_closed _ _
  ·rw [relRows_iff]
   intro i r hi
   rw [List.getElem?_map] at hi
   cases hx:rows'[i]? with
   | none=>rw [hx] at hi; cases hi
   | some x =>
    rw [hx] at hi
    cases hi
    refine ⟨gCells_length _ _,?_⟩
    rw [relCells_iff]
    intro c a ha
    have hc:c<K.length:=by have:=lt_of_getElem? ha; rwa [gCells_length] at this
    have hlt:=lt_of_getElem? hx
    have hget:rows'.getD i []=x:=by rw [List.getD_eq_getElem?_getD,hx]; rfl
    have hv:(vCells K x)[c]? = some (vCells K x)[c]! := by rw [List.getElem?_eq_getElem (by rw [vCells_length]; exact hc),getElem!_pos _ c (by rw [vCells_length]; exact hc)]
    refine ⟨(vCells K x)[c]!,?_,(vCells_one K x _ (List.mem_of_getElem? hv)).1,?_⟩
    ·have := hcells i c hlt hc
     rw [hget] at this
     rw [show 0+i*K.length+c=i*K.length+c by omega]
     exact this
    ·exact (relList_iff.1 (rel_solidV x hs)).2 c a _ ha hv
 have hH':=HRel.turn HE h0 hsize hne (fun b' n' e=>.inr ⟨m,by cases e; exact hl⟩) (.inl hver) hup (fun h=>by simp [AObj.ver?] at h) hobj henv
 rw [eset,lset] at hle hH'
 exact ⟨E.loc,E.X.r,by simp [rel,rLs],hH',hle⟩
theorem sortK_call (L:SlLaysF0.n6 P ρ) (K:List Kd) (hs:Kd.solidL K=true) (aE:∀ w,(isAgg (ρ.t 24)).run P w=.ok true w) (zE:∀ w,(Go.sizeOf (ρ.t 24)).run P w=.ok K.length w) (g:FuncId) (hg:hasBody P g=true)
  (C:List G→Option (List G)) (hC:∀ d r,C d=some r→@ACallX drT P g (mkS [] [.s (.row K),.s (.row K)] d) [] (oneA (mkS [] [.s (.int .i64)] r)) []) (d r:List G) (h:sortG C d=some r) :
  ACallX P (ρ.f 6) (mkS (osOf [.vec K 0] d) [.s (.vec 0 K.length),.s (.fn g)] (dropT 1 d)) (denH (mkOs (osOf [.vec K 0] d) [.vec K 0] d)) (oneA []) (denH (mkOs (osOf [.vec K 0] r) [.vec K 0] r)):=by
 have e1:gi d 0=d.headD default:=rfl
 intro E cargs hH HE hargs
 simp only [mkS,mkSh,mk0,osOf,mkOs,mkO,denH,List.map_cons,List.map_nil,TObj.den,OInfo.ver,OInfo.len,List.getD_cons_zero,←e1] at hH hargs
 obtain ⟨cs⟩:=cargs
 match cs,hargs with
 | [c0,c1],hargs =>
 simp only [rLs,and_true] at hargs
 obtain ⟨h0,h1⟩:=hargs
 simp only [rel,rLs] at h1
 obtain ⟨cb,rfl,hcb⟩:=h1
 have hcb:cb=#[]:=by
  obtain ⟨cb⟩:=cb
  cases cb with
  | nil=>rfl
  | cons x l=>simp [rLs] at hcb
 subst hcb
 simp only [rel] at h0
 obtain ⟨⟨base,cap,rfl,hcap,hbase⟩,_,hlive⟩:=h0
 have hl0:E.H[0]? = some (AObj.vec K.length 0 ((gi d 0).rows.map (gCells K))):=by rw [hH]; rfl
 obtain ⟨hn,hv⟩:=hlive ⟨_,hl0,rfl⟩
 unfold sortG at h
 split at h
 ·rename_i hz
  cases h
  have hH':E.H=[AObj.vec K.length 0 []]:=by rw [hH,hz]; rfl
  rw [hz]
  refine (AnyF.slices_SortFunc_none L base cap _ E.w).mono ?_
  rintro e w' ⟨rfl,rfl⟩
  refine ⟨_,.tuple [],[AObj.vec K.length 0 []],rfl,⟨rfl,rfl⟩,E.loc,E.X.r,by simp [rel,rLs],?_,?_⟩
  ·rw [← hH']
   exact HE
  ·rw [← hH']
   exact Env.le.refl E
 ·rename_i hz
  split at h
  case isFalse=>cases h
  rename_i hok
  cases h
  have hpos:0<(gi d 0).rows.length:=List.length_pos_iff.2 hz
  rcases HE.obj 0 _ hl0 with ⟨_,e2⟩ | ⟨b,m,hl,hrow,hm,hcl,hr⟩
  ·exact (hz (by simpa using e2)).elim
  obtain ⟨_,o,ho,hc⟩:=hv b m hl
  have hmm:(gi d 0).rows.length≤m:=by simpa using hm
  have ho:o=0:=by have:=ho (by omega); omega
  subst ho
  generalize hrs:(gi d 0).rows=rows at *
  rw [hc]
  have hd:(Array.range rows.length).size=rows.length:=Array.size_range
  have hdi:∀ i,i<rows.length→(Array.range rows.length)[i]! = i:=fun i hi=>by rw [getElem!_pos _ i (by rw [hd]; exact hi)]; simp
  have hH0:=holds_rows hs hrow hr (Array.range rows.length) hd hdi
  have hblk:b<E.w.heap.size:=(HE.lt 0 b m hl).1
  have hcmp:CmpLays P g #[] (fun i=>vCells K (elS rows i)) K.length (numC C rows) b 0 (Array.range rows.length).size E.w:=by
   intro mm os dk _ x y
   obtain ⟨n,hn⟩:=hok.ans _ (elS_mem hz x) _ (elS_mem hz y)
   have:=hC _ _ hn
   simp only [mkS,mkSh,mk0,dropT,Sh.sz,Sh0.sz,List.headD_cons,List.tail_cons,oneA,G.row,G.rows,G.int] at this
   have e:numC C rows x y=n:=by
    simp only [numC,cmpZ,hn]
    rfl
   rw [e]
   have ht:HTab (bare (Go.Proofs.sortWorldK (fun i=>vCells K (elS rows i)) K.length E.w b 0 mm dk os)):=fun p hp=>by
    obtain ⟨h1,t,f,h2⟩:=HE.tab p hp
    have hne:p.1≠b:=fun e=>h1.2.1 (.inl ⟨0,m,by rw [e]; exact hl⟩)
    have hsame:(Go.Proofs.sortWorldK (fun i=>vCells K (elS rows i)) K.length E.w b 0 mm dk os).heap[p.1]? = E.w.heap[p.1]? := by
     unfold Go.Proofs.sortWorldK Go.Sort.putRowK Go.Sort.putRow Go.Sort.grow
     simp only []
     rw [Array.getElem?_append_left (by simpa [Go.Sort.mapBlock,Go.Sort.ahead] using h1.1),heap_mapBlock_other hne]
     rfl
    refine ⟨⟨(Array.getElem?_eq_some_iff.1 (hsame.trans h2)).1,?_,fun h=>h⟩,t,f,by rw [←h2]; exact hsame⟩
    rintro (⟨i,c,hi⟩ | ⟨l,k,c,hk⟩)
    ·simp [bare] at hi
    ·simp [bare,noR] at hk
   exact calls_int this _ ht (by
    simp only [rLs,rel,and_true,Array.toList_append,List.append_nil]
    exact ⟨⟨_,rfl,fun v hv=>(vCells_one K _ v hv).1,rel_solidV _ hs⟩,⟨_,rfl,fun v hv=>(vCells_one K _ v hv).1,rel_solidV _ hs⟩⟩)
  have:=AnyQ.slices_SortFunc_eq L K.length aE zE (fun i=>vCells K (elS rows i)) (fun x=>vCells_length _ _) (fun x v hv=>(vCells_one K _ v hv).2) (numC C rows) hok.swo g #[] b 0 (m-0) (Array.range rows.length) E.w
   (fun args w=>run_callFunc hg args w) hcmp hH0 hblk (by rw [hd]; exact hok.small)
  rw [hd] at this
  refine this.mono ?_
  rintro e w' ⟨rfl,n,os,rfl⟩
  refine ⟨_,.tuple [],_,rfl,⟨rfl,rfl⟩,?_⟩
  have eN:Go.Sort.pdq (ltOf (numC C rows)) (Array.range rows.length) 0 rows.length (Lib.bitLen rows.length) true true=sortN C rows:=by
   unfold sortN
   rw [hd]
  rw [eN]
  have hsz:=sortN_size hok
  have hlen:(sortL C rows).length=rows.length:=(sortL_perm hok).length_eq
  have hh:=holdsK_sortWorldK_c (fun i=>vCells K (elS rows i)) K.length E.w b 0 (Array.range rows.length) (sortN C rows) n os hH0 hblk (by rw [hsz,hd])
  refine sorted_env (rows':=sortL C rows) HE hs hH hl hrow hr (by rw [hlen]; exact hmm) ?_ ?_ ?_ ?_ ?_
  ·unfold Go.Proofs.sortWorldK Go.Sort.putRowK
   rw [Go.Sort.size_grow,Go.Sort.size_putRow]
   show E.w.heap.size≤E.w.heap.size+_
   omega
  ·intro x hx hxb
   unfold Go.Proofs.sortWorldK Go.Sort.putRowK Go.Sort.putRow Go.Sort.grow
   simp only []
   rw [Array.getElem?_append_left (by simpa [Go.Sort.mapBlock,Go.Sort.ahead] using hx),heap_mapBlock_other hxb]
   rfl
  ·obtain ⟨cs, el, g1, g2⟩ := hrow
   unfold Go.Proofs.sortWorldK Go.Sort.putRowK Go.Sort.putRow Go.Sort.grow
   unfold isRow
   simp only []
   rw [Array.getElem?_append_left (by simpa [Go.Sort.mapBlock,Go.Sort.ahead] using hblk)]
   simp only [Go.Sort.mapBlock,Go.Sort.ahead,Array.getElem?_modify,if_true,g1,Option.map_some]
   exact ⟨_,_,rfl,by simp [Go.Sort.putCells,g2]⟩
  ·intro i c hi hc
   rw [hlen] at hi
   have:=(hh.cell (i:=i) (c:=c) (by rw [hsz]; exact hi) hc).1
   rw [Nat.zero_add] at this
   rw [this]
   congr 2
   have hi':i<(sortN C rows).size:=by rw [hsz]; exact hi
   simp only [sortL,List.getD_eq_getElem?_getD,List.getElem?_map,Array.getElem?_toList]
   rw [Array.getElem?_eq_getElem hi',getElem!_pos _ i hi']
   rfl
  ·exact ⟨rfl,rfl,rfl,fun _=>Nat.le_add_right _ _⟩
end
end Go.AL
