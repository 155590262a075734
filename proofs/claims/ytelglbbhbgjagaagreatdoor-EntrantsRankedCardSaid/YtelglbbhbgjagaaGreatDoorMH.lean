/-
 What is proved here: the library's sort of a slice by a function that compares,as a function on data (by the kit's own contracts). No program in sight; what is asked is that the library's text lies in the program.
-/
import Derived.Test.YtelglbbhbgjagaaGreatDoorMG
import Derived.Shelf.SlSortCmp.NoneTotal
set_option linter.all false
namespace Go.AL
open Go Go.Proofs
variable [Dr]
theorem vCells_length:∀ (ks:List Kd) (r:List G),(vCells ks r).length=ks.length
 | [],_=>rfl
 | _::ks,r=>by simp [vCells,vCells_length ks]
theorem vCell_one:∀ (k:Kd) (g:G),one1 (vCell k g)=true∧(vCell k g).oneCell'=true
 | .int _,_=>⟨rfl,rfl⟩
 | .str,_=>⟨rfl,rfl⟩
 | .bool,_=>⟨rfl,rfl⟩
 | .list _,_=>⟨rfl,rfl⟩
theorem vCells_one:∀ (ks:List Kd) (r:List G),∀ v∈vCells ks r,one1 v=true∧v.oneCell'=true
 | [],_,v,h=>by simp [vCells] at h
 | k::ks,r,v,h=>by
  simp only [vCells,List.mem_cons] at h
  rcases h with rfl | h
  ·exact vCell_one _ _
  ·exact vCells_one ks r.tail v h
theorem rel_vCells {E:Env}:∀ {ks:List Kd} {r:List G} {vs:List Value},Kd.solidL ks=true→(rLs E (gCells ks r) vs↔vs=vCells ks r)
 | [],r,[],_=>by simp [gCells,rLs,vCells]
 | [],r,_::_,_=>by simp [gCells,rLs,vCells]
 | _::_,r,[],_=>by simp [gCells,rLs,vCells]
 | .list _::_,_,_::_,h=>by simp [Kd.solidL] at h
 | .int k::ks,r,v::vs,h=>by
  simp only [Kd.solidL] at h
  simp only [gCells,rLs,rel_vCells (ks:=ks) h,vCells,gCell,vCell,rel,List.cons.injEq]
 | .str::ks,r,v::vs,h=>by
  simp only [Kd.solidL] at h
  simp only [gCells,rLs,rel_vCells (ks:=ks) h,vCells,gCell,vCell,rel,List.cons.injEq]
 | .bool::ks,r,v::vs,h=>by
  simp only [Kd.solidL] at h
  simp only [gCells,rLs,rel_vCells (ks:=ks) h,vCells,gCell,vCell,rel,List.cons.injEq]
theorem rel_solidV {E:Env} {ks:List Kd} (r:List G) (h:Kd.solidL ks=true):rLs E (gCells ks r) (vCells ks r):=(rel_vCells h).2 rfl
theorem cells_solid {E:Env} {ks:List Kd} {r:List G} {b o:Nat} (hs:Kd.solidL ks=true) (h:relCells E (gCells ks r) b o):∀ c,c<ks.length→E.w.cell? ⟨b,o+c,none⟩=some (vCells ks r)[c]! := by
 obtain ⟨vs,h1,_,h3⟩:=relCells_values h
 have e:=(rel_vCells hs).1 h1
 subst e
 intro c hc
 refine h3 c _ ?_
 rw [List.getElem?_eq_getElem (by rw [vCells_length]; exact hc),getElem!_pos _ c (by rw [vCells_length]; exact hc)]
def bare (w:World):Env:={ w:=w,H:=[],loc:=[],X:=⟨fun _=>False,fun _=>False,noR⟩ }
def cmpZ (C:List G→Option (List G)) (r s:List G):Int:=(gi ((C [.l [r],.l [s]]).getD []) 0).int
def elS (rows:List (List G)) (i:Nat):List G:=rows.getD i (rows.headD [])
abbrev numC (C:List G→Option (List G)) (rows:List (List G)) (i j:Nat):Int:=cmpZ C (elS rows i) (elS rows j)
structure SortOK (C:List G→Option (List G)) (rows:List (List G)):Prop where
 ans:∀ r∈rows,∀ s∈rows,∃ n,C [.l [r],.l [s]]=some [.i n]
 swo:Go.Sort.SWO (ltOf (numC C rows))
 small:rows.length<4611686018427387904
section
variable {P:Program} {ρ:Go.Shelf.Ren}
theorem heap_mapBlock_other {w:World} {blk:Nat} {f:Array Value→Array Value} {x:Nat} (h:x≠blk):(Go.Sort.mapBlock w blk f).heap[x]? = w.heap[x]? := by
 simp [Go.Sort.mapBlock,Array.getElem?_modify,Ne.symm h]
theorem sorted_env {E:Env} (HE:HRel E) {K:List Kd} {rows rows':List (List G)} {b m:Nat} (hs:Kd.solidL K=true) (hH:E.H=[.vec K.length 0 (rows.map (gCells K))]) (hl:E.loc[0]? = some (some (b,m))) (hrow:isRow E.w b (m*K.length))
  (hr:relRows E K.length (rows.map (gCells K)) b 0) (hm:rows'.length≤m) {w':World} (hsize:E.w.heap.size≤w'.heap.size) (hsame:∀ x,x<E.w.heap.size→x≠b→w'.heap[x]? = E.w.heap[x]?) (hrow':isRow w' b (m*K.length))
  (hcells:∀ i c,i<rows'.length→c<K.length→w'.cell? ⟨b,i*K.length+c,none⟩=some (vCells K (rows'.getD i []))[c]!) (henv:SameOs E.w w') :
  OpPost E (.tuple []) [.vec K.length 0 (rows'.map (gCells K))] (.tuple #[]) w':=by
 have h0:E.H[0]? = some (AObj.vec K.length 0 (rows.map (gCells K))):=by rw [hH]; rfl
 have hne:∀ x,x<E.w.heap.size→(∀ n,E.loc[0]? ≠ some (some (x,n)))→w'.heap[x]? = E.w.heap[x]? := fun x hx hn=>hsame x hx fun e=>hn m (by rw [hl,e])
 have eset:E.H.set 0 (AObj.vec K.length 0 (rows'.map (gCells K)))=[.vec K.length 0 (rows'.map (gCells K))]:=by rw [hH]; rfl
 have lset:E.loc.set 0 (some (b,m))=E.loc:=by
  apply List.ext_getElem?
  intro i
  rw [List.getElem?_set]
  split
  ·rename_i e
   subst e
   split
   ·exact hl.symm
   ·rename_i h; exact (h (lt_of_getElem? hl)).elim
  ·rfl
 have hver:(∀ v,(AObj.vec K.length 0 (rows'.map (gCells K))).ver? = some v→(AObj.vec K.length 0 (rows.map (gCells K))).ver? = some v∧E.loc[0]? = some (some (b,m))):=fun v hv=>⟨hv,hl⟩
 have hup:∀ v u,(AObj.vec K.length 0 (rows'.map (gCells K))).ver? = some v→(AObj.vec K.length 0 (rows.map (gCells K))).ver? = some u→u≤v:=fun v u hv hu=>by
  simp only [AObj.ver?,Option.some.injEq] at hv hu
  omega
 have hle:=Env.le_turn (E:=E) (w':=w') (id:=0) (o:=.vec K.length 0 (rows.map (gCells K))) (o':=.vec K.length 0 (rows'.map (gCells K))) (l:=some (b,m)) h0 HE.len hsize hne (fun b' n' e=>.inr ⟨m,by cases e; exact hl⟩) (.inl hver) hup (fun h=>by simp [AObj.ver?] at h) henv
 have hobj:objRel { w:=w',H:=E.H.set 0 (AObj.vec K.length 0 (rows'.map (gCells K))),loc:=E.loc.set 0 (some (b,m)),X:=E.X } 0 (.vec K.length 0 (rows'.map (gCells K))):=by
  simp only [objRel]
  refine .inr ⟨b,m,by rw [lset]; exact hl,hrow',by simpa using hm,?_,?_⟩
  ·intro r hr
   obtain ⟨x,_,rfl⟩:=List.mem_map.1 hr
   exact gCells_closed _ _
  ·rw [relRows_iff]
   intro i r hi
   rw [List.getElem?_map] at hi
   cases hx:rows'[i]? with
   | none=>rw [hx] at hi; cases hi
   | some x =>
    rw [hx] at hi
    cases hi
    refine ⟨gCells_length _ _,?_⟩
    rw [relCells_iff]
    intro c a ha
    have hc:c<K.length:=by have:=lt_of_getElem? ha; rwa [gCells_length] at this
    have hlt:=lt_of_getElem? hx
    have hget:rows'.getD i []=x:=by rw [List.getD_eq_getElem?_getD,hx]; rfl
    have hv:(vCells K x)[c]? = some (vCells K x)[c]! := by rw [List.getElem?_eq_getElem (by rw [vCells_length]; exact hc),getElem!_pos _ c (by rw [vCells_length]; exact hc)]
    refine ⟨(vCells K x)[c]!,?_,(vCells_one K x _ (List.mem_of_getElem? hv)).1,?_⟩
    ·have := hcells i c hlt hc
     rw [hget] at this
     rw [show 0+i*K.length+c=i*K.length+c by omega]
     exact this
    ·exact (relList_iff.1 (rel_solidV x hs)).2 c a _ ha hv
 have hH':=HRel.turn HE h0 hsize hne (fun b' n' e=>.inr ⟨m,by cases e; exact hl⟩) (.inl hver) hup (fun h=>by simp [AObj.ver?] at h) hobj henv
 rw [eset,lset] at hle hH'
 exact ⟨E.loc,E.X.r,by simp [rel,rLs],hH',hle⟩
end
end Go.AL
