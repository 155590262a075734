/-
 What is proved here: the library's sort of numbers,as a function on data (by the kit's own contract). No program in sight; what is asked is that the library's text lies in the program.
-/
import Derived.Test.YtelglbbhbgjagaaGreatDoorMH
import Derived.Shelf.SortM.Plain
import Derived.Shelf.SortM.SortNone
set_option linter.all false
namespace Go.AL
open Go Go.Proofs
variable [Dr]
def sortedI (rows:List (List G)):List (List G):=((rows.map fun r=>(gi r 0).int).mergeSort fun x y=>decide (x≤y)).map fun n=>[G.i n]
def sortIG (d:List G):Option (List G):=bif Nat.blt (gi d 0).rows.length 1000000 then some [.l (sortedI (gi d 0).rows)] else none
theorem sortedI_length (rows:List (List G)):(sortedI rows).length=rows.length:=by
 unfold sortedI
 rw [List.length_map,List.length_mergeSort,List.length_map]
section
variable {P:Program} {ρ:Go.Shelf.Ren}
theorem sortI_call (L:SlLaysM.n5 P ρ) (d r:List G) (h:sortIG d=some r) :
  ACallX P (ρ.f 5) (mkS (osOf [.vec [.int .i64] 0] d) [.s (.vec 0 1)] (dropT 1 d)) (denH (mkOs (osOf [.vec [.int .i64] 0] d) [.vec [.int .i64] 0] d)) (oneA []) (denH (mkOs (osOf [.vec [.int .i64] 0] r) [.vec [.int .i64] 0] r)):=by
 have e1:gi d 0=d.headD default:=rfl
 have hs:Kd.solidL [.int .i64]=true:=rfl
 intro E cargs hH HE hargs
 simp only [mkS,mkSh,mk0,osOf,mkOs,mkO,denH,List.map_cons,List.map_nil,TObj.den,OInfo.ver,OInfo.len,List.getD_cons_zero,←e1] at hH hargs ⊢
 obtain ⟨cs⟩:=cargs
 match cs,hargs with
 | [c0],hargs =>
 simp only [rLs,and_true] at hargs
 simp only [rel] at hargs
 obtain ⟨⟨base,cap,rfl,hcap,hbase⟩,_,hlive⟩:=hargs
 have hl0:E.H[0]? = some (AObj.vec ([Kd.int .i64]:List Kd).length 0 ((gi d 0).rows.map (gCells [.int .i64]))):=by rw [hH]; rfl
 obtain ⟨hn,hv⟩:=hlive ⟨_,hl0,rfl⟩
 unfold sortIG at h
 cases hlen:Nat.blt (gi d 0).rows.length 1000000 with
 | false=>rw [hlen] at h; cases h
 | true =>
 rw [hlen] at h
 cases h
 have hlt:(gi d 0).rows.length<1000000:=by simpa using hlen
 by_cases hz:(gi d 0).rows=[]
 ·have hH' : E.H = [AObj.vec ([Kd.int .i64] : List Kd).length 0 []] := by rw [hH, hz]; rfl
  rw [hz]
  refine (AnyM.slices_Sort_int_none L base cap E.w).mono ?_
  rintro e w' ⟨rfl,rfl⟩
  refine ⟨_,.tuple [],[AObj.vec ([Kd.int .i64]:List Kd).length 0 []],rfl,⟨rfl,?_⟩,E.loc,E.X.r,by simp [rel,rLs],?_,?_⟩
  ·simp [sortedI,G.rows]
  ·rw [← hH']
   exact HE
  ·rw [← hH']
   exact Env.le.refl E
 ·have hpos : 0 < (gi d 0).rows.length := List.length_pos_iff.2 hz
  rcases HE.obj 0 _ hl0 with ⟨_,e2⟩ | ⟨b,m,hl,hrow,hm,hcl,hr⟩
  ·exact (hz (by simpa using e2)).elim
  obtain ⟨_,o,ho,hc⟩:=hv b m hl
  have hmm:(gi d 0).rows.length≤m:=by simpa using hm
  have ho:o=0:=by have:=ho (by omega); omega
  subst ho
  generalize hrs:(gi d 0).rows=rows at *
  rw [hc]
  have hblk:b<E.w.heap.size:=(HE.lt 0 b m hl).1
  have hcell:∀ j x,rows[j]? = some x→E.w.cell? ⟨b,0+j,none⟩=some (.int .i64 (gi x 0).int):=fun j x hj=>by
   have hx:(rows.map (gCells [.int .i64]))[j]? = some (gCells [.int .i64] x):=by rw [List.getElem?_map,hj]; rfl
   have:=cells_solid hs (relRows_get hr hx).2 0 (by decide)
   rw [show (vCells [Kd.int .i64] x)[0]! = Value.int .i64 (gi x 0).int from rfl] at this
   simpa using this
  have hH0:Go.Sort.Holds (Value.int .i64) E.w b 0 (rows.map fun r=>(gi r 0).int).toArray:=by
   intro j hj
   have hj':j<rows.length:=by simpa using hj
   refine ⟨?_,?_⟩
   ·rw [hcell j _ (List.getElem?_eq_getElem hj'), getElem!_pos _ j hj]
    simp
   ·obtain ⟨cs, el, h1, _⟩ := hrow
    simp [World.frozen?,h1]
  have hc5:=AnyM.slices_Sort_int L b 0 (m-0) (rows.map fun r=>(gi r 0).int) E.w hH0 hblk (by simp; omega)
  rw [List.length_map] at hc5
  refine hc5.mono ?_
  rintro e w' ⟨rfl,n,os,rfl⟩
  refine ⟨_,.tuple [],_,rfl,⟨rfl,rfl⟩,?_⟩
  have hh:=Go.Sort.holds_grow (Value.int .i64) _ os b 0 _ (by show b<(Go.Sort.putRow _ (Go.Sort.ahead E.w n) b 0 _).heap.size; rw [size_putRow]; exact hblk) (Go.Sort.holds_putRow (Value.int .i64) (Go.Sort.ahead E.w n) b 0 _ ((rows.map fun r=>(gi r 0).int).mergeSort fun x y=>decide (x≤y)).toArray hH0 (by simp))
  refine sorted_env (K:=[.int .i64]) (rows':=sortedI rows) HE hs hH hl hrow hr (by rw [sortedI_length]; exact hmm) ?_ ?_ ?_ ?_ ?_
  ·rw [Go.Sort.size_grow, size_putRow]
   show E.w.heap.size≤E.w.heap.size+_
   omega
  ·intro x hx hxb
   unfold Go.Sort.putRow Go.Sort.grow
   simp only []
   rw [Array.getElem?_append_left (by simpa [Go.Sort.mapBlock,Go.Sort.ahead] using hx),heap_mapBlock_other hxb]
   rfl
  ·obtain ⟨cs, el, g1, g2⟩ := hrow
   unfold Go.Sort.putRow Go.Sort.grow
   unfold isRow
   simp only []
   rw [Array.getElem?_append_left (by simpa [Go.Sort.mapBlock,Go.Sort.ahead] using hblk)]
   simp only [Go.Sort.mapBlock,Go.Sort.ahead,Array.getElem?_modify,if_true,g1,Option.map_some]
   exact ⟨_,_,rfl,by simp [Go.Sort.putCells,g2]⟩
  ·intro i c hi hc
   rw [sortedI_length] at hi
   have hc0:c=0:=by simpa using hc
   subst hc0
   have:=(hh i (by simpa using hi)).1
   rw [show i*([Kd.int .i64]:List Kd).length+0=0+i by simp]
   rw [this]
   have hi':i<((rows.map fun r=>(gi r 0).int).mergeSort fun x y=>decide (x≤y)).length:=by simpa using hi
   rw [getElem!_pos _ i (by simpa using hi')]
   simp only [sortedI,List.getD_eq_getElem?_getD,List.getElem?_map,List.getElem?_eq_getElem hi',Option.map_some,Option.getD_some,List.getElem_toArray]
   rfl
  ·exact ⟨rfl,rfl,rfl,fun _=>Nat.le_add_right _ _⟩
end
end Go.AL
