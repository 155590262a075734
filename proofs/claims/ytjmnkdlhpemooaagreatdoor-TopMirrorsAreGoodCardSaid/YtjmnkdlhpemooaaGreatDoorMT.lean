/-
 What is proved here: the library's sort of strings,as a function on data (by the kit's own contract). No program in sight; what is asked is that the library's text lies in the program.
-/
import Derived.Test.YtjmnkdlhpemooaaGreatDoorMH
import Derived.Shelf.SortM.Plain
import Derived.Shelf.SortM.SortNone
set_option linter.all false
open Array renaming getElem?_append_left→A2
open Go.Sort renaming grow→qA,mapBlock→o9,putRow→wV,ahead→o_
open List renaming length_map→cN,getElem?_map→bT,getElem?_eq_getElem→bt
open Option renaming map_some→dO
namespace Go.AL
open Go Go.Proofs
variable [Dr]
def gX(rows:List (List G)):List (List G):=((rows.map fun r=>(gi r 0).str.data.toList).mergeSort fun x y=>decide (x≤y)).map fun d=>[G.s ⟨d.toArray⟩]
def y8(d:List G):Option (List G):=bif Nat.blt (gi d 0).rows.length 1000000 then some [.l (gX (gi d 0).rows)] else none
theorem Dy(rows:List (List G)):(gX rows).length=rows.length:=by
 unfold gX;rw[cN,List.length_mergeSort,cN]
section
variable {P:Program} {ρ:Go.Shelf.Ren}
theorem Xa(L:SlLaysM.n6 P ρ)(d r:List G)(h:y8 d=some r) :
  dB P (ρ.f 6) (eY (ct [.vec [.str] 0] d) [.s (.vec 0 1)] (eg 1 d)) (aj (cF (ct [.vec [.str] 0] d) [.vec [.str] 0] d)) (df []) (aj (cF (ct [.vec [.str] 0] r) [.vec [.str] 0] r)):=by
 have e1:gi d 0=d.headD default:=rfl;have W:Kd.cw [.str]=true:=rfl;intro E cargs hH HE k;simp only[eY,n3,eF,ct,cF,eZ,aj,List.map_cons,List.map_nil,ah.den,c6.ad,c6.len,List.getD_cons_zero,←e1]at hH k⊢;obtain⟨cs⟩:=cargs
 match cs,k with
 | [c0],k =>
 simp only[af,and_true]at k;simp only[rel]at k;obtain⟨⟨base,cap,rfl,hcap,hbase⟩,_,hlive⟩:=k;have M:E.H[0]? = some (ab.vec ([Kd.str]:List Kd).length 0 ((gi d 0).rows.map (aH [.str]))):=by rw[hH]; rfl
 obtain⟨hn,hv⟩:=hlive ⟨_,M,rfl⟩;unfold y8 at h;cases hlen:Nat.blt (gi d 0).rows.length 1000000 with
 |false=>rw[hlen]at h; cases h
 |true =>
 rw[hlen]at h;cases h;have hlt:(gi d 0).rows.length<1000000:=by simpa using hlen
 by_cases q:(gi d 0).rows=[]
 ·have N : E.H = [ab.vec ([Kd.str] : List Kd).length 0 []] := by rw [hH, q]; rfl
  rw[q];refine(AnyM.slices_Sort_string_none L base cap E.w).mono ?_;rintro e w' ⟨rfl,rfl⟩;refine⟨_,.tuple [],[ab.vec ([Kd.str]:List Kd).length 0 []],rfl,⟨rfl,?_⟩,E.loc,E.X.r,by simp[rel,af],?_,?_⟩
  ·simp[gX,G.rows]
  ·rw [← N]
   exact HE
  ·rw [← N]
   exact Env.le.refl E
 ·have hpos : 0 < (gi d 0).rows.length := List.length_pos_iff.2 q
  rcases HE.obj 0 _ M with⟨_,e2⟩|⟨b,m,B,v,hm,hcl,hr⟩
  ·exact(q (by simpa using e2)).elim
  obtain⟨_,o,ho,I⟩:=hv b m B;have hmm:(gi d 0).rows.length≤m:=by simpa using hm
  have ho:o=0:=by have:=ho (by omega); omega
  subst ho;generalize hrs:(gi d 0).rows=rows at *;rw[I];have hblk:b<E.w.heap.size:=(HE.lt 0 b m B).1;have hcell:∀ j x,rows[j]? = some x→E.w.cell? ⟨b,0+j,none⟩=some (.string (gi x 0).str):=fun j x u=>by
   have J:(rows.map (aH [.str]))[j]? = some (aH [.str] x):=by rw[bT,u]; rfl
   have:=Lx W (lC hr J).2 0 (by decide);rw[show (dj [Kd.str] x)[0]! = Value.string (gi x 0).str from rfl]at this;simpa using this
  have O:Go.Sort.Holds encStr E.w b 0 (rows.map fun r=>(gi r 0).str.data.toList).toArray:=by
   intro j u;have hj':j<rows.length:=by simpa using u
   refine⟨?_,?_⟩
   ·rw [hcell j _ (bt hj'), getElem!_pos _ j u]
    simp[encStr]
   ·obtain ⟨cs, el, h1, _⟩ := v
    simp[World.frozen?,h1]
  have U:=AnyM.slices_Sort_string L b 0 (m-0) (rows.map fun r=>(gi r 0).str.data.toList) E.w O hblk (by simp; omega);rw[cN]at U;refine U.mono ?_;rintro e w' ⟨rfl,n,os,rfl⟩;refine⟨_,.tuple [],_,rfl,⟨rfl,rfl⟩,?_⟩;have hh:=Go.Sort.holds_grow encStr _ os b 0 _ (by show b<(wV _ (o_ E.w n) b 0 _).heap.size; rw[size_putRow]; exact hblk) (Go.Sort.holds_putRow encStr (o_ E.w n) b 0 _ ((rows.map fun r=>(gi r 0).str.data.toList).mergeSort fun x y=>decide (x≤y)).toArray O (by simp));refine LA (K:=[.str]) (rows':=gX rows) HE W hH B v hr (by rw[Dy]; exact hmm) ?_ ?_ ?_ ?_ ?_
  ·rw [Go.Sort.size_grow, size_putRow]
   show E.w.heap.size≤E.w.heap.size+_
   omega
  ·intro x J hxb
   unfold wV qA;simp only[];rw[A2 (by simpa[o9,o_]using J),Dx hxb];rfl
  ·obtain ⟨cs, el, g1, g2⟩ := v
   unfold wV qA;unfold isRow;simp only[];rw[A2 (by simpa[o9,o_]using hblk)];simp only[o9,o_,Array.getElem?_modify,if_true,g1,dO];exact⟨_,_,rfl,by simp[Go.Sort.putCells,g2]⟩
  ·intro i c hi I
   rw[Dy]at hi;have hc0:c=0:=by simpa using I
   subst hc0;have:=(hh i (by simpa using hi)).1;rw[show i*([Kd.str]:List Kd).length+0=0+i by simp];rw[this];have V:i<((rows.map fun r=>(gi r 0).str.data.toList).mergeSort fun x y=>decide (x≤y)).length:=by simpa using hi
   rw[getElem!_pos _ i (by simpa using V)];simp only[gX,List.getD_eq_getElem?_getD,bT,bt V,dO,Option.getD_some,List.getElem_toArray];rfl
  ·exact⟨rfl,rfl,rfl,fun _=>Nat.le_add_right _ _⟩
end
end Go.AL
