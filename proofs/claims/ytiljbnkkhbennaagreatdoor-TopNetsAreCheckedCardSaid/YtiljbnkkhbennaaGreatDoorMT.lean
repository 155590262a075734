/-
 What is proved here: the library's sort of strings,as a function on data (by the kit's own contract). No program in sight; what is asked is that the library's text lies in the program.
-/
import Derived.Test.YtiljbnkkhbennaaGreatDoorMH
import Derived.Shelf.SortM.Plain
import Derived.Shelf.SortM.SortNone
set_option linter.all false
open Array renaming getElem?_append_left→Di
open Go.Sort renaming grow→sE,mapBlock→qP,putRow→y_,ahead→qQ
open List renaming length_map→cD,getElem?_map→bU,getElem?_eq_getElem→bf
open Option renaming map_some→eg
namespace Go.AL
open Go Go.Proofs
variable [Dr]
def iG(rows:List (List G)):List (List G):=((rows.map fun r=>(gi r 0).str.data.toList).mergeSort fun x y=>decide (x≤y)).map fun d=>[G.s ⟨d.toArray⟩]
def Bu(d:List G):Option (List G):=bif Nat.blt (gi d 0).rows.length 1000000 then some [.l (iG (gi d 0).rows)] else none
theorem F7(rows:List (List G)):(iG rows).length=rows.length:=by
 unfold iG;rw[cD,List.length_mergeSort,cD]
section
variable {P:Program} {ρ:Go.Shelf.Ren}
theorem aaJ(L:SlLaysM.n6 P ρ)(d r:List G)(h:Bu d=some r) :
  dC P (ρ.f 6) (fB (cC [.vec [.str] 0] d) [.s (.vec 0 1)] (eO 1 d)) (aj (cN (cC [.vec [.str] 0] d) [.vec [.str] 0] d)) (c9 []) (aj (cN (cC [.vec [.str] 0] r) [.vec [.str] 0] r)):=by
 have e1:gi d 0=d.headD default:=rfl;have hs:Kd.cH [.str]=true:=rfl;intro E cargs hH HE k;simp only[fB,pZ,fb,cC,cN,fC,aj,List.map_cons,List.map_nil,ah.den,dm.ae,dm.len,List.getD_cons_zero,←e1]at hH k⊢;obtain⟨cs⟩:=cargs
 match cs,k with
 | [c0],k =>
 simp only[af,and_true]at k;simp only[rel]at k;obtain⟨⟨base,cap,rfl,hcap,hbase⟩,_,hlive⟩:=k;have O:E.H[0]? = some (ad.vec ([Kd.str]:List Kd).length 0 ((gi d 0).rows.map (aH [.str]))):=by rw[hH]; rfl
 obtain⟨hn,hv⟩:=hlive ⟨_,O,rfl⟩;unfold Bu at h;cases hlen:Nat.blt (gi d 0).rows.length 1000000 with
 |false=>rw[hlen]at h; cases h
 |true =>
 rw[hlen]at h;cases h;have hlt:(gi d 0).rows.length<1000000:=by simpa using hlen
 by_cases q:(gi d 0).rows=[]
 ·have U : E.H = [ad.vec ([Kd.str] : List Kd).length 0 []] := by rw [hH, q]; rfl
  rw[q];refine(AnyM.slices_Sort_string_none L base cap E.w).mono ?_;rintro e w' ⟨rfl,rfl⟩;refine⟨_,.tuple [],[ad.vec ([Kd.str]:List Kd).length 0 []],rfl,⟨rfl,?_⟩,E.loc,E.X.r,by simp[rel,af],?_,?_⟩
  ·simp[iG,G.rows]
  ·rw [← U]
   exact HE
  ·rw [← U]
   exact Env.le.refl E
 ·have hpos : 0 < (gi d 0).rows.length := List.length_pos_iff.2 q
  rcases HE.obj 0 _ O with⟨_,e2⟩|⟨b,m,J,I,hm,hcl,hr⟩
  ·exact(q (by simpa using e2)).elim
  obtain⟨_,o,ho,M⟩:=hv b m J;have hmm:(gi d 0).rows.length≤m:=by simpa using hm
  have ho:o=0:=by have:=ho (by omega); omega
  subst ho;generalize hrs:(gi d 0).rows=rows at *;rw[M];have hblk:b<E.w.heap.size:=(HE.lt 0 b m J).1;have hcell:∀ j x,rows[j]? = some x→E.w.cell? ⟨b,0+j,none⟩=some (.string (gi x 0).str):=fun j x B=>by
   have N:(rows.map (aH [.str]))[j]? = some (aH [.str] x):=by rw[bU,B]; rfl
   have:=Oq hs (mR hr N).2 0 (by decide);rw[show (dA [Kd.str] x)[0]! = Value.string (gi x 0).str from rfl]at this;simpa using this
  have V:Go.Sort.Holds encStr E.w b 0 (rows.map fun r=>(gi r 0).str.data.toList).toArray:=by
   intro j B;have hj':j<rows.length:=by simpa using B
   refine⟨?_,?_⟩
   ·rw [hcell j _ (bf hj'), getElem!_pos _ j B]
    simp[encStr]
   ·obtain ⟨cs, el, h1, _⟩ := I
    simp[World.frozen?,h1]
  have W:=AnyM.slices_Sort_string L b 0 (m-0) (rows.map fun r=>(gi r 0).str.data.toList) E.w V hblk (by simp; omega);rw[cD]at W;refine W.mono ?_;rintro e w' ⟨rfl,n,os,rfl⟩;refine⟨_,.tuple [],_,rfl,⟨rfl,rfl⟩,?_⟩;have hh:=Go.Sort.holds_grow encStr _ os b 0 _ (by show b<(y_ _ (qQ E.w n) b 0 _).heap.size; rw[size_putRow]; exact hblk) (Go.Sort.holds_putRow encStr (qQ E.w n) b 0 _ ((rows.map fun r=>(gi r 0).str.data.toList).mergeSort fun x y=>decide (x≤y)).toArray V (by simp));refine Ov (K:=[.str]) (rows':=iG rows) HE hs hH J I hr (by rw[F7]; exact hmm) ?_ ?_ ?_ ?_ ?_
  ·rw [Go.Sort.size_grow, size_putRow]
   show E.w.heap.size≤E.w.heap.size+_
   omega
  ·intro x N hxb
   unfold y_ sE;simp only[];rw[Di (by simpa[qP,qQ]using N),F5 hxb];rfl
  ·obtain ⟨cs, el, g1, g2⟩ := I
   unfold y_ sE;unfold isRow;simp only[];rw[Di (by simpa[qP,qQ]using hblk)];simp only[qP,qQ,Array.getElem?_modify,if_true,g1,eg];exact⟨_,_,rfl,by simp[Go.Sort.putCells,g2]⟩
  ·intro i c hi M
   rw[F7]at hi;have hc0:c=0:=by simpa using M
   subst hc0;have:=(hh i (by simpa using hi)).1;rw[show i*([Kd.str]:List Kd).length+0=0+i by simp];rw[this];have hi':i<((rows.map fun r=>(gi r 0).str.data.toList).mergeSort fun x y=>decide (x≤y)).length:=by simpa using hi
   rw[getElem!_pos _ i (by simpa using hi')];simp only[iG,List.getD_eq_getElem?_getD,bU,bf hi',eg,Option.getD_some,List.getElem_toArray];rfl
  ·exact⟨rfl,rfl,rfl,fun _=>Nat.le_add_right _ _⟩
end
end Go.AL
