/-
 What is proved here: the library's sort of numbers,as a function on data (by the kit's own contract). No program in sight; what is asked is that the library's text lies in the program.
-/
import Derived.Test.YtopnkdaoanlaiaaGreatDoorMH
import Derived.Shelf.SortM.Plain
import Derived.Shelf.SortM.SortNone
set_option linter.all false
open Array renaming getElem?_append_left→yn
open Go.Sort renaming grow→ox,mapBlock→qa,putRow→yp,ahead→qc
open List renaming length_map→bF,getElem?_map→cq,getElem?_eq_getElem→bE
open Option renaming map_some→iZ
namespace Go.AL
open Go Go.Proofs
variable [Dr]
def pC(rows:List (List G)):List (List G):=((rows.map fun r=>(gi r 0).int).mergeSort fun x y=>decide (x≤y)).map fun n=>[G.i n]
def AH(d:List G):Option (List G):=bif Nat.blt (gi d 0).rows.length 1000000 then some [.l (pC (gi d 0).rows)] else none
theorem Mo(rows:List (List G)):(pC rows).length=rows.length:=by
 unfold pC;rw[bF,List.length_mergeSort,bF]
section
variable {P:Program} {ρ:Go.Shelf.Ren}
theorem Xq(L:SlLaysM.n5 P ρ)(d r:List G)(h:AH d=some r) :
  cg P (ρ.f 5) (dL (bB [.vec [.int .i64] 0] d) [.s (.vec 0 1)] (dv 1 d)) (aj (bZ (bB [.vec [.int .i64] 0] d) [.vec [.int .i64] 0] d)) (ct []) (aj (bZ (bB [.vec [.int .i64] 0] r) [.vec [.int .i64] 0] r)):=by
 have e1:gi d 0=d.headD default:=rfl;have U:Kd.cw [.int .i64]=true:=rfl;intro E cargs hH HE g;simp only[dL,lz,eA,bB,bZ,eX,aj,List.map_cons,List.map_nil,ak.den,dc.ae,dc.len,List.getD_cons_zero,←e1]at hH g⊢;obtain⟨cs⟩:=cargs
 match cs,g with
 | [c0],g =>
 simp only[ad,and_true]at g;simp only[rel]at g;obtain⟨⟨base,cap,rfl,hcap,hbase⟩,_,W⟩:=g;have J:E.H[0]? = some (af.vec ([Kd.int .i64]:List Kd).length 0 ((gi d 0).rows.map (aD [.int .i64]))):=by rw[hH]; rfl
 obtain⟨hn,hv⟩:=W ⟨_,J,rfl⟩;unfold AH at h;cases hlen:Nat.blt (gi d 0).rows.length 1000000 with
 |false=>rw[hlen]at h; cases h
 |true =>
 rw[hlen]at h;cases h;have hlt:(gi d 0).rows.length<1000000:=by simpa using hlen
 by_cases k:(gi d 0).rows=[]
 ·have M : E.H = [af.vec ([Kd.int .i64] : List Kd).length 0 []] := by rw [hH, k]; rfl
  rw[k];refine(AnyM.slices_Sort_int_none L base cap E.w).mono ?_;rintro e w' ⟨rfl,rfl⟩;refine⟨_,.tuple [],[af.vec ([Kd.int .i64]:List Kd).length 0 []],rfl,⟨rfl,?_⟩,E.loc,E.X.r,by simp[rel,ad],?_,?_⟩
  ·simp[pC,G.rows]
  ·rw [← M]
   exact HE
  ·rw [← M]
   exact Env.le.refl E
 ·have hpos : 0 < (gi d 0).rows.length := List.length_pos_iff.2 k
  rcases HE.obj 0 _ J with⟨_,e2⟩|⟨b,m,B,A,hm,hcl,hr⟩
  ·exact(k (by simpa using e2)).elim
  obtain⟨_,o,F,hc⟩:=hv b m B;have hmm:(gi d 0).rows.length≤m:=by simpa using hm
  have F:o=0:=by have:=F (by omega); omega
  subst F;generalize hrs:(gi d 0).rows=rows at *;rw[hc];have hblk:b<E.w.heap.size:=(HE.lt 0 b m B).1;have Y:∀ j x,rows[j]? = some x→E.w.cell? ⟨b,0+j,none⟩=some (.int .i64 (gi x 0).int):=fun j x q=>by
   have I:(rows.map (aD [.int .i64]))[j]? = some (aD [.int .i64] x):=by rw[cq,q]; rfl
   have:=Mi U (ma hr I).2 0 (by decide);rw[show (du [Kd.int .i64] x)[0]! = Value.int .i64 (gi x 0).int from rfl]at this;simpa using this
  have N:Go.Sort.Holds (Value.int .i64) E.w b 0 (rows.map fun r=>(gi r 0).int).toArray:=by
   intro j q;have hj':j<rows.length:=by simpa using q
   refine⟨?_,?_⟩
   ·rw [Y j _ (bE hj'), getElem!_pos _ j q]
    simp
   ·obtain ⟨cs, el, h1, _⟩ := A
    simp[World.frozen?,h1]
  have O:=AnyM.slices_Sort_int L b 0 (m-0) (rows.map fun r=>(gi r 0).int) E.w N hblk (by simp; omega);rw[bF]at O;refine O.mono ?_;rintro e w' ⟨rfl,n,os,rfl⟩;refine⟨_,.tuple [],_,rfl,⟨rfl,rfl⟩,?_⟩;have hh:=Go.Sort.holds_grow (Value.int .i64) _ os b 0 _ (by show b<(yp _ (qc E.w n) b 0 _).heap.size; rw[size_putRow]; exact hblk) (Go.Sort.holds_putRow (Value.int .i64) (qc E.w n) b 0 _ ((rows.map fun r=>(gi r 0).int).mergeSort fun x y=>decide (x≤y)).toArray N (by simp));refine Ml (K:=[.int .i64]) (rows':=pC rows) HE U hH B A hr (by rw[Mo]; exact hmm) ?_ ?_ ?_ ?_ ?_
  ·rw [Go.Sort.size_grow, size_putRow]
   show E.w.heap.size≤E.w.heap.size+_
   omega
  ·intro x I hxb
   unfold yp ox;simp only[];rw[yn (by simpa[qa,qc]using I),Fb hxb];rfl
  ·obtain ⟨cs, el, g1, g2⟩ := A
   unfold yp ox;unfold isRow;simp only[];rw[yn (by simpa[qa,qc]using hblk)];simp only[qa,qc,Array.getElem?_modify,if_true,g1,iZ];exact⟨_,_,rfl,by simp[Go.Sort.putCells,g2]⟩
  ·intro i c hi hc
   rw[Mo]at hi;have hc0:c=0:=by simpa using hc
   subst hc0;have:=(hh i (by simpa using hi)).1;rw[show i*([Kd.int .i64]:List Kd).length+0=0+i by simp];rw[this];have R:i<((rows.map fun r=>(gi r 0).int).mergeSort fun x y=>decide (x≤y)).length:=by simpa using hi
   rw[getElem!_pos _ i (by simpa using R)];simp only[pC,List.getD_eq_getElem?_getD,cq,bE R,iZ,Option.getD_some,List.getElem_toArray];rfl
  ·exact⟨rfl,rfl,rfl,fun _=>Nat.le_add_right _ _⟩
end
end Go.AL
