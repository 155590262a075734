/-
 What is proved: the library's sort of numbers. Condition: its text lies in the program.
-/
import Derived.Test.YtomcmchdbdnclaaGreatDoorMH
import Derived.Shelf.SortM.Plain
import Derived.Shelf.SortM.SortNone
set_option linter.all false
open Array renaming getElem?_append_left->Ee
open Go.Sort renaming grow->tn,mapBlock->rb,putRow->Ap,ahead->rf
open List renaming length_map->bN,getElem?_map->bB,getElem?_eq_getElem->bx
open Option renaming map_some->dS
namespace Go.AL
open Go Go.Proofs
variable [Dr]
def qp(rows:List (List G)):List (List G):=((rows.map fun r=>(gi r 0).int).mergeSort fun x y=>decide (x<=y)).map fun n=>[G.i n]
def Cg(d:List G):Option (List G):=bif Nat.blt (gi d 0).rows.length 1000000 then some [.l (qp (gi d 0).rows)] else none
theorem Po(rows:List (List G)):(qp rows).length=rows.length:=by
 unfold qp;rw[bN,List.length_mergeSort,bN]
section
variable {P:Program} {ρ:Go.Shelf.Ren}
theorem abF(L:SlLaysM.n5 P ρ)(d r:List G)(h:Cg d=some r) :
  dn P (ρ.f 5) (fU (cI [.vec [.int .i64] 0] d) [.s (.vec 0 1)] (ew 1 d)) (ah (cN (cI [.vec [.int .i64] 0] d) [.vec [.int .i64] 0] d)) (eI []) (ah (cN (cI [.vec [.int .i64] 0] r) [.vec [.int .i64] 0] r)):=by
 have e1:gi d 0=d.headD default:=rfl;have hs:Kd.cz [.int .i64]=true:=rfl;intro E cargs hH HE g;simp only[fU,qb,eV,cI,cN,fy,ah,List.map_cons,List.map_nil,af.den,dh.ver,dh.len,List.getD_cons_zero,<-e1]at hH g|-;obtain⟨cs⟩:=cargs
 match cs,g with
 | [c0],g =>
 simp only[ae,and_true]at g;simp only[rel]at g;obtain⟨⟨base,cap,rfl,hcap,hbase⟩,_,hlive⟩:=g;have N:E.H[0]? = some (ab.vec ([Kd.int .i64]:List Kd).length 0 ((gi d 0).rows.map (aD [.int .i64]))):=by rw[hH]; rfl
 obtain⟨hn,hv⟩:=hlive ⟨_,N,rfl⟩;unfold Cg at h;cases hlen:Nat.blt (gi d 0).rows.length 1000000 with
 |false=>rw[hlen]at h; cases h
 |true =>
 rw[hlen]at h;cases h;have hlt:(gi d 0).rows.length<1000000:=by simpa using hlen
 by_cases k:(gi d 0).rows=[]
 ·have O : E.H = [ab.vec ([Kd.int .i64] : List Kd).length 0 []] := by rw [hH, k]; rfl
  rw[k];refine(AnyM.slices_Sort_int_none L base cap E.w).mono ?_;rintro e w' ⟨rfl,rfl⟩;refine⟨_,.tuple [],[ab.vec ([Kd.int .i64]:List Kd).length 0 []],rfl,⟨rfl,?_⟩,E.loc,E.X.r,by simp[rel,ae],?_,?_⟩
  ·simp[qp,G.rows]
  ·rw [<- O]
   exact HE
  ·rw [<- O]
   exact Env.le.refl E
 ·have hpos : 0 < (gi d 0).rows.length := List.length_pos_iff.2 k
  rcases HE.obj 0 _ N with⟨_,e2⟩|⟨b,m,v,u,hm,hcl,hr⟩
  ·exact(k (by simpa using e2)).elim
  obtain⟨_,o,ho,I⟩:=hv b m v;have hmm:(gi d 0).rows.length<=m:=by simpa using hm
  have ho:o=0:=by have:=ho (by omega); omega
  subst ho;generalize hrs:(gi d 0).rows=rows at *;rw[I];have hblk:b<E.w.heap.size:=(HE.lt 0 b m v).1;have hcell:∀ j x,rows[j]? = some x->E.w.cell? ⟨b,0+j,none⟩=some (.int .i64 (gi x 0).int):=fun j x q=>by
   have M:(rows.map (aD [.int .i64]))[j]? = some (aD [.int .i64] x):=by rw[bB,q]; rfl
   have:=Pj hs (lN hr M).2 0 (by decide);rw[show (dq [Kd.int .i64] x)[0]! = Value.int .i64 (gi x 0).int from rfl]at this;simpa using this
  have U:Go.Sort.Holds (Value.int .i64) E.w b 0 (rows.map fun r=>(gi r 0).int).toArray:=by
   intro j q;have hj':j<rows.length:=by simpa using q
   refine⟨?_,?_⟩
   ·rw [hcell j _ (bx hj'), getElem!_pos _ j q]
    simp
   ·obtain ⟨cs, el, h1, _⟩ := u
    simp[World.frozen?,h1]
  have V:=AnyM.slices_Sort_int L b 0 (m-0) (rows.map fun r=>(gi r 0).int) E.w U hblk (by simp; omega);rw[bN]at V;refine V.mono ?_;rintro e w' ⟨rfl,n,os,rfl⟩;refine⟨_,.tuple [],_,rfl,⟨rfl,rfl⟩,?_⟩;have hh:=Go.Sort.holds_grow (Value.int .i64) _ os b 0 _ (by show b<(Ap _ (rf E.w n) b 0 _).heap.size; rw[size_putRow]; exact hblk) (Go.Sort.holds_putRow (Value.int .i64) (rf E.w n) b 0 _ ((rows.map fun r=>(gi r 0).int).mergeSort fun x y=>decide (x<=y)).toArray U (by simp));refine Pm (K:=[.int .i64]) (rows':=qp rows) HE hs hH v u hr (by rw[Po]; exact hmm) ?_ ?_ ?_ ?_ ?_
  ·rw [Go.Sort.size_grow, size_putRow]
   show E.w.heap.size<=E.w.heap.size+_
   omega
  ·intro x M hxb
   unfold Ap tn;simp only[];rw[Ee (by simpa[rb,rf]using M),GX hxb];rfl
  ·obtain ⟨cs, el, g1, g2⟩ := u
   unfold Ap tn;unfold isRow;simp only[];rw[Ee (by simpa[rb,rf]using hblk)];simp only[rb,rf,Array.getElem?_modify,if_true,g1,dS];exact⟨_,_,rfl,by simp[Go.Sort.putCells,g2]⟩
  ·intro i c hi I
   rw[Po]at hi;have hc0:c=0:=by simpa using I
   subst hc0;have:=(hh i (by simpa using hi)).1;rw[show i*([Kd.int .i64]:List Kd).length+0=0+i by simp];rw[this];have W:i<((rows.map fun r=>(gi r 0).int).mergeSort fun x y=>decide (x<=y)).length:=by simpa using hi
   rw[getElem!_pos _ i (by simpa using W)];simp only[qp,List.getD_eq_getElem?_getD,bB,bx W,dS,Option.getD_some,List.getElem_toArray];rfl
  ·exact⟨rfl,rfl,rfl,fun _=>Nat.le_add_right _ _⟩
end
end Go.AL
