/-
 What is proved here: the library's sort of numbers,as a function on data (by the kit's own contract). No program in sight; what is asked is that the library's text lies in the program.
-/
import Derived.Test.YtppdbdblllpimaaGreatDoorMH
import Derived.Shelf.SortM.Plain
import Derived.Shelf.SortM.SortNone
set_option linter.all false
open Array renaming getElem?_append_left→s_
open Go.Sort renaming grow→mP,mapBlock→mQ,putRow→qQ,ahead→kN
open List renaming length_map→bu,getElem?_map→cy,getElem?_eq_getElem→bA
open Option renaming map_some→iO
namespace Go.AL
open Go Go.Proofs
variable [Dr]
def qj(rows:List (List G)):List (List G):=((rows.map fun r=>(gi r 0).int).mergeSort fun x y=>decide (x≤y)).map fun n=>[G.i n]
def By(d:List G):Option (List G):=bif Nat.blt (gi d 0).rows.length 1000000 then some [.l (qj (gi d 0).rows)] else none
theorem NW(rows:List (List G)):(qj rows).length=rows.length:=by
 unfold qj;rw[bu,List.length_mergeSort,bu]
section
variable {P:Program} {ρ:Go.Shelf.Ren}
theorem YT(L:SlLaysM.n5 P ρ)(d r:List G)(h:By d=some r) :
  cz P (ρ.f 5) (dH (bE [.vec [.int .i64] 0] d) [.s (.vec 0 1)] (dB 1 d)) (ai (ca (bE [.vec [.int .i64] 0] d) [.vec [.int .i64] 0] d)) (cK []) (ai (ca (bE [.vec [.int .i64] 0] r) [.vec [.int .i64] 0] r)):=by
 have e1:gi d 0=d.headD default:=rfl;have hs:Kd.cL [.int .i64]=true:=rfl;intro E cargs hH HE g;simp only[dH,la,eF,bE,ca,fe,ai,List.map_cons,List.map_nil,al.den,dm.ae,dm.len,List.getD_cons_zero,←e1]at hH g⊢;obtain⟨cs⟩:=cargs
 match cs,g with
 | [c0],g =>
 simp only[ad,and_true]at g;simp only[rel]at g;obtain⟨⟨base,cap,rfl,hcap,hbase⟩,_,U⟩:=g;have J:E.H[0]? = some (af.vec ([Kd.int .i64]:List Kd).length 0 ((gi d 0).rows.map (aG [.int .i64]))):=by rw[hH]; rfl
 obtain⟨hn,hv⟩:=U ⟨_,J,rfl⟩;unfold By at h;cases hlen:Nat.blt (gi d 0).rows.length 1000000 with
 |false=>rw[hlen]at h; cases h
 |true =>
 rw[hlen]at h;cases h;have hlt:(gi d 0).rows.length<1000000:=by simpa using hlen
 by_cases k:(gi d 0).rows=[]
 ·have M : E.H = [af.vec ([Kd.int .i64] : List Kd).length 0 []] := by rw [hH, k]; rfl
  rw[k];refine(AnyM.slices_Sort_int_none L base cap E.w).mono ?_;rintro e w' ⟨rfl,rfl⟩;refine⟨_,.tuple [],[af.vec ([Kd.int .i64]:List Kd).length 0 []],rfl,⟨rfl,?_⟩,E.loc,E.X.r,by simp[rel,ad],?_,?_⟩
  ·simp[qj,G.rows]
  ·rw [← M]
   exact HE
  ·rw [← M]
   exact Env.le.refl E
 ·have hpos : 0 < (gi d 0).rows.length := List.length_pos_iff.2 k
  rcases HE.obj 0 _ J with⟨_,e2⟩|⟨b,m,B,A,hm,hcl,hr⟩
  ·exact(k (by simpa using e2)).elim
  obtain⟨_,o,F,hc⟩:=hv b m B;have Y:(gi d 0).rows.length≤m:=by simpa using hm
  have F:o=0:=by have:=F (by omega); omega
  subst F;generalize hrs:(gi d 0).rows=rows at *;rw[hc];have hblk:b<E.w.heap.size:=(HE.lt 0 b m B).1;have W:∀ j x,rows[j]? = some x→E.w.cell? ⟨b,0+j,none⟩=some (.int .i64 (gi x 0).int):=fun j x q=>by
   have I:(rows.map (aG [.int .i64]))[j]? = some (aG [.int .i64] x):=by rw[cy,q]; rfl
   have:=Gy hs (lW hr I).2 0 (by decide);rw[show (dA [Kd.int .i64] x)[0]! = Value.int .i64 (gi x 0).int from rfl]at this;simpa using this
  have N:Go.Sort.Holds (Value.int .i64) E.w b 0 (rows.map fun r=>(gi r 0).int).toArray:=by
   intro j q;have hj':j<rows.length:=by simpa using q
   refine⟨?_,?_⟩
   ·rw [W j _ (bA hj'), getElem!_pos _ j q]
    simp
   ·obtain ⟨cs, el, h1, _⟩ := A
    simp[World.frozen?,h1]
  have O:=AnyM.slices_Sort_int L b 0 (m-0) (rows.map fun r=>(gi r 0).int) E.w N hblk (by simp; omega);rw[bu]at O;refine O.mono ?_;rintro e w' ⟨rfl,n,os,rfl⟩;refine⟨_,.tuple [],_,rfl,⟨rfl,rfl⟩,?_⟩;have hh:=Go.Sort.holds_grow (Value.int .i64) _ os b 0 _ (by show b<(qQ _ (kN E.w n) b 0 _).heap.size; rw[size_putRow]; exact hblk) (Go.Sort.holds_putRow (Value.int .i64) (kN E.w n) b 0 _ ((rows.map fun r=>(gi r 0).int).mergeSort fun x y=>decide (x≤y)).toArray N (by simp));refine Gz (K:=[.int .i64]) (rows':=qj rows) HE hs hH B A hr (by rw[NW]; exact Y) ?_ ?_ ?_ ?_ ?_
  ·rw [Go.Sort.size_grow, size_putRow]
   show E.w.heap.size≤E.w.heap.size+_
   omega
  ·intro x I hxb
   unfold qQ mP;simp only[];rw[s_ (by simpa[mQ,kN]using I),Bv hxb];rfl
  ·obtain ⟨cs, el, g1, g2⟩ := A
   unfold qQ mP;unfold isRow;simp only[];rw[s_ (by simpa[mQ,kN]using hblk)];simp only[mQ,kN,Array.getElem?_modify,if_true,g1,iO];exact⟨_,_,rfl,by simp[Go.Sort.putCells,g2]⟩
  ·intro i c hi hc
   rw[NW]at hi;have hc0:c=0:=by simpa using hc
   subst hc0;have:=(hh i (by simpa using hi)).1;rw[show i*([Kd.int .i64]:List Kd).length+0=0+i by simp];rw[this];have R:i<((rows.map fun r=>(gi r 0).int).mergeSort fun x y=>decide (x≤y)).length:=by simpa using hi
   rw[getElem!_pos _ i (by simpa using R)];simp only[qj,List.getD_eq_getElem?_getD,cy,bA R,iO,Option.getD_some,List.getElem_toArray];rfl
  ·exact⟨rfl,rfl,rfl,fun _=>Nat.le_add_right _ _⟩
end
end Go.AL
