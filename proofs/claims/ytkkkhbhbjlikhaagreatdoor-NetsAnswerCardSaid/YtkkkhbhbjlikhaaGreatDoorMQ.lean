/-
 What is proved here: the library's sort of numbers,as a function on data (by the kit's own contract). No program in sight; what is asked is that the library's text lies in the program.
-/
import Derived.Test.YtkkkhbhbjlikhaaGreatDoorMH
import Derived.Shelf.SortM.Plain
import Derived.Shelf.SortM.SortNone
set_option linter.all false
open Array renaming getElem?_append_left->Ei
open Go.Sort renaming grow->qt,mapBlock->qu,putRow->vq,ahead->nH
open List renaming length_map->bL,getElem?_eq_getElem->bT,getElem?_map->dw
open Option renaming map_some->jl
namespace Go.AL
open Go Go.Proofs
variable [Dr]
def uw(rZ:LL):LL:=((rZ.map fun r=>(gi r 0).iV).mergeSort fun x y=>decide (x<=y)).map fun n=>[G.i n]
def F'(d:LG):Option LG:=bif Nat.blt (gi d 0).rZ.length 1000000 then some [.l (uw (gi d 0).rZ)] else none
def SN(rZ:LL):(uw rZ).length=rZ.length:=by
 unfold uw;rw[bL,List.length_mergeSort,bL]
section
variable {P:Program} {ρ:Go.Shelf.Ren}
theorem aeh(L:SlLaysM.n5 P ρ)(d r:LG)(h:F' d=some r) :
  e_ P (ρ.f 5) (dS (cd [.vQ [.I] 0] d) [.s (.vQ 0 1)] (eo 1 d)) (aF (cX (cd [.vQ [.I] 0] d) [.vQ [.I] 0] d)) (dA []) (aF (cX (cd [.vQ [.I] 0] r) [.vQ [.I] 0] r)):=by
 have e1:gi d 0=d.headD default:=rfl;have hs:Kd.dM [.I]=true:=rfl;intro E cargs hH HE g;simp only[dS,lz,fF,cd,cX,gM,aF,List.map_cons,List.map_nil,aG.au,eM.ax,eM.len,List.getD_cons_zero,<-e1]at hH g|-;obtain⟨cs⟩:=cargs
 match cs,g with
 |[c0],g=>
 simp only[aq,and_true]at g;simp only[ae]at g;obtain⟨⟨bg,cap,rfl,hcap,hbase⟩,_,hlive⟩:=g;have U:E.H[0]?=some (ay.vQ ([Kd.int .i64]:List Kd).length 0 ((gi d 0).rZ.map (bh [.I]))):=by rw[hH]; rfl
 obtain⟨hn,hv⟩:=hlive ⟨_,U,rfl⟩;unfold F' at h;cases B:Nat.blt (gi d 0).rZ.length 1000000 with
 |false=>rw[B]at h; cases h
 |true=>
 rw[B]at h;cases h;have hlt:(gi d 0).rZ.length<1000000:=by simpa using B
 by_cases q:(gi d 0).rZ=[]
 ·have W:E.H=[ay.vQ ([Kd.int .i64]:List Kd).length 0 []]:=by rw[hH,q]; rfl
  rw[q];refine(AnyM.slices_Sort_int_none L bg cap E.w).mono ?_;rintro e w' ⟨rfl,rfl⟩;refine⟨_,.tuple [],[ay.vQ ([Kd.int .i64]:List Kd).length 0 []],rfl,⟨rfl,?_⟩,E.ad,E.X.r,by simp[ae,aq],?_,?_⟩
  ·simp[uw,G.rZ]
  ·rw[<- W]
   exact HE
  ·rw[<- W]
   exact af.le.refl E
 ·have hpos:0<(gi d 0).rZ.length:=List.length_pos_iff.2 q
  rcases HE.obj 0 _ U with⟨_,e2⟩|⟨b,m,M,F,hm,hcl,hr⟩
  ·exact(q (by simpa using e2)).elim
  obtain⟨_,o,N,hc⟩:=hv b m M;have hmm:(gi d 0).rZ.length<=m:=by simpa using hm
  have N:o=0:=by have:=N ab; omega
  subst N;generalize hrs:(gi d 0).rZ=rZ at *;rw[hc];have J:b<E.w.heap.size:=(HE.lt 0 b m M).1;have hcell:∀j x,rZ[j]?=some x->E.w.cell? ⟨b,0+j,none⟩=some (.int .i64 (gi x 0).iV):=fun j x A=>by
   have O:(rZ.map (bh [.I]))[j]?=some (bh [.I] x):=by rw[dw,A]; rfl
   have:=L3 hs (pr hr O).2 0 cD;rw[show (fc [Kd.int .i64] x)[0]! = Value.int .i64 (gi x 0).iV from rfl]at this;simpa using this
  have Y:Go.Sort.Holds (Value.int .i64) E.w b 0 (rZ.map fun r=>(gi r 0).iV).toArray:=by
   intro j A;have hj':j<rZ.length:=by simpa using A
   refine⟨?_,?_⟩
   ·rw[hcell j _ (bT hj'),getElem!_pos _ j A]
    simp
   ·obtain⟨cs,el,h1,_⟩:=F
    simp[World.frozen?,h1]
  have hc5:=AnyM.slices_Sort_int L b 0 (m-0) (rZ.map fun r=>(gi r 0).iV) E.w Y J du;rw[bL]at hc5;refine hc5.mono ?_;rintro e w' ⟨rfl,n,os,rfl⟩;refine⟨_,.tuple [],_,rfl,⟨rfl,rfl⟩,?_⟩;have hh:=Go.Sort.holds_grow (Value.int .i64) _ os b 0 _ (by show b<(vq _ (nH E.w n) b 0 _).heap.size; rw[size_putRow]; exact J) (Go.Sort.holds_putRow (Value.int .i64) (nH E.w n) b 0 _ ((rZ.map fun r=>(gi r 0).iV).mergeSort fun x y=>decide (x<=y)).toArray Y ai);refine L4 (K:=[.I]) (rows':=uw rZ) HE hs hH M F hr (by rw[SN]; exact hmm) ?_ ?_ ?_ ?_ ?_
  ·rw[Go.Sort.size_grow,size_putRow]
   show E.w.heap.size<=E.w.heap.size+_
   omega
  ·intro x O hxb
   unfold vq qt;simp only[];rw[Ei (by simpa[qu,nH]using O),SL hxb];rfl
  ·obtain⟨cs,el,g1,g2⟩:=F
   unfold vq qt;unfold isRow;simp only[];rw[Ei (by simpa[qu,nH]using J)];simp only[qu,nH,Array.getElem?_modify,if_true,g1,jl];exact⟨_,_,rfl,by simp[Go.Sort.putCells,g2]⟩
  ·intro i c hi hc
   rw[SN]at hi;have hc0:c=0:=by simpa using hc
   subst hc0;have:=(hh i (by simpa using hi)).1;rw[show i*([Kd.int .i64]:List Kd).length+0=0+i by simp];rw[this];have hi':i<((rZ.map fun r=>(gi r 0).iV).mergeSort fun x y=>decide (x<=y)).length:=by simpa using hi
   rw[getElem!_pos _ i (by simpa using hi')];simp only[uw,List.getD_eq_getElem?_getD,dw,bT hi',jl,Option.getD_some,List.getElem_toArray];rfl
  ·exact⟨rfl,rfl,rfl,fun _=>Nat.le_add_right _ _⟩
end
end Go.AL
