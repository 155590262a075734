/-
 What is proved here: the library's sort of strings,as a function on data (by the kit's own contract). No program in sight; what is asked is that the library's text lies in the program.
-/
import Derived.Test.YtkkkhbhbjlikhaaGreatDoorMH
import Derived.Shelf.SortM.Plain
import Derived.Shelf.SortM.SortNone
set_option linter.all false
open Go.Sort renaming grow->qt,mapBlock->qu,putRow->vq,ahead->nH
open List renaming length_map->bL,getElem?_map->dw
open Option renaming map_some->jl
namespace Go.AL
open Go Go.Proofs
variable [Dr]
def gy(rZ:LL):LL:=((rZ.map fun r=>(gi r 0).sV.data.toList).mergeSort fun x y=>decide (x<=y)).map fun d=>[G.s ⟨d.toArray⟩]
def Cv(d:LG):Option LG:=bif Nat.blt (gi d 0).rZ.length 1000000 then some [.l (gy (gi d 0).rZ)] else none
def Cw(rZ:LL):(gy rZ).length=rZ.length:=by
 unfold gy;rw[bL,List.length_mergeSort,bL]
section
variable {P:Program} {ρ:Go.Shelf.Ren}
theorem aeO(L:SlLaysM.n6 P ρ)(d r:LG)(h:Cv d=some r) :
  e_ P (ρ.f 6) (dS (cd [.vQ [.str] 0] d) [.s (.vQ 0 1)] (eo 1 d)) (aF (cX (cd [.vQ [.str] 0] d) [.vQ [.str] 0] d)) (dA []) (aF (cX (cd [.vQ [.str] 0] r) [.vQ [.str] 0] r)):=by
 have e1:gi d 0=d.headD default:=rfl;have hs:Kd.dM [.str]=true:=rfl;intro E Y hH HE g;simp only[dS,lz,fF,cd,cX,gM,aF,List.map_cons,List.map_nil,aG.au,eM.ax,eM.len,List.getD_cons_zero,<-e1]at hH g|-;obtain⟨cs⟩:=Y
 match cs,g with
 |[c0],g=>
 simp only[aq,and_true]at g;simp only[ae]at g;obtain⟨⟨bg,cap,rfl,hcap,hbase⟩,_,hlive⟩:=g;have J:E.H[0]?=some (ay.vQ ([Kd.str]:List Kd).length 0 ((gi d 0).rZ.map (bh [.str]))):=by rw[hH]; rfl
 obtain⟨hn,hv⟩:=hlive ⟨_,J,rfl⟩;unfold Cv at h;cases hlen:Nat.blt (gi d 0).rZ.length 1000000 with
 |false=>grind
 |true=>
 rw[hlen]at h;cases h;have hlt:(gi d 0).rZ.length<1000000:=Er;by_cases B:(gi d 0).rZ=[]
 ·have M:E.H=[ay.vQ ([Kd.str]:List Kd).length 0 []]:=by rw[hH,B]; rfl
  rw[B];refine(AnyM.slices_Sort_string_none L bg cap E.w).mono ?_;rintro e w' ⟨rfl,rfl⟩;refine⟨_,.tuple [],[ay.vQ ([Kd.str]:List Kd).length 0 []],rfl,⟨rfl,?_⟩,E.ad,E.X.r,by simp[ae,aq],?_,?_⟩
  ·simp[gy,G.rZ]
  ·rw[<- M]
   exact HE
  ·rw[<- M]
   exact af.le.refl E
 ·have hpos:0<(gi d 0).rZ.length:=List.length_pos_iff.2 B
  rcases HE.obj 0 _ J with⟨_,e2⟩|⟨b,m,F,q,hm,hcl,hr⟩
  grind
  obtain⟨_,o,I,hc⟩:=hv b m F;have hmm:(gi d 0).rZ.length<=m:=ab;have I:o=0:=by have:=I ab; omega
  subst I;generalize hrs:(gi d 0).rZ=rZ at *;rw[hc];have A:b<E.w.heap.size:=(HE.lt 0 b m F).1;have hcell:∀j x,rZ[j]?=some x->E.w.cell? ⟨b,0+j,none⟩=some (.string (gi x 0).sV):=fun j x W=>by
   have hx:(rZ.map (bh [.str]))[j]?=some (bh [.str] x):=by rw[dw,W]; rfl
   have:=L3 hs (pr hr hx).2 0 cD;rw[show (fc [Kd.str] x)[0]! = Value.string (gi x 0).sV from rfl]at this
   grind
  have N:Go.Sort.Holds encStr E.w b 0 (rZ.map fun r=>(gi r 0).sV.data.toList).toArray:=by
   intro j W;have hj':j<rZ.length:=nJ;refine⟨?_,?_⟩
   simp_all
   ·obtain⟨cs,el,h1,_⟩:=q
    simp[World.frozen?,h1]
  have O:=AnyM.slices_Sort_string L b 0 (m-0) (rZ.map fun r=>(gi r 0).sV.data.toList) E.w N A du;rw[bL]at O;refine O.mono ?_;rintro e w' ⟨rfl,n,os,rfl⟩;refine⟨_,.tuple [],_,rfl,⟨rfl,rfl⟩,?_⟩;have hh:=Go.Sort.holds_grow encStr _ os b 0 _ (by show b<(vq _ (nH E.w n) b 0 _).heap.size; rw[size_putRow]; exact A) (Go.Sort.holds_putRow encStr (nH E.w n) b 0 _ ((rZ.map fun r=>(gi r 0).sV.data.toList).mergeSort fun x y=>decide (x<=y)).toArray N ai);refine L4 (K:=[.str]) (rows':=gy rZ) HE hs hH F q hr (by rw[Cw]; exact hmm) ?_ ?_ ?_ ?_ ?_;simp
  grind[vq,qt,qu,nH]
  ·obtain⟨cs,el,g1,g2⟩:=q
   unfold vq qt;unfold isRow;simp only[];rw[Array.getElem?_append_left (by simpa[qu,nH]using A)];simp only[qu,nH,Array.getElem?_modify,if_true,g1,jl];exact⟨_,_,rfl,by simp[Go.Sort.putCells,g2]⟩
  ·intro i c hi hc
   rw[Cw]at hi;have hc0:c=0:=nJ;subst hc0;have:=(hh i (by simpa using hi)).1;rw[show i*([Kd.str]:List Kd).length+0=0+i by simp];rw[this];have U:i<((rZ.map fun r=>(gi r 0).sV.data.toList).mergeSort fun x y=>decide (x<=y)).length:=Er;rw[getElem!_pos _ i (by simpa using U)];simp only[gy,List.getD_eq_getElem?_getD,dw,List.getElem?_eq_getElem U,jl,Option.getD_some,List.getElem_toArray];rfl
  ·exact⟨rfl,rfl,rfl,fun _=>Nat.le_add_right _ _⟩
end
end Go.AL
