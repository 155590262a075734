/-
 What is proved here: the library's sort of strings,as a function on data (by the kit's own contract). No program in sight; what is asked is that the library's text lies in the program.
-/
import Derived.Test.YtpgfflhcmodgdaaGreatDoorMH
import Derived.Shelf.SortM.Plain
import Derived.Shelf.SortM.SortNone
set_option linter.all false
open Go.Sort renaming grow->xK,mapBlock->vq,putRow->Ev,ahead->vr
open List renaming length_map->cP,getElem?_map->dw
open Option renaming map_some->ki
namespace Go.AL
open Go Go.Proofs
variable [Dr]
def gl(rZ:LL):LL:=((rZ.map fun r=>(gi r 0).sV.data.toList).mergeSort fun x y=>decide (x<=y)).map fun d=>[G.s ⟨d.toArray⟩]
def GN(d:LG):Option LG:=bif Nat.blt (gi d 0).rZ.length 1000000 then some [.l (gl (gi d 0).rZ)] else none
def ur(rZ:LL):(gl rZ).length=rZ.length:=by
 unfold gl;rw[cP,List.length_mergeSort,cP]
section
variable {P:Program} {ρ:Go.Shelf.Ren}
theorem ae8(L:SlLaysM.n6 P ρ)(d r:LG)(h:GN d=some r) :
  fL P (ρ.f 6) (iK (cY [.vQ [.str] 0] d) [.s (.vQ 0 1)] (fM 1 d)) (ay (dL (cY [.vQ [.str] 0] d) [.vQ [.str] 0] d)) (fc []) (ay (dL (cY [.vQ [.str] 0] r) [.vQ [.str] 0] r)):=by
 have e1:gi d 0=d.headD default:=rfl;have hs:Kd.dB [.str]=true:=rfl;intro E cargs hH HE k;simp only[iK,tZ,gF,cY,dL,gO,ay,List.map_cons,List.map_nil,ax.ao,eU.aq,eU.len,List.getD_cons_zero,<-e1]at hH k|-;obtain⟨cs⟩:=cargs
 match cs,k with
 |[c0],k=>
 simp only[aw,and_true]at k;simp only[ad]at k;obtain⟨⟨aU,cap,rfl,hcap,hbase⟩,_,hlive⟩:=k;have O:E.H[0]?=some (aj.vQ ([Kd.str]:List Kd).length 0 ((gi d 0).rZ.map (aY [.str]))):=by rw[hH]; rfl
 obtain⟨hn,hv⟩:=hlive ⟨_,O,rfl⟩;unfold GN at h;cases hlen:Nat.blt (gi d 0).rZ.length 1000000 with
 |false=>grind
 |true=>
 rw[hlen]at h;cases h;have hlt:(gi d 0).rZ.length<1000000:=Ba;by_cases M:(gi d 0).rZ=[]
 ·have U:E.H=[aj.vQ ([Kd.str]:List Kd).length 0 []]:=by rw[hH,M]; rfl
  rw[M];refine(AnyM.slices_Sort_string_none L aU cap E.w).mono ?_;rintro e w' ⟨rfl,rfl⟩;refine⟨_,.tuple [],[aj.vQ ([Kd.str]:List Kd).length 0 []],rfl,⟨rfl,?_⟩,E.ae,E.X.r,by simp[ad,aw],?_,?_⟩
  ·simp[gl,G.rZ]
  ·rw[<- U]
   exact HE
  ·rw[<- U]
   exact ah.le.refl E
 ·have hpos:0<(gi d 0).rZ.length:=List.length_pos_iff.2 M
  rcases HE.obj 0 _ O with⟨_,e2⟩|⟨b,m,N,v,hm,hcl,hr⟩
  grind
  obtain⟨_,o,ho,hc⟩:=hv b m N;have hmm:(gi d 0).rZ.length<=m:=ab;have ho:o=0:=by have:=ho ab; omega
  subst ho;generalize hrs:(gi d 0).rZ=rZ at *;rw[hc];have I:b<E.w.heap.size:=(HE.lt 0 b m N).1;have hcell:∀j x,rZ[j]?=some x->E.w.cell? ⟨b,0+j,none⟩=some (.string (gi x 0).sV):=fun j x hj=>by
   have hx:(rZ.map (aY [.str]))[j]?=some (aY [.str] x):=by rw[dw,hj]; rfl
   have:=SE hs (oQ hr hx).2 0 e_;rw[show (ff [Kd.str] x)[0]! =Value.string (gi x 0).sV from rfl]at this
   grind
  have W:Go.Sort.Holds encStr E.w b 0 (rZ.map fun r=>(gi r 0).sV.data.toList).toArray:=by
   intro j hj;have hj':j<rZ.length:=gB;refine⟨?_,?_⟩
   simp_all
   ·obtain⟨cs,el,h1,_⟩:=v
    simp[World.frozen?,h1]
  have hc5:=AnyM.slices_Sort_string L b 0 (m-0) (rZ.map fun r=>(gi r 0).sV.data.toList) E.w W I bS;rw[cP]at hc5;refine hc5.mono ?_;rintro e w' ⟨rfl,n,os,rfl⟩;refine⟨_,.tuple [],_,rfl,⟨rfl,rfl⟩,?_⟩;have hh:=Go.Sort.holds_grow encStr _ os b 0 _ (by show b<(Ev _ (vr E.w n) b 0 _).heap.size; rw[size_putRow]; exact I) (Go.Sort.holds_putRow encStr (vr E.w n) b 0 _ ((rZ.map fun r=>(gi r 0).sV.data.toList).mergeSort fun x y=>decide (x<=y)).toArray W au);refine SH (K:=[.str]) (rows':=gl rZ) HE hs hH N v hr (by rw[ur]; exact hmm) ?_ ?_ ?_ ?_ ?_;simp
  grind[Ev,xK,vq,vr]
  ·obtain⟨cs,el,g1,g2⟩:=v
   unfold Ev xK;unfold isRow;simp only[];rw[Array.getElem?_append_left (by simpa[vq,vr]using I)];simp only[vq,vr,Array.getElem?_modify,if_true,g1,ki];exact⟨_,_,rfl,by simp[Go.Sort.putCells,g2]⟩
  ·intro i c hi hc
   rw[ur]at hi;have hc0:c=0:=gB;subst hc0;have:=(hh i (by simpa using hi)).1;rw[show i*([Kd.str]:List Kd).length+0=0+i by simp];rw[this];have hi':i<((rZ.map fun r=>(gi r 0).sV.data.toList).mergeSort fun x y=>decide (x<=y)).length:=Ba;rw[getElem!_pos _ i (by simpa using hi')];simp only[gl,List.getD_eq_getElem?_getD,dw,List.getElem?_eq_getElem hi',ki,Option.getD_some,List.getElem_toArray];rfl
  ·exact⟨rfl,rfl,rfl,fun _=>Nat.le_add_right _ _⟩
end
end Go.AL
