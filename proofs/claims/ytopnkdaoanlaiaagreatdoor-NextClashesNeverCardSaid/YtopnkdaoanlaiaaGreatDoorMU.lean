/-
 What is proved here: strings.Builder's methods: what they do to the builder's two blocks,and that they leave all other blocks alone. No program in sight; what is asked is that the library's text lies in the program.
-/
import Derived.Test.YtopnkdaoanlaiaaGreatDoorMG
import Derived.Shelf.Strings.BuilderF
import Derived.Shelf.Strings.OnBuilder
import Derived.Shelf.Strings.SplitCore
import Derived.Shelf.Strings.Count
import Derived.Shelf.Strings.Search3
import Derived.Shelf.Strconv.Atoi
import Derived.Lib.SplitLaws
set_option linter.all false
open Nat renaming ble→cR
namespace Go.AL
open Go Go.Proofs Go.Shelf Go.RowKit
section
variable {P:Program} {ρ:Ren}
structure Bld (w w':World) (b:Nat) (g:Option Nat):Prop where
 os:w'.os=w.os
 tape:w'.tape=w.tape
 output:w'.output=w.output
 size:w.heap.size≤w'.heap.size
 block:∀ k,k<w.heap.size→k≠b→some k≠g→w'.heap[k]? = w.heap[k]?
end
end Go.AL

namespace Go.AL
open Go Go.Proofs Go.Shelf Go.RowKit
variable [Dr]
section
variable {P:Program} {ρ:Ren}
structure ai8 (E:Env) (T B:TypeId) (s:ByteArray) (b n:Nat) (p v:Value) (k:Nat) (q:Option (Nat × Nat)):Prop where
 loc:E.loc[0]? = some (some (b,n))
 wG:E.w.heap[b]? = some (.cells #[p,v] T (0,0))
 ptr:p=.pointer none∨p=.pointer (some ⟨b,0,none⟩)
 ent:(E.X.r 0)[k]? = some (some q)
 only:∀(h':Nat) q',(E.X.r 0)[h']? = some (some q')→h'=k
 buf:yx E.w B s v q
 own:E.w.ownsRowF 0 B 1 v s.data.toList.length (Lib.byteCells s.data.toList)
 ne:v.ownBlock≠some b
 ai':v.ownBlock=q.map (·.1)
end
end Go.AL

namespace Go.AL
open Go Go.Proofs Go.Shelf Go.RowKit
variable [Dr]
def mE(rows:List (List G)):List ByteArray:=rows.map fun r=>(gi r 0).str
def iC(rows:List (List G))(sep:ByteArray):ByteArray:=⟨(Lib.join ((mE rows).map (·.data.toList)) sep.data.toList).toArray⟩
noncomputable def wL(d:List G):Option (List G) :=
 bif cR (gi d 0).rows.length 1048576&&cR (iC (gi d 0).rows (gi d 1).str).size 140737488355328 then some [.s (iC (gi d 0).rows (gi d 1).str)] else none
section
variable {P:Program} {ρ:Go.Shelf.Ren}
theorem XK{E:Env}{rows:List (List G)}{c:Value}(h:rel E (.listF [.str] rows) c):∃ base cap,c=.slice base rows.length cap∧rows.length≤cap∧(rows=[]∨∃ b o,base=some ⟨b,o,none⟩∧E.ic b∧∀(i:Nat) x,(mE rows)[i]? = some x→E.w.cell? ⟨b,o+i,none⟩=some (.string x)):=by
 simp only[rel,dC]at h;obtain⟨base,cap,rfl,h1,d⟩:=h;refine⟨base,cap,rfl,h1,?_⟩;rcases d with d|⟨b,o,rfl,k,q⟩
 ·exact .inl d
 ·refine .inr ⟨b, o, rfl, k, fun i x hi => ?_⟩
  unfold mE at hi;rw[List.getElem?_map]at hi;cases g:rows[i]? with
  |none=>rw[g]at hi; cases hi
  | some r =>
   rw[g]at hi;cases hi;have:=q i r g;simp only[jH,dC,and_true]at this;obtain⟨v,g1,_,g2⟩:=this;have g1:E.w.cell? ⟨b,o+i,none⟩=some v:=by simpa using g1
   rw[g1,g2];cases r<;>rfl
theorem XL(J:CE=false)(L:Lays.n156 P ρ)(X:Builder.Extra P ρ)(d r:List G)(h:wL d=some r) :
  cg P (ρ.f 156) (dL [] [.s (.list [.str]),.s .str] d) [] (ct (dL [] [.s .str] r)) []:=by
 unfold wL at h;cases q:(cR (gi d 0).rows.length 1048576&&cR (iC (gi d 0).rows (gi d 1).str).size 140737488355328)with
 |false=>rw[q]at h; cases h
 | true =>
  rw[q]at h;cases h;simp only[Bool.and_eq_true,Nat.ble_eq]at q;obtain⟨W,Y⟩:=q;have M:d.headD default=gi d 0:=rfl;have N:d.tail.headD default=gi d 1:=by
   cases d with
   |nil=>rfl
   |cons x l=>cases l<;>rfl
  intro E cargs hH HE g;simp only[dL,lz,eA,dv,ew.sz,Sh.sz,ct,M,N]at g⊢;generalize R:(gi d 0).rows=rows at *;generalize U:(gi d 1).str=sep at *;obtain⟨cs⟩:=cargs
  match cs,g with
  | [c0,c1],g =>
  simp only[ad,and_true]at g;obtain⟨h0,h1⟩:=g;simp only[rel]at h1;subst h1;obtain⟨base,cap,rfl,hc,I⟩:=XK h0;have hlen:(mE rows).length=rows.length:=by simp[mE]
  have hsz:(iC rows sep).size=(Lib.join ((mE rows).map (·.data.toList)) sep.data.toList).length:=by simp[iC,ByteArray.size]
  have key:Calls P (ρ.f 156) #[.slice base rows.length cap,.string sep] E.w fun e w'=>e=.returned (.string (iC rows sep))∧Below E.w.heap.size E.w w':=by
   rcases I with rfl|⟨b,o,rfl,aL,F⟩
   ·exact(Any.strings_Join_none L X base cap sep E.w).mono fun e w' ⟨he,hw⟩=>⟨he,hw▸Below.refl _ _⟩
   ·have := Any.strings_Join L X b o cap (mE rows) sep E.w F aL.1 (by omega) (by omega) (by omega)
    rw[hlen]at this;exact this
  refine key.mono ?_;rintro e w' ⟨rfl,k⟩;have A:Ext E.w w':=⟨k.size,fun x O=>k.block x O,k.os,k.output,k.tape,fun B=>by rw[J]at B; cases B⟩
  refine⟨_,_,_,rfl,⟨rfl,rfl⟩,E.loc,E.X.r,by simp[rel,G.str],?_,?_⟩
  ·rw[←hH]; exact HE.ext A
  ·rw[←hH]; exact Env.gd A
end
end Go.AL
