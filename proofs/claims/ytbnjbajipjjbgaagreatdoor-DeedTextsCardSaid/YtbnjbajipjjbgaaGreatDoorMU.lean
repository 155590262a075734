/-
 What is proved here: strings.Builder's methods: what they do to the builder's two blocks,and that they leave all other blocks alone. No program in sight; what is asked is that the library's text lies in the program.
-/
import Derived.Test.YtbnjbajipjjbgaaGreatDoorMG
import Derived.Shelf.Strings.BuilderF
import Derived.Shelf.Strings.OnBuilder
import Derived.Shelf.Strings.SplitCore
import Derived.Shelf.Strings.Count
import Derived.Shelf.Strings.Search3
import Derived.Shelf.Strconv.Atoi
import Derived.Lib.SplitLaws
import Derived.Shelf.Strings.IndexAnyAll
import Derived.Shelf.Strings.Runes
import Derived.Shelf.Strings.AsciiSet
set_option linter.all false
namespace Go.AL
open Go Go.Proofs Go.Shelf Go.RowKit
section
variable {P:Program} {ρ:Ren}
def capV:Value→Nat
 | .slice _ _ c=>c
 | _=>0
theorem app_exact (w:World) (t u ty e:TypeId) (i:TypeInfo) (ht:P.underlying t=some (.slice e)) (hu:P.underlying u=some .string) (hi:P.info? e=some i) (hz:i.zero=some (.int .u8 0)) (hsize:i.size=1) (hby:i.bytes=1)
  (v:Value) (n:Nat) (xs:List Value) (hown:w.ownsRowF 0 e 1 v n xs) (s:ByteArray) (hbytes:n+s.size≤140737488355328) :
  ∃ v' w',(Builtin.append_ #[t,u] ty #[v,.string s]).run P w=.ok v' w'∧w'.ownsRowF 0 e 1 v' (n+s.size) (xs++Lib.strCells s)∧w.grownBy w' v.ownBlock∧((v'.ownBlock=v.ownBlock∧capV v'=capV v)∨v'.ownBlock=some w.heap.size):=by
 obtain ⟨v',w',h1,h2,h3,h4⟩:=Lib.run_append_own_stringF (P:=P) w 0 t u ty e i ht hu hi hz hsize hby v n xs hown s (by unfold maxLen; omega) hbytes (Nat.zero_le _)
 refine ⟨v',w',h1,h2,h3,?_⟩
 have det:∀ (v2:Value) (w2:World),(Builtin.append_ #[t,u] ty #[v,.string s]).run P w=.ok v2 w2→v'=v2:=fun v2 w2 hr=>by
  rw [h1] at hr
  cases hr
  rfl
 rcases hown.2 with ⟨rfl,rfl⟩ | ⟨g,cap,cur,fz,rfl,hbg,hg,hfz,hnc,hcm,hcs,htake⟩
 ·by_cases hm : s.size = 0
  ·left
   rw [h4.2 ⟨rfl,hm⟩]
   exact ⟨rfl,rfl⟩
  ·right
   have hr:=run_append_nil_string (P:=P) w t u ty e i (.int .u8 0) ht hu hi hz s (by omega) (by omega) (by rw [hby]; omega)
   rw [det _ _ hr]
   rfl
 ·by_cases hroom : n + s.size ≤ cap
  ·left
   have hcs':cur.size=cap:=by simpa using hcs
   have hr:=Lib.run_append_room_stringF (P:=P) w t u ty e i ht hu hi hsize g n cap cur fz hg (by simpa using hfz) s hroom (by omega)
   rw [det _ _ hr]
   exact ⟨rfl,rfl⟩
  ·right
   have hxl:xs.length=n:=by simpa using hown.1
   have holds:∀ j u,xs[j]? = some u→w.cell? ((⟨g,0,none⟩:Addr).add j)=some u:=hown.cells (g:=g) rfl
   have hr:=Lib.run_append_grow_string (P:=P) w t u ty e i (.int .u8 0) ht hu hi hz ⟨g,0,none⟩ n cap xs (by rw [hsize]; simpa using hxl) holds s (by omega) (by omega) (by rw [hby]; exact growslice_fits (by omega) (by omega))
   rw [det _ _ hr]
   rfl
theorem wpList_app {ops:Array Oper} {rest:List Oper} {o:Oper} {a:Act} {Q:Exit→Act→World→Prop} {w:World} (hgd:o.guard=none) (sl x:Operand) (t u:TypeId)
  (ho:o.op=.call { callee:=.builtin .append,args:=#[sl,x],argTypes:=#[t,u] })
  (e:TypeId) (i:TypeInfo) (ht:P.underlying t=some (.slice e)) (hu:P.underlying u=some .string) (hi:P.info? e=some i) (hz:i.zero=some (.int .u8 0)) (hsize:i.size=1) (hby:i.bytes=1)
  (v:Value) (n:Nat) (xs:List Value) (hs:a.eval sl=v) (hown:w.ownsRowF 0 e 1 v n xs) (s:ByteArray) (hx:a.eval x=.string s) (hbytes:n+s.size≤140737488355328)
  (h:∀ v' w',w'.ownsRowF 0 e 1 v' (n+s.size) (xs++Lib.strCells s)→w.grownBy w' v.ownBlock→((v'.ownBlock=v.ownBlock∧capV v'=capV v)∨v'.ownBlock=some w.heap.size)→wpList P ops Q rest (a.put o.dst v') w'):wpList P ops Q (o::rest) a w:=by
 refine wpList_plain hgd fun K hK=>?_
 obtain ⟨v',w',hr,h2,h3,h4⟩:=app_exact (P:=P) w t u o.type e i ht hu hi hz hsize hby v n xs hown s hbytes
 unfold Oper.wp execOp
 simp only [ho,resolve,invoke,builtin,Sem.run_bind,Sem.run_pure,Result.andThen_ok,List.map_toArray,List.map_cons,List.map_nil,hs,hx,hr]
 exact hK _ _ (h v' w' h2 h3 h4)
structure Bld (w w':World) (b:Nat) (g:Option Nat):Prop where
 os:w'.os=w.os
 tape:w'.tape=w.tape
 output:w'.output=w.output
 size:w.heap.size≤w'.heap.size
 block:∀ k,k<w.heap.size→k≠b→some k≠g→w'.heap[k]? = w.heap[k]?
theorem setCell_size (w:World) (a:Addr) (v:Value):(w.setCell a v).heap.size=w.heap.size:=by simp [World.setCell]
theorem setCell_heap0 {w:World} {b:Nat} {p q v:Value} {T:TypeId} (h:w.heap[b]? = some (.cells #[p,v] T (0,0))):(w.setCell ⟨b,0,none⟩ q).heap[b]? = some (.cells #[q,v] T (0,0)):=by
 simp [World.setCell,Array.getElem?_modify,h]
theorem setCell_heap1 {w:World} {b:Nat} {p q v:Value} {T:TypeId} (h:w.heap[b]? = some (.cells #[p,v] T (0,0))):(w.setCell ⟨b,1,none⟩ q).heap[b]? = some (.cells #[p,q] T (0,0)):=by
 simp [World.setCell,Array.getElem?_modify,h]
theorem bld_copy (L:Lays.n240 P ρ) (X:Builder.X72 P ρ) (b:Nat) (p v:Value) (w:World) (hp:p=.pointer none∨p=.pointer (some ⟨b,0,none⟩)) (hbk:w.heap[b]? = some (.cells #[p,v] (ρ.t 72) (0,0))) :
  Calls P (ρ.f 240) #[.pointer (some ⟨b,0,none⟩)] w fun e w'=>e=.returned (.tuple #[])∧w'.heap[b]? = some (.cells #[.pointer (some ⟨b,0,none⟩),v] (ρ.t 72) (0,0))∧Bld w w' b none∧w'.heap.size=w.heap.size:=by
 rcases hp with rfl | rfl
 ·refine (Any.Builder_copyCheck_fresh L X b w (by rw [Lib.cell_of_heap hbk]; rfl) (by simp [World.shape?, hbk]) (Lib.frozen_of_heap hbk 0)).mono ?_
  rintro e w' ⟨rfl,rfl⟩
  exact ⟨rfl,setCell_heap0 hbk,⟨rfl,rfl,rfl,by rw [setCell_size]; exact Nat.le_refl _,fun k _ hk _=>Below.heap_setCell _ _ _ _ (fun e=>hk e)⟩,setCell_size _ _ _⟩
 ·refine (Any.Builder_copyCheck_used L X b w (by rw [Lib.cell_of_heap hbk]; rfl)).mono ?_
  rintro e w' ⟨rfl,rfl⟩
  exact ⟨rfl,hbk,⟨rfl,rfl,rfl,Nat.le_refl _,fun _ _ _ _=>rfl⟩,rfl⟩
set_option maxHeartbeats 2000000 in
set_option maxRecDepth 100000 in
theorem bld_write (L:Lays.n166 P ρ) (X:Builder.Extra P ρ) (b:Nat) (p v:Value) (bs:List Value) (s:ByteArray) (w:World) (hp:p=.pointer none∨p=.pointer (some ⟨b,0,none⟩)) (hbk:w.heap[b]? = some (.cells #[p,v] (ρ.t 72) (0,0)))
  (hown:w.ownsRowF 0 (ρ.t 5) 1 v bs.length bs) (hne:v.ownBlock≠some b) (hlen:bs.length+s.size≤140737488355328) :
  Calls P (ρ.f 166) #[.pointer (some ⟨b,0,none⟩),.string s] w fun e w'=>e=.returned (.tuple #[.int .i64 s.size,.nilIface])∧∃ v',w'.heap[b]? = some (.cells #[.pointer (some ⟨b,0,none⟩),v'] (ρ.t 72) (0,0)) ∧
   w'.ownsRowF 0 (ρ.t 5) 1 v' (bs.length+s.size) (bs++Lib.strCells s)∧((v'.ownBlock=v.ownBlock∧capV v'=capV v)∨v'.ownBlock=some w.heap.size)∧Bld w w' b v.ownBlock:=by
 obtain ⟨i0,hi,hz0,hz1,hz2⟩:=info_parts X.infoByte
 have mixed:=L.mixed
 have t72:=L.t72; have a72:=L.a72; have z72:=L.z72; have v72:=L.v72; have u72:=run_underlying L.t72
 have t70:=L.t70; have a70:=L.a70; have z70:=L.z70; have v70:=L.v70; have u70:=run_underlying L.t70
 have t37:=L.t37; have a37:=L.a37; have z37:=L.z37; have v37:=L.v37; have u37:=run_underlying L.t37
 have t3:=L.t3; have a3:=L.a3; have z3:=L.z3; have v3:=L.v3; have u3:=run_underlying L.t3
 have t9:=L.t9; have a9:=L.a9; have z9:=L.z9; have v9:=L.v9; have u9:=run_underlying L.t9
 have t4:=L.t4; have a4:=L.a4; have z4:=L.z4; have v4:=L.v4; have u4:=run_underlying L.t4
 have t164:=L.t164; have a164:=L.a164; have z164:=L.z164; have v164:=L.v164; have u164:=run_underlying L.t164
 have t5:=X.t5; have a5:=X.a5; have z5:=X.z5; have v5:=X.v5; have u5:=run_underlying X.t5
 have e240:∀ args w,(callFunc (ρ.f 240) args).run P w=.ok (.enter (ρ.f 240) args) w:=enters_of L.f240 (by kernel_rfl) rfl
 go_enter L.f166,Body.n166_ntmps ρ
 go_wp2_with (go_at_fn (ρ.f 240); refine (bld_copy { L with } X.toX72 b p v _ hp hbk).mono ?_)
 rintro e w1 ⟨rfl,hb1,hB1,hs1⟩
 have hown1:w1.ownsRowF 0 (ρ.t 5) 1 v bs.length bs:=hown.kept (row:=some b) ⟨hB1.os,hB1.tape,hB1.output,hB1.size,fun k hk hkb=>hB1.block k hk (fun e=>hkb (by rw [e])) (by simp)⟩ (Or.inr hne)
 have c0:w1.cell? ⟨b,0,none⟩=some (.pointer (some ⟨b,0,none⟩)):=by rw [Lib.cell_of_heap hb1]; rfl
 have c1:w1.cell? ⟨b,1,none⟩=some v:=by rw [Lib.cell_of_heap hb1]; rfl
 go_wp2_with (at_builtin; refine wpList_app rfl _ _ (ρ.t 37) (ρ.t 9) rfl (ρ.t 5) i0 L.t37 L.t9 hi hz0 hz1 hz2 _ _ _ rfl hown1 s rfl ?c3 ?_)
 case c3=>omega
 intro v' w2 hown' hgrow hblk
 have hlt:b<w1.heap.size:=by
  rcases Nat.lt_or_ge b w1.heap.size with h' | h'
  ·exact h'
  ·simp [Array.getElem?_eq_none h'] at hb1
 have hb2:w2.heap[b]? = some (.cells #[.pointer (some ⟨b,0,none⟩),v] (ρ.t 72) (0,0)):=by
  rw [hgrow.block b hlt (fun e=>hne e.symm)]
  exact hb1
 have d0:w2.cell? ⟨b,0,none⟩=some (.pointer (some ⟨b,0,none⟩)):=by rw [Lib.cell_of_heap hb2]; rfl
 have d1:w2.cell? ⟨b,1,none⟩=some v:=by rw [Lib.cell_of_heap hb2]; rfl
 have f1:w2.frozen? ⟨b,1,none⟩=false:=Lib.frozen_of_heap hb2 1
 obtain ⟨ao,n',cap,rfl⟩:∃ ao n' cap,v'=.slice ao n' cap:=by
  rcases hown'.2 with ⟨hv,_⟩ | ⟨g,cap,cur,fz,hv,_⟩
  ·exact ⟨_,_,_,hv⟩
  ·exact ⟨_,_,_,hv⟩
 go_wp2
 go_ret2
 have hne':(Value.slice ao n' cap).ownBlock≠some b:=by
  rcases hblk with h | h
  ·rw [h.1]; exact hne
  ·rw [h]
   intro e
   simp only [Option.some.injEq] at e
   omega
 refine ⟨rfl,_,setCell_heap1 hb2,hown'.kept (row:=some b) ⟨rfl,rfl,rfl,by rw [setCell_size]; exact Nat.le_refl _,fun k _ hk=>Below.heap_setCell _ _ _ _ (fun e=>hk (by simp [e]))⟩ (Or.inr hne'),hblk,?_⟩
 exact ⟨by show w2.os=_; rw [hgrow.os,hB1.os],by show w2.tape=_; rw [hgrow.tape,hB1.tape],by show w2.output=_; rw [hgrow.output,hB1.output],by rw [setCell_size]; have:=hgrow.size; have:=hB1.size; omega,fun k hk hkb hkg=>by
  rw [Below.heap_setCell _ _ _ _ (fun e=>hkb e),hgrow.block k (by have:=hB1.size; omega) hkg,hB1.block k hk hkb (by simp)]⟩
theorem own_row {w:World} {T:TypeId} {v:Value} {l:List UInt8} {g m:Nat} (h1:v=.slice (some ⟨g,0,none⟩) l.length m) {cs:Array Value} {fz:Nat × Nat} (h2:w.heap[g]? = some (.cells cs T fz)) (h3:fz.2≤l.length) (h4:cs.size=m) (h5:l.length≤m)
  (h6:m≤9223372036854775807) (h7:cs.toList.take l.length=Lib.byteCells l):w.ownsRowF 0 T 1 v (Lib.byteCells l).length (Lib.byteCells l):=by
 refine ⟨by simp,.inr ⟨g,m,cs,fz,by rw [h1,Lib.byteCells_length],Nat.zero_le _,h2,by rw [Lib.byteCells_length]; omega,by rw [Lib.byteCells_length]; omega,by unfold maxLen; omega,by omega,?_⟩⟩
 rw [Lib.byteCells_length,Nat.mul_one]
 exact h7
set_option maxHeartbeats 2000000 in
set_option maxRecDepth 100000 in
theorem bld_string (L:Lays.n169 P ρ) (X:Builder.Extra P ρ) (b:Nat) (p v:Value) (l:List UInt8) (w:World) (hbk:w.heap[b]? = some (.cells #[p,v] (ρ.t 72) (0,0)))
  (hown:w.ownsRowF 0 (ρ.t 5) 1 v l.length (Lib.byteCells l)) (hne:v.ownBlock≠some b) :
  Calls P (ρ.f 169) #[.pointer (some ⟨b,0,none⟩)] w fun e w'=>e=.returned (.string ⟨l.toArray⟩)∧w'.heap[b]? = some (.cells #[p,v] (ρ.t 72) (0,0))∧Bld w w' b v.ownBlock ∧
   (∀ g cs fz,v.ownBlock=some g→w.heap[g]? = some (.cells cs (ρ.t 5) fz)→fz.2≤l.length→∃ fz',w'.heap[g]? = some (.cells cs (ρ.t 5) fz')∧fz'.2≤l.length):=by
 have hlt:b<w.heap.size:=by
  rcases Nat.lt_or_ge b w.heap.size with h' | h'
  ·exact h'
  ·simp [Array.getElem?_eq_none h'] at hbk
 have mixed:=L.mixed
 have t72:=L.t72; have a72:=L.a72; have z72:=L.z72; have v72:=L.v72; have u72:=run_underlying L.t72
 have t70:=L.t70; have a70:=L.a70; have z70:=L.z70; have v70:=L.v70; have u70:=run_underlying L.t70
 have t37:=L.t37; have a37:=L.a37; have z37:=L.z37; have v37:=L.v37; have u37:=run_underlying L.t37
 have t127:=L.t127; have a127:=L.a127; have z127:=L.z127; have v127:=L.v127; have u127:=run_underlying L.t127
 have t3:=L.t3; have a3:=L.a3; have z3:=L.z3; have v3:=L.v3; have u3:=run_underlying L.t3
 have t9:=L.t9; have a9:=L.a9; have z9:=L.z9; have v9:=L.v9; have u9:=run_underlying L.t9
 have t5:=X.t5; have a5:=X.a5; have z5:=X.z5; have v5:=X.v5; have u5:=run_underlying X.t5
 rcases hown.2 with ⟨rfl,hz⟩ | ⟨g,cap,cur,fz,rfl,hbg,hg,hfz,hnc,hcm,hcs,htake⟩
 ·-- nothing was written
  have hl:l=[]:=List.eq_nil_of_length_eq_zero hz
  subst hl
  have hUS:=Any.unsafeString_none L X
  have c1:w.drew.cell? ⟨b,1,none⟩=some (.slice none 0 0):=by
   have:w.drew.heap[b]? = some (.cells #[p,.slice none 0 0] (ρ.t 72) (0,0)):=hbk
   rw [Lib.cell_of_heap this]; rfl
  have hSD:(Builtin.unsafeSliceData_ #[(ρ.t 37)] (ρ.t 127) #[.slice none 0 0]).run P w.drew=.ok (.pointer none) w.drew:=rfl
  go_enter L.f169,Body.n169_ntmps ρ
  go_wp2
  go_region_o
  all_goals (go_wp2; go_ret; exact ⟨rfl,hbk,⟨rfl,rfl,rfl,Nat.le_refl _,fun _ _ _ _=>rfl⟩,fun g cs fz hg=>by simp [Value.ownBlock] at hg⟩)
 ·have hgb : g ≠ b := fun e => hne (by simp [Value.ownBlock, e])
  by_cases hl0:l=[]
  ·subst hl0
   have hUS:=Any.unsafeString_none L X
   simp only [List.length_nil] at *
   by_cases hc0:cap=0
   ·subst hc0
    have c1:w.drew.cell? ⟨b,1,none⟩=some (.slice (some ⟨g,0,none⟩) 0 0):=by
     have:w.drew.heap[b]? = some (.cells #[p,.slice (some ⟨g,0,none⟩) 0 0] (ρ.t 72) (0,0)):=hbk
     rw [Lib.cell_of_heap this]; rfl
    have hSD:(Builtin.unsafeSliceData_ #[(ρ.t 37)] (ρ.t 127) #[.slice (some ⟨g,0,none⟩) 0 0]).run P w.drew=.ok (.pointer (some ⟨w.drew.heap.size,0,none⟩)) (w.drew.alloc (.view ⟨g,0,none⟩ (ρ.t 5))) :=
     Lib.run_unsafeSliceData_zero w.drew _ _ (ρ.t 5) L.t127 ⟨g,0,none⟩ 0 ((ρ.t 5),cur.size) (by have hg':w.drew.heap[g]? = some (.cells cur (ρ.t 5) fz):=hg; simp [World.shape?,hg'])
    have c2:(w.drew.alloc (.view ⟨g,0,none⟩ (ρ.t 5))).cell? ⟨b,1,none⟩=some (.slice (some ⟨g,0,none⟩) 0 0):=by
     have:(w.drew.alloc (.view ⟨g,0,none⟩ (ρ.t 5))).heap[b]? = _:=(Lib.alloc_old w.drew _ b hlt).trans hbk
     rw [Lib.cell_of_heap this]; rfl
    have c3:(w.alloc (.view ⟨g,0,none⟩ (ρ.t 5))).drew.cell? ⟨b,1,none⟩=some (.slice (some ⟨g,0,none⟩) 0 0):=c2
    have c0:w.cell? ⟨b,1,none⟩=some (.slice (some ⟨g,0,none⟩) 0 0):=c1
    have hglt:g<w.heap.size:=(Array.getElem?_eq_some_iff.1 hg).1
    have hold:∀ k,k<w.heap.size→(w.alloc (.view ⟨g,0,none⟩ (ρ.t 5))).heap[k]? = w.heap[k]? := fun k hk=>Lib.alloc_old w _ k hk
    have fin:(w.alloc (.view ⟨g,0,none⟩ (ρ.t 5))).heap[b]? = some (.cells #[p,.slice (some ⟨g,0,none⟩) 0 0] (ρ.t 72) (0,0))∧Bld w (w.alloc (.view ⟨g,0,none⟩ (ρ.t 5))) b (Value.ownBlock (.slice (some ⟨g,0,none⟩) 0 0)) ∧
      (∀ g' cs fz,Value.ownBlock (.slice (some ⟨g,0,none⟩) 0 0)=some g'→w.heap[g']? = some (.cells cs (ρ.t 5) fz)→fz.2≤0→∃ fz',(w.alloc (.view ⟨g,0,none⟩ (ρ.t 5))).heap[g']? = some (.cells cs (ρ.t 5) fz')∧fz'.2≤0) :=
     ⟨by rw [hold b hlt]; exact hbk, ⟨rfl, rfl, rfl, by simp [World.size_alloc], fun k hk _ _ => hold k hk⟩, fun g' cs fz hg' h1 h2 => ⟨fz, by
      simp only [Value.ownBlock,Option.map_some,Option.some.injEq] at hg'
      subst hg'
      rw [hold _ hglt]; exact h1,h2⟩⟩
    go_enter L.f169,Body.n169_ntmps ρ
    go_wp2
    go_region_o
    all_goals (go_wp2; go_ret; exact ⟨rfl,fin.1,⟨rfl,rfl,rfl,fin.2.1.size,fin.2.1.block⟩,fin.2.2⟩)
   ·have c1:w.drew.cell? ⟨b,1,none⟩=some (.slice (some ⟨g,0,none⟩) 0 cap):=by
     have:w.drew.heap[b]? = some (.cells #[p,.slice (some ⟨g,0,none⟩) 0 cap] (ρ.t 72) (0,0)):=hbk
     rw [Lib.cell_of_heap this]; rfl
    have hSD:(Builtin.unsafeSliceData_ #[(ρ.t 37)] (ρ.t 127) #[.slice (some ⟨g,0,none⟩) 0 cap]).run P w.drew=.ok (.pointer (some ⟨g,0,none⟩)) w.drew :=
     Lib.run_unsafeSliceData_row _ _ _ _ _ _ hc0
    clear hc0
    go_enter L.f169,Body.n169_ntmps ρ
    go_wp2
    go_region_o
    all_goals (go_wp2; go_ret; exact ⟨rfl,hbk,⟨rfl,rfl,rfl,Nat.le_refl _,fun _ _ _ _=>rfl⟩,fun g cs fz _ h1 h2=>⟨fz,h1,h2⟩⟩)
  ·have hl1 : l.length ≠ 0 := by simpa using hl0
   have c1:w.drew.cell? ⟨b,1,none⟩=some (.slice (some ⟨g,0,none⟩) l.length cap):=by
    have:w.drew.heap[b]? = some (.cells #[p,.slice (some ⟨g,0,none⟩) l.length cap] (ρ.t 72) (0,0)):=hbk
    rw [Lib.cell_of_heap this]; rfl
   have hSD:(Builtin.unsafeSliceData_ #[(ρ.t 37)] (ρ.t 127) #[.slice (some ⟨g,0,none⟩) l.length cap]).run P w.drew=.ok (.pointer (some ⟨g,0,none⟩)) w.drew :=
    Lib.run_unsafeSliceData_row _ _ _ _ _ _ (by omega)
   have hUS:(Builtin.unsafeString_ #[(ρ.t 127),(ρ.t 3)] (ρ.t 9) #[.pointer (some ⟨g,0,none⟩),.int .i64 l.length]).run P w.drew=.ok (.string ⟨l.toArray⟩) (w.drew.freeze ⟨g,0,none⟩ l.length):=by
    refine Lib.run_unsafeString_row w.drew (ρ.t 127) (ρ.t 3) (ρ.t 9) (ρ.t 5) L.t127 X.cellsByte g cur.size (by have hg':w.drew.heap[g]? = some (.cells cur (ρ.t 5) fz):=hg; simp [World.shape?,hg']) l hl0 (by omega) (by unfold maxLen at hcm; omega) ?_
    intro j x hx
    exact hown.cells (g:=g) rfl j (.int .u8 x.toNat) (by simp [Lib.byteCells,hx])
   have hF:(w.drew.freeze ⟨g,0,none⟩ l.length).heap=w.heap.modify g fun
     | .cells c elem (lo,hi)=>.cells c elem (if lo==hi then (0,0+l.length) else (min lo 0,max hi (0+l.length)))
     | o=>o:=by
    unfold World.freeze
    rw [if_neg hl1]
    rfl
   have hsz:(w.drew.freeze ⟨g,0,none⟩ l.length).heap.size=w.heap.size:=by rw [hF]; simp
   have hoth:∀ k,k≠g→(w.drew.freeze ⟨g,0,none⟩ l.length).heap[k]? = w.heap[k]? := fun k hk=>by rw [hF]; simp [Array.getElem?_modify,Ne.symm hk]
   have hstr:(w.drew.freeze ⟨g,0,none⟩ l.length).os=w.os∧(w.drew.freeze ⟨g,0,none⟩ l.length).tape=w.tape∧(w.drew.freeze ⟨g,0,none⟩ l.length).output=w.output:=by
    unfold World.freeze
    rw [if_neg hl1]
    exact ⟨rfl,rfl,rfl⟩
   obtain ⟨W,hW⟩:∃ W,w.drew.freeze ⟨g,0,none⟩ l.length=W:=⟨_,rfl⟩
   rw [hW] at hUS hF hsz hoth hstr
   have fin:W.heap[b]? = some (.cells #[p,.slice (some ⟨g,0,none⟩) l.length cap] (ρ.t 72) (0,0))∧Bld w W b (Value.ownBlock (.slice (some ⟨g,0,none⟩) l.length cap)) ∧
     (∀ g' cs fz,Value.ownBlock (.slice (some ⟨g,0,none⟩) l.length cap)=some g'→w.heap[g']? = some (.cells cs (ρ.t 5) fz)→fz.2≤l.length→∃ fz',W.heap[g']? = some (.cells cs (ρ.t 5) fz')∧fz'.2≤l.length):=by
    refine ⟨by rw [hoth b (Ne.symm hgb)]; exact hbk,⟨hstr.1,hstr.2.1,hstr.2.2,by omega,fun k _ _ hk=>hoth k fun e=>hk (by simp [Value.ownBlock,e])⟩,fun g' cs fz' hg' h1 h2=>?_⟩
    simp only [Value.ownBlock,Option.map_some,Option.some.injEq] at hg'
    subst hg'
    rw [hF]
    obtain ⟨lo,hi⟩:=fz'
    simp only [Array.getElem?_modify,if_true,h1,Option.map_some]
    refine ⟨_,rfl,?_⟩
    simp only at h2
    split
    ·simp
    ·show max hi (0 + l.length) ≤ l.length
     omega
   go_enter L.f169,Body.n169_ntmps ρ
   go_wp2
   go_region_o
   all_goals (go_wp2; go_ret; exact ⟨rfl,fin⟩)
end
end Go.AL

namespace Go.AL
open Go Go.Proofs Go.Shelf Go.RowKit
variable [Dr]
section
variable {P:Program} {ρ:Ren}
def bldWF (d:List G):Option (List G):=bif Nat.ble ((gi d 0).str.size+(gi d 1).str.size) 140737488355328 then some [.s ((gi d 0).str++(gi d 1).str),.i ((gi d 1).str.size:Nat)] else none
def bldLF (d:List G):Option (List G):=some [.s (gi d 0).str,.i ((gi d 0).str.size:Nat)]
def bldSF (d:List G):Option (List G):=some [.s (gi d 0).str,.s (gi d 0).str]
structure BldAt (E:Env) (T B:TypeId) (s:ByteArray) (b n:Nat) (p v:Value) (k:Nat) (q:Option (Nat × Nat)):Prop where
 loc:E.loc[0]? = some (some (b,n))
 blk:E.w.heap[b]? = some (.cells #[p,v] T (0,0))
 ptr:p=.pointer none∨p=.pointer (some ⟨b,0,none⟩)
 ent:(E.X.r 0)[k]? = some (some q)
 only:∀ (h':Nat) q',(E.X.r 0)[h']? = some (some q')→h'=k
 buf:bufRel E.w B s v q
 own:E.w.ownsRowF 0 B 1 v s.data.toList.length (Lib.byteCells s.data.toList)
 ne:v.ownBlock≠some b
 blkq:v.ownBlock=q.map (·.1)
theorem bldAt_of {E:Env} (HE:HRel E) {T B:TypeId} {s:ByteArray} (hH:E.H=[.bld 0 T B s]):∃ b n p v k q,BldAt E T B s b n p v k q:=by
 have h0:E.H[0]? = some (.bld 0 T B s):=by rw [hH]; rfl
 obtain ⟨b,n,p,v,k,q,h1,h2,h3,h4,h5,h6⟩:=HE.obj 0 _ h0
 refine ⟨b,n,p,v,k,q,h1,h2,h3,h4,h5,h6,?_,?_,?_⟩
 ·cases q with
  | none =>
   obtain ⟨rfl,hs⟩:=h6
   rw [hs]
   exact ⟨rfl,.inl ⟨rfl,rfl⟩⟩
  | some gm =>
   obtain ⟨g,m⟩:=gm
   obtain ⟨e,cs,fz,g1,g2,g3,g4,g5,g6⟩:=h6
   have:=own_row (l:=s.data.toList) e g1 g2 g3 g4 g5 g6
   rwa [Lib.byteCells_length] at this
 ·cases q with
  | none=>rw [h6.1]; simp [Value.ownBlock]
  | some gm =>
   obtain ⟨g,m⟩:=gm
   rw [h6.1]
   simp only [Value.ownBlock,Option.map_some,ne_eq,Option.some.injEq]
   intro e
   subst e
   exact HE.rloc _ _ _ _ _ _ h1 h4
 ·cases q with
  | none=>rw [h6.1]; rfl
  | some gm=>rw [h6.1]; rfl
theorem bld_arg {E:Env} {T B:TypeId} {s:ByteArray} {b n:Nat} {p v:Value} {k:Nat} {q:Option (Nat × Nat)} (hH:E.H=[.bld 0 T B s]) (hb:BldAt E T B s b n p v k q) {c:Value} (hr:rel E (.ptr 0 0 0 0 0) c):c=.pointer (some ⟨b,0,none⟩):=by
 simp only [rel] at hr
 obtain ⟨_,_,h⟩:=hr
 obtain ⟨b',n',h1,h2⟩:=h ⟨.bld 0 T B s,by rw [hH]; rfl,rfl⟩
 rw [hb.loc] at h1
 cases h1
 rw [h2]
theorem ownsRowF_slice {w:World} {B:TypeId} {v:Value} {l:List UInt8} (h:w.ownsRowF 0 B 1 v l.length (Lib.byteCells l)):(v=.slice none 0 0∧l=[])∨∃ g m cs fz,v=.slice (some ⟨g,0,none⟩) l.length m∧w.heap[g]? = some (.cells cs B fz)∧fz.2≤l.length∧cs.size=m∧l.length≤m∧m≤9223372036854775807 ∧
  cs.toList.take l.length=Lib.byteCells l:=by
 rcases h.2 with ⟨h1,h2⟩ | ⟨g,cap,cur,fz,h1,_,h3,h4,h5,h6,h7,h8⟩
 ·exact .inl ⟨h1,List.eq_nil_of_length_eq_zero h2⟩
 ·exact .inr ⟨g,cap,cur,fz,h1,h3,by omega,by omega,h5,by unfold maxLen at h6; omega,by rw [Nat.mul_one] at h8; exact h8⟩
theorem bld_env {E:Env} (HE:HRel E) (hd:tabD=false) {T B:TypeId} {s s':ByteArray} {b n:Nat} {p v:Value} {k:Nat} {q:Option (Nat × Nat)} (hH:E.H=[.bld 0 T B s]) (hb:BldAt E T B s b n p v k q) {w':World} {p' v':Value}
  (hp':p'=.pointer none∨p'=.pointer (some ⟨b,0,none⟩)) (hbk:w'.heap[b]? = some (.cells #[p',v'] T (0,0))) (hown:w'.ownsRowF 0 B 1 v' s'.data.toList.length (Lib.byteCells s'.data.toList))
  (hblk:(v'.ownBlock=v.ownBlock∧capV v'=capV v)∨v'.ownBlock=some E.w.heap.size) (hB:Bld E.w w' b v.ownBlock) :
  ∃ r',HRel { w:=w',H:=[.bld 0 T B s'],loc:=E.loc,X:=E.X.re r' }∧E.le { w:=w',H:=[.bld 0 T B s'],loc:=E.loc,X:=E.X.re r' }:=by
 have h0:E.H[0]? = some (.bld 0 T B s):=by rw [hH]; rfl
 have eset:E.H.set 0 (.bld 0 T B s')=[.bld 0 T B s']:=by rw [hH]; rfl
 have hos:SameOs E.w w':=⟨hB.os,hB.output,hB.tape,fun ht=>by rw [hd] at ht; cases ht⟩
 have hsame:∀ x,x<E.w.heap.size→(∀ n,E.loc[0]? ≠ some (some (x,n)))→(∀ (h m:Nat),(E.X.r 0)[h]? ≠ some (some (some (x,m))))→w'.heap[x]? = E.w.heap[x]? := fun x hx h1 h2 =>
  hB.block x hx (fun e=>h1 n (by rw [e]; exact hb.loc)) fun e=>by
   rw [hb.blkq] at e
   cases q with
   | none=>cases e
   | some gm =>
    obtain ⟨g,m⟩:=gm
    simp only [Option.map_some,Option.some.injEq] at e
    subst e
    exact h2 k m hb.ent
 rw [←eset]
 rcases hblk with ⟨hq1,hq2⟩ | hq
 ·-- where it was
  refine ⟨E.X.r,HRel.turnR HE h0 rfl rfl rfl hB.size hsame (fun _ _=>rfl) (fun h b m hh=>.inl hh) (fun h hh=>⟨hh,fun _ hq=>hq⟩) (fun _=>?_) hos⟩
  refine ⟨b,n,p',v',k,q,hb.loc,hbk,hp',hb.ent,hb.only,?_⟩
  rcases ownsRowF_slice hown with ⟨h1,h2⟩ | ⟨g,m,cs,fz,h1,h2,h3,h4,h5,h6,h7⟩
  ·subst h1
   rw [hb.blkq] at hq1
   cases q with
   | none=>exact ⟨rfl,h2⟩
   | some gm=>cases hq1
  ·rw [hb.blkq] at hq1
   cases q with
   | none=>rw [h1] at hq1; cases hq1
   | some gm =>
    obtain ⟨g0,m0⟩:=gm
    have hv:=hb.buf.1
    rw [h1] at hq1 hq2
    simp only [Value.ownBlock,Option.map_some,Option.some.injEq] at hq1
    subst hq1
    have:m=m0:=by rw [hv] at hq2; exact hq2
    subst this
    exact ⟨h1,cs,fz,h2,h3,h4,h5,h6,h7⟩
 ·-- in a row that is new
  rcases ownsRowF_slice hown with ⟨h1,h2⟩ | ⟨g,m,cs,fz,h1,h2,h3,h4,h5,h6,h7⟩
  ·rw [h1] at hq
   cases hq
  have hg:g=E.w.heap.size:=by
   rw [h1] at hq
   simpa [Value.ownBlock] using hq
  have hgl:g<w'.heap.size:=(Array.getElem?_eq_some_iff.1 h2).1
  have hkl:=lt_of_getElem? hb.ent
  have hget:∀ (h:Nat) x,((E.X.r 0).set k none++[some (some (g,m))])[h]? = some (some x)→h=(E.X.r 0).length∧x=some (g,m):=fun h x hx=>by
   rw [List.getElem?_append] at hx
   split at hx
   ·rename_i hlt
    rw [List.length_set] at hlt
    rw [List.getElem?_set] at hx
    split at hx
    ·cases hx
    ·rename_i hne
     exact (hne (hb.only h x hx).symm).elim
   ·rename_i hge
    rw [List.length_set] at hge hx
    cases hz:h-(E.X.r 0).length with
    | zero =>
     rw [hz] at hx
     simp at hx
     exact ⟨by omega,hx.symm⟩
    | succ n=>rw [hz] at hx; simp at hx
  refine ⟨fun l=>if l=0 then (E.X.r 0).set k none++[some (some (g,m))] else E.X.r l,HRel.turnR HE h0 rfl rfl rfl hB.size hsame (fun l hl=>if_neg hl) (fun h b m' hh=>?_) (fun h hh=>?_) (fun _=>?_) hos⟩
  ·simp only [if_true] at hh ⊢
   obtain ⟨_,h9⟩:=hget h _ hh
   simp only [Option.some.injEq,Prod.mk.injEq] at h9
   obtain ⟨rfl,rfl⟩:=h9
   right
   refine ⟨by omega,hgl,fun h' m'' hh'=>?_⟩
   rw [(hget h' _ hh').1,(hget h _ hh).1]
  ·simp only [if_true]
   refine ⟨by simp; omega,fun x hx=>?_⟩
   have:=(hget h _ hx).1
   omega
  ·refine ⟨b, n, p', v', (E.X.r 0).length, some (g, m), hb.loc, hbk, hp', ?_, fun h' q' hh => ?_, h1, cs, fz, h2, h3, h4, h5, h6, h7⟩
   ·simp [XS.re]
   ·exact (hget h' q' (by simpa [XS.re] using hh)).1
theorem str_append_list (a b:ByteArray):(a++b).data.toList=a.data.toList++b.data.toList:=by simp [ByteArray.data_append]
theorem bldW_call (L:Lays.n166 P ρ) (X:Builder.Extra P ρ) (hd:tabD=false) (d r:List G) (h:bldWF d=some r) :
  ACallX P (ρ.f 166) (mkS (osOf [.bld 0 (ρ.t 72) (ρ.t 5)] d) [.s (.ptr 0 0),.s .str] (dropT 1 d)) (denH (mkOs (osOf [.bld 0 (ρ.t 72) (ρ.t 5)] d) [.bld 0 (ρ.t 72) (ρ.t 5)] d))
   (oneA (mkS (osOf [.bld 0 (ρ.t 72) (ρ.t 5)] r) [.s (.int .i64),.s .any] (dropT 1 r))) (denH (mkOs (osOf [.bld 0 (ρ.t 72) (ρ.t 5)] r) [.bld 0 (ρ.t 72) (ρ.t 5)] r)):=by
 have e0:d.headD default=gi d 0:=rfl
 have e1:d.tail.headD default=gi d 1:=rfl
 unfold bldWF at h
 cases hb:Nat.ble ((gi d 0).str.size+(gi d 1).str.size) 140737488355328 with
 | false=>rw [hb] at h; cases h
 | true =>
 rw [hb] at h
 cases h
 have hlen:=Nat.le_of_ble_eq_true hb
 intro E cargs hH HE hargs
 simp only [mkS,mkSh,mk0,mkOs,mkO,denH,List.map_cons,List.map_nil,TObj.den,dropT,Sh0.sz,Sh.sz,oneA,e0,e1] at hH hargs ⊢
 generalize hs:(gi d 0).str=s at *
 generalize hx:(gi d 1).str=x at *
 simp only [List.headD_cons,List.tail_cons,G.int,G.str] at hargs ⊢
 obtain ⟨cs⟩:=cargs
 match cs,hargs with
 | [c0,c1],hargs =>
 simp only [rLs,and_true] at hargs
 obtain ⟨h0,h1⟩:=hargs
 simp only [rel] at h1
 subst h1
 obtain ⟨b,n,p,v,k,q,hB⟩:=bldAt_of HE hH
 have hc:=bld_arg hH hB h0
 subst hc
 have hl:(Lib.byteCells s.data.toList).length=s.size:=by rw [Lib.byteCells_length]; exact (Lib.size_eq s).symm
 refine (bld_write L X b p v (Lib.byteCells s.data.toList) x E.w hB.ptr hB.blk (by rw [Lib.byteCells_length]; exact hB.own) hB.ne (by rw [hl]; exact hlen)).mono ?_
 rintro e w' ⟨rfl,v',h2,h3,h4,h5⟩
 have hsl:=Lib.size_eq s
 have hxl:=Lib.size_eq x
 obtain ⟨r',h6,h7⟩:=bld_env (s':=s++x) HE hd hH hB (.inr rfl) h2 (by
  rw [str_append_list,List.length_append,show Lib.byteCells (s.data.toList++x.data.toList)=Lib.byteCells s.data.toList++Lib.strCells x by simp [Lib.byteCells,Lib.strCells]]
  rw [Lib.byteCells_length,hxl] at h3
  exact h3) h4 h5
 exact ⟨_,_,_,rfl,⟨rfl,rfl⟩,E.loc,r',by simp [rel,rLs],h6,h7⟩
theorem bldL_call (L:Lays.n170 P ρ) (hd:tabD=false) (d r:List G) (h:bldLF d=some r) :
  ACallX P (ρ.f 170) (mkS (osOf [.bld 0 (ρ.t 72) (ρ.t 5)] d) [.s (.ptr 0 0)] (dropT 1 d)) (denH (mkOs (osOf [.bld 0 (ρ.t 72) (ρ.t 5)] d) [.bld 0 (ρ.t 72) (ρ.t 5)] d))
   (oneA (mkS (osOf [.bld 0 (ρ.t 72) (ρ.t 5)] r) [.s (.int .i64)] (dropT 1 r))) (denH (mkOs (osOf [.bld 0 (ρ.t 72) (ρ.t 5)] r) [.bld 0 (ρ.t 72) (ρ.t 5)] r)):=by
 have e0:d.headD default=gi d 0:=rfl
 cases h
 intro E cargs hH HE hargs
 simp only [mkS,mkSh,mk0,mkOs,mkO,denH,List.map_cons,List.map_nil,TObj.den,dropT,Sh0.sz,Sh.sz,oneA,e0] at hH hargs ⊢
 generalize hs:(gi d 0).str=s at *
 simp only [List.headD_cons,List.tail_cons,G.int,G.str] at hargs ⊢
 obtain ⟨cs⟩:=cargs
 match cs,hargs with
 | [c0],hargs =>
 simp only [rLs,and_true] at hargs
 obtain ⟨b,n,p,v,k,q,hB⟩:=bldAt_of HE hH
 have hc:=bld_arg hH hB hargs
 subst hc
 have hA:Lib.BuilderAtF (ρ.t 72) (ρ.t 5) 0 b p (Lib.byteCells s.data.toList) E.w:=⟨Nat.zero_le _,v,hB.blk,by rw [Lib.byteCells_length]; exact hB.own,hB.ne⟩
 refine (Any.Builder_Len_f L 0 b (Lib.byteCells s.data.toList) E.w (by rcases hB.ptr with rfl | rfl; exact .inl hA; exact .inr hA)).mono ?_
 rintro e w' ⟨rfl,rfl⟩
 refine ⟨_,_,_,rfl,⟨rfl,rfl⟩,E.loc,E.X.r,?_,?_,?_⟩
 ·simp only [rel]
  rw [Lib.byteCells_length,Lib.size_eq s]
 ·rw [←hH]; exact HE
 ·rw [←hH]; exact Env.le.refl E
theorem bldS_call (L:Lays.n169 P ρ) (X:Builder.Extra P ρ) (hd:tabD=false) (d r:List G) (h:bldSF d=some r) :
  ACallX P (ρ.f 169) (mkS (osOf [.bld 0 (ρ.t 72) (ρ.t 5)] d) [.s (.ptr 0 0)] (dropT 1 d)) (denH (mkOs (osOf [.bld 0 (ρ.t 72) (ρ.t 5)] d) [.bld 0 (ρ.t 72) (ρ.t 5)] d))
   (oneA (mkS (osOf [.bld 0 (ρ.t 72) (ρ.t 5)] r) [.s .str] (dropT 1 r))) (denH (mkOs (osOf [.bld 0 (ρ.t 72) (ρ.t 5)] r) [.bld 0 (ρ.t 72) (ρ.t 5)] r)):=by
 have e0:d.headD default=gi d 0:=rfl
 cases h
 intro E cargs hH HE hargs
 simp only [mkS,mkSh,mk0,mkOs,mkO,denH,List.map_cons,List.map_nil,TObj.den,dropT,Sh0.sz,Sh.sz,oneA,e0] at hH hargs ⊢
 generalize hs:(gi d 0).str=s at *
 simp only [List.headD_cons,List.tail_cons,G.int,G.str] at hargs ⊢
 obtain ⟨cs⟩:=cargs
 match cs,hargs with
 | [c0],hargs =>
 simp only [rLs,and_true] at hargs
 obtain ⟨b,n,p,v,k,q,hB⟩:=bldAt_of HE hH
 have hc:=bld_arg hH hB hargs
 subst hc
 refine (bld_string L X b p v s.data.toList E.w hB.blk hB.own hB.ne).mono ?_
 rintro e w' ⟨rfl,h2,h3,h4⟩
 obtain ⟨r',h6,h7⟩:=bld_env (s':=s) HE hd hH hB hB.ptr h2 (by
  rcases ownsRowF_slice hB.own with ⟨k1,k2⟩ | ⟨g,m,cs,fz,k1,k2,k3,k4,k5,k6,k7⟩
  ·subst k1
   rw [k2]
   exact ⟨rfl,.inl ⟨rfl,rfl⟩⟩
  ·obtain ⟨fz', g1, g2⟩ := h4 g cs fz (by rw [k1]; rfl) k2 k3
   have:=own_row (l:=s.data.toList) k1 g1 g2 k4 k5 k6 k7
   rwa [Lib.byteCells_length] at this) (.inl ⟨rfl,rfl⟩) h3
 exact ⟨_,_,_,rfl,⟨rfl,rfl⟩,E.loc,r',by simp [rel],h6,h7⟩
end
end Go.AL

namespace Go.AL
open Go Go.Proofs Go.Shelf Go.RowKit
variable [Dr]
def strsOf (rows:List (List G)):List ByteArray:=rows.map fun r=>(gi r 0).str
def joinB (rows:List (List G)) (sep:ByteArray):ByteArray:=⟨(Lib.join ((strsOf rows).map (·.data.toList)) sep.data.toList).toArray⟩
noncomputable def joinF (d:List G):Option (List G) :=
 bif Nat.ble (gi d 0).rows.length 1048576&&Nat.ble (joinB (gi d 0).rows (gi d 1).str).size 140737488355328 then some [.s (joinB (gi d 0).rows (gi d 1).str)] else none
def splitG (s sep:ByteArray):List (List G):=(Lib.splitB sep 0 (Lib.countB s sep) s).map fun b=>[G.s b]
noncomputable def splitF (d:List G):Option (List G) :=
 bif Nat.beq (gi d 1).str.size 1&&((gi d 2).int==0&&((gi d 3).int == -1&&Nat.blt (gi d 0).str.size 4294967281)) then some [.l (splitG (gi d 0).str (gi d 1).str)] else none
noncomputable def atoiF (d:List G):Option (List G) :=
 bif Nat.ble (gi d 0).str.size 18 then (Lib.atoi (gi d 0).str.data.toList).map fun n=>[.i n] else none
section
variable {P:Program} {ρ:Go.Shelf.Ren}
theorem rel_strs {E:Env} {rows:List (List G)} {c:Value} (h:rel E (.listF [.str] rows) c):∃ base cap,c=.slice base rows.length cap∧rows.length≤cap∧(rows=[]∨∃ b o,base=some ⟨b,o,none⟩∧E.okb b∧∀ (i:Nat) x,(strsOf rows)[i]? = some x→E.w.cell? ⟨b,o+i,none⟩=some (.string x)):=by
 simp only [rel,relKd] at h
 obtain ⟨base,cap,rfl,h1,h2⟩:=h
 refine ⟨base,cap,rfl,h1,?_⟩
 rcases h2 with h2 | ⟨b,o,rfl,h3,h4⟩
 ·exact .inl h2
 ·refine .inr ⟨b, o, rfl, h3, fun i x hi => ?_⟩
  unfold strsOf at hi
  rw [List.getElem?_map] at hi
  cases hq:rows[i]? with
  | none=>rw [hq] at hi; cases hi
  | some r =>
   rw [hq] at hi
   cases hi
   have:=h4 i r hq
   simp only [relKs,relKd,and_true] at this
   obtain ⟨v,g1,_,g2⟩:=this
   have g1:E.w.cell? ⟨b,o+i,none⟩=some v:=by simpa using g1
   rw [g1,g2]
   cases r<;>rfl
theorem join_call (hd:tabD=false) (L:Lays.n156 P ρ) (X:Builder.Extra P ρ) (d r:List G) (h:joinF d=some r) :
  ACallX P (ρ.f 156) (mkS [] [.s (.list [.str]),.s .str] d) [] (oneA (mkS [] [.s .str] r)) []:=by
 unfold joinF at h
 cases hb:(Nat.ble (gi d 0).rows.length 1048576&&Nat.ble (joinB (gi d 0).rows (gi d 1).str).size 140737488355328) with
 | false=>rw [hb] at h; cases h
 | true =>
  rw [hb] at h
  cases h
  simp only [Bool.and_eq_true,Nat.ble_eq] at hb
  obtain ⟨hb1,hb2⟩:=hb
  have e0:d.headD default=gi d 0:=rfl
  have e1:d.tail.headD default=gi d 1:=by
   cases d with
   | nil=>rfl
   | cons x l=>cases l<;>rfl
  intro E cargs hH HE hargs
  simp only [mkS,mkSh,mk0,dropT,Sh0.sz,Sh.sz,oneA,e0,e1] at hargs ⊢
  generalize hrows:(gi d 0).rows=rows at *
  generalize hsep:(gi d 1).str=sep at *
  obtain ⟨cs⟩:=cargs
  match cs,hargs with
  | [c0,c1],hargs =>
  simp only [rLs,and_true] at hargs
  obtain ⟨h0,h1⟩:=hargs
  simp only [rel] at h1
  subst h1
  obtain ⟨base,cap,rfl,hc,hrow⟩:=rel_strs h0
  have hlen:(strsOf rows).length=rows.length:=by simp [strsOf]
  have hsz:(joinB rows sep).size=(Lib.join ((strsOf rows).map (·.data.toList)) sep.data.toList).length:=by simp [joinB,ByteArray.size]
  have key:Calls P (ρ.f 156) #[.slice base rows.length cap,.string sep] E.w fun e w'=>e=.returned (.string (joinB rows sep))∧Below E.w.heap.size E.w w':=by
   rcases hrow with rfl | ⟨b,o,rfl,hok,hcells⟩
   ·exact (Any.strings_Join_none L X base cap sep E.w).mono fun e w' ⟨he,hw⟩=>⟨he,hw▸Below.refl _ _⟩
   ·have := Any.strings_Join L X b o cap (strsOf rows) sep E.w hcells hok.1 (by omega) (by omega) (by omega)
    rw [hlen] at this
    exact this
  refine key.mono ?_
  rintro e w' ⟨rfl,hbel⟩
  have hext:Ext E.w w':=⟨hbel.size,fun x hx=>hbel.block x hx,hbel.os,hbel.output,hbel.tape,fun ht=>by rw [hd] at ht; cases ht⟩
  refine ⟨_,_,_,rfl,⟨rfl,rfl⟩,E.loc,E.X.r,by simp [rel,G.str],?_,?_⟩
  ·rw [←hH]; exact HE.ext hext
  ·rw [←hH]; exact Env.le_ext hext
theorem split_call (L:Lays.n221 P ρ) (hi9:(P.info? (ρ.t 9)).map (fun i=>(i.zero,i.size,i.bytes))=some (some (.string ByteArray.empty),1,16)) (d r:List G) (h:splitF d=some r) :
    ACallX P (ρ.f 221) (mkS [] [.s .str,.s .str,.s (.int .i64),.s (.int .i64)] d) [] (oneA (mkS [] [.s (.list [.str])] r)) []:=by
  unfold splitF at h
  cases hb:(Nat.beq (gi d 1).str.size 1&&((gi d 2).int==0&&((gi d 3).int == -1&&Nat.blt (gi d 0).str.size 4294967281))) with
  | false=>rw [hb] at h; cases h
  | true =>
    rw [hb] at h
    cases h
    simp only [Bool.and_eq_true,beq_iff_eq,Nat.blt_eq] at hb
    obtain ⟨hb1,hb2,hb3,hb4⟩:=hb
    have hb1:=Nat.eq_of_beq_eq_true hb1
    have e0:d.headD default=gi d 0:=rfl
    have e1:d.tail.headD default=gi d 1:=by
      cases d with
      | nil=>rfl
      | cons x l=>cases l<;>rfl
    have e2:d.tail.tail.headD default=gi d 2:=by
      match d with
      | [] | [_] | [_,_] | _::_::_::_=>rfl
    have e3:d.tail.tail.tail.headD default=gi d 3:=by
      match d with
      | [] | [_] | [_,_] | [_,_,_] | _::_::_::_::_=>rfl
    intro E cargs hH HE hargs
    simp only [mkS,mkSh,mk0,dropT,Sh0.sz,Sh.sz,oneA,e0,e1,e2,e3,hb2,hb3] at hargs ⊢
    generalize hs:(gi d 0).str=s at *
    generalize hsep:(gi d 1).str=sep at *
    obtain ⟨cs⟩:=cargs
    match cs,hargs with
    | [c0,c1,c2,c3],hargs =>
    simp only [rLs,rel,and_true] at hargs
    obtain ⟨rfl,rfl,rfl,rfl⟩:=hargs
    obtain ⟨c,rfl⟩:=Lib.one_byte sep hb1
    have hle:=Lib.countB_le ⟨#[c]⟩ (Nat.le_refl 1) s.size s (Nat.le_refl _)
    have hlen:=Lib.splitB_all ⟨#[c]⟩ (Nat.le_refl 1) 0 _ s rfl
    have hc:=Any.strings_genSplit_core L hi9 s ⟨#[c]⟩ 0 (-1) (Lib.countB s ⟨#[c]⟩+1) E.w hb4 (Nat.le_refl 1) (Nat.zero_le _)
      (fun x cc hx=>(Any.strings_Index_one { L with } x c _).mono fun e w' h=>⟨by
        rw [h.1]
        show _=Ending.returned (Value.int .i64 (Lib.index x.data.toList [c]))
        rw [Lib.index_one],h.2⟩)
      ((Any.strings_Count_one { L with } s c E.w).mono fun e w' ⟨he, hw⟩ => ⟨by
        rw [he]
        show _=Ending.returned (Value.int .i64 ((Lib.count s.data.toList [c]:Nat):Int))
        rw [Lib.count_one]
        rfl,hw⟩) (by decide) (by decide) (by rw [if_pos (by decide)]; omega)
    rw [Nat.add_sub_cancel,hlen] at hc
    have e2:Lib.cellsOf (Lib.splitB ⟨#[c]⟩ 0 (Lib.countB s ⟨#[c]⟩) s) (Lib.countB s ⟨#[c]⟩+1)=((Lib.splitB ⟨#[c]⟩ 0 (Lib.countB s ⟨#[c]⟩) s).map Value.string).toArray:=by rw [←hlen]; exact Lib.cellsOf_full _
    rw [e2] at hc
    refine hc.mono ?_
    rintro e w' ⟨rfl,rfl⟩
    have hext:Ext E.w (E.w.alloc (.cells ((Lib.splitB ⟨#[c]⟩ 0 (Lib.countB s ⟨#[c]⟩) s).map Value.string).toArray (ρ.t 9))):=Ext.push _ _
    have hl:(splitG s ⟨#[c]⟩).length=Lib.countB s ⟨#[c]⟩+1:=by simp [splitG,hlen]
    refine ⟨_,_,_,rfl,⟨rfl,rfl⟩,E.loc,E.X.r,?_,?_,?_⟩
    · simp only [rel, relKd, List.headD_cons, G.rows]
      refine ⟨_,_,by rw [hl],by rw [hl]; exact Nat.le_refl _,.inr ⟨E.w.heap.size,0,rfl,⟨by show _<(E.w.heap.push _).size; simp,?_,fun hx=>?_⟩,fun i x hi=>?_⟩⟩
      · rintro ho
        have:=(HE.ownlt ho).1
        omega
      · have := HE.X _ hx
        omega
      · unfold splitG at hi
        rw [List.getElem?_map] at hi
        cases hq:(Lib.splitB ⟨#[c]⟩ 0 (Lib.countB s ⟨#[c]⟩) s)[i]? with
        | none=>rw [hq] at hi; cases hi
        | some b =>
          rw [hq] at hi
          cases hi
          simp only [relKs,relKd,List.headD_cons,and_true,G.str]
          refine ⟨.string b,?_,rfl,rfl⟩
          show World.cell? { E.w with heap:=E.w.heap.push _ } _=_
          unfold World.cell?
          simp [hq]
    · rw [←hH]; exact HE.ext hext
    · rw [←hH]; exact Env.le_ext hext
theorem atoi_call (L:Lays.n172 P ρ) (d r:List G) (h:atoiF d=some r) :
  ACallX P (ρ.f 172) (mkS [] [.s .str] d) [] (oneA (mkS [] [.s (.int .i64),.s .nilI] r)) []:=by
 unfold atoiF at h
 cases hb:Nat.ble (gi d 0).str.size 18 with
 | false=>rw [hb] at h; cases h
 | true =>
  rw [hb] at h
  simp only [cond_true] at h
  have e0:d.headD default=gi d 0:=rfl
  cases hn:Lib.atoi (gi d 0).str.data.toList with
  | none=>rw [hn] at h; cases h
  | some n =>
   rw [hn] at h
   cases h
   intro E cargs hH HE hargs
   simp only [mkS,mkSh,mk0,dropT,Sh0.sz,Sh.sz,oneA,e0] at hargs ⊢
   generalize hs:(gi d 0).str=s at *
   obtain ⟨cs⟩:=cargs
   match cs,hargs with
   | [c0],hargs =>
   simp only [rLs,rel,and_true] at hargs
   subst hargs
   refine (Any.strconv_Atoi L s n (Nat.le_of_ble_eq_true hb) hn E.w).mono ?_
   rintro e w' ⟨rfl,t,rfl⟩
   have hext:Ext E.w (Lib.bytesWorld E.w (ρ.t 5) t) :=
    ⟨by rw [Lib.bytesWorld_size]; omega,fun b hb=>Lib.bytesWorld_at_old _ _ _ b hb,⟨rfl,rfl,rfl,fun _=>Nat.le_succ _⟩⟩
   refine ⟨_,_,_,rfl,⟨rfl,rfl⟩,E.loc,E.X.r,by simp [rel,rLs,G.int],?_,?_⟩
   ·rw [←hH]; exact HE.ext hext
   ·rw [←hH]; exact Env.le_ext hext
end
end Go.AL

namespace Go.AL
open Go Go.Proofs Go.Shelf Go.RowKit
variable [Dr]
def asciiB (s:ByteArray):Bool:=s.data.toList.all fun b=>Nat.blt b.toNat 128
theorem asciiB_at {s:ByteArray} (h:asciiB s=true) (j:Nat) (b:UInt8) (hj:s.data.toList[j]? = some b):b.toNat<128:=by
 have:=List.all_eq_true.1 h b (List.mem_of_getElem? hj)
 simpa [Nat.blt_eq] using this
noncomputable def idx1F (d:List G):Option (List G):=bif Nat.beq (gi d 1).str.size 1 then some [.i (Lib.index (gi d 0).str.data.toList (gi d 1).str.data.toList)] else none
noncomputable def has1F (d:List G):Option (List G):=bif Nat.beq (gi d 1).str.size 1 then some [.t (leI 0 (Lib.index (gi d 0).str.data.toList (gi d 1).str.data.toList))] else none
noncomputable def any1F (d:List G):Option (List G) :=
 bif asciiB (gi d 0).str&&(asciiB (gi d 1).str&&(Nat.blt (gi d 0).str.size 4294967281&&Nat.blt (gi d 1).str.size 4294967281)) then some [.t (Lib.containsAny (gi d 0).str.data.toList (gi d 1).str.data.toList)] else none
section
variable {P:Program} {ρ:Go.Shelf.Ren}
theorem gi_head2 (d:List G):d.headD default=gi d 0∧d.tail.headD default=gi d 1:=by
 constructor
 ·rfl
 ·cases d with
  | nil=>rfl
  | cons x l=>cases l<;>rfl
theorem index_call (L:Lays.n219 P ρ) (d r:List G) (h:idx1F d=some r):ACallX P (ρ.f 219) (mkS [] [.s .str,.s .str] d) [] (oneA (mkS [] [.s (.int .i64)] r)) []:=by
 unfold idx1F at h
 cases hb:Nat.beq (gi d 1).str.size 1 with
 | false=>rw [hb] at h; cases h
 | true =>
  rw [hb] at h
  cases h
  obtain ⟨e0,e1⟩:=gi_head2 d
  intro E cargs hH HE hargs
  simp only [mkS,mkSh,mk0,dropT,Sh0.sz,Sh.sz,oneA,e0,e1] at hargs ⊢
  generalize hs:(gi d 0).str=s at *
  generalize hsep:(gi d 1).str=sep at *
  obtain ⟨cs⟩:=cargs
  match cs,hargs with
  | [c0,c1],hargs =>
  simp only [rLs,rel,and_true] at hargs
  obtain ⟨rfl,rfl⟩:=hargs
  obtain ⟨c,rfl⟩:=Lib.one_byte sep (Nat.eq_of_beq_eq_true hb)
  refine (Any.stringslite_Index_one L s c E.w).mono ?_
  rintro e w' ⟨rfl,rfl⟩
  refine ⟨_,_,_,rfl,⟨rfl,rfl⟩,E.loc,E.X.r,?_,?_,?_⟩
  ·have e : Lib.index s.data.toList (⟨#[c]⟩ : ByteArray).data.toList = Lib.indexByte s.data.toList c := Lib.index_one _ _
   simp [rel,G.int,e]
  ·rw [←hH]; exact HE
  ·rw [←hH]; exact Env.le.refl E
theorem has_call (L:Lays.n144 P ρ) (d r:List G) (h:has1F d=some r):ACallX P (ρ.f 144) (mkS [] [.s .str,.s .str] d) [] (oneA (mkS [] [.s .bool] r)) []:=by
 unfold has1F at h
 cases hb:Nat.beq (gi d 1).str.size 1 with
 | false=>rw [hb] at h; cases h
 | true =>
  rw [hb] at h
  cases h
  obtain ⟨e0,e1⟩:=gi_head2 d
  intro E cargs hH HE hargs
  simp only [mkS,mkSh,mk0,dropT,Sh0.sz,Sh.sz,oneA,e0,e1] at hargs ⊢
  generalize hs:(gi d 0).str=s at *
  generalize hsep:(gi d 1).str=sep at *
  obtain ⟨cs⟩:=cargs
  match cs,hargs with
  | [c0,c1],hargs =>
  simp only [rLs,rel,and_true] at hargs
  obtain ⟨rfl,rfl⟩:=hargs
  obtain ⟨c,rfl⟩:=Lib.one_byte sep (Nat.eq_of_beq_eq_true hb)
  refine (Any.strings_Contains_one L s c E.w).mono ?_
  rintro e w' ⟨rfl,rfl⟩
  refine ⟨_,_,_,rfl,⟨rfl,rfl⟩,E.loc,E.X.r,?_,?_,?_⟩
  ·have e : Lib.index s.data.toList (⟨#[c]⟩ : ByteArray).data.toList = Lib.indexByte s.data.toList c := Lib.index_one _ _
   simp [rel,G.bool,e,leI_eq]
  ·rw [←hH]; exact HE
  ·rw [←hH]; exact Env.le.refl E
theorem any_call (hd:tabD=false) (L:Lays.n150 P ρ) (h116:(P.info? (ρ.t 116)).map (fun i=>(i.zero,i.size))=some (some (.agg (Array.replicate 256 (.bool false))),256)) (d r:List G) (h:any1F d=some r) :
  ACallX P (ρ.f 150) (mkS [] [.s .str,.s .str] d) [] (oneA (mkS [] [.s .bool] r)) []:=by
 unfold any1F at h
 cases hb:(asciiB (gi d 0).str&&(asciiB (gi d 1).str&&(Nat.blt (gi d 0).str.size 4294967281&&Nat.blt (gi d 1).str.size 4294967281))) with
 | false=>rw [hb] at h; cases h
 | true =>
  rw [hb] at h
  cases h
  simp only [Bool.and_eq_true,Nat.blt_eq] at hb
  obtain ⟨b1,b2,b3,b4⟩:=hb
  obtain ⟨e0,e1⟩:=gi_head2 d
  intro E cargs hH HE hargs
  simp only [mkS,mkSh,mk0,dropT,Sh0.sz,Sh.sz,oneA,e0,e1] at hargs ⊢
  generalize hs:(gi d 0).str=s at *
  generalize hsep:(gi d 1).str=sep at *
  obtain ⟨cs⟩:=cargs
  match cs,hargs with
  | [c0,c1],hargs =>
  simp only [rLs,rel,and_true] at hargs
  obtain ⟨rfl,rfl⟩:=hargs
  refine (Any.strings_ContainsAny_laid L h116 s sep E.w b3 b4 (fun j b hj=>asciiB_at b1 j b hj) (fun j b hj=>asciiB_at b2 j b hj)).mono ?_
  rintro e w' ⟨rfl,hbel⟩
  have hext:Ext E.w w':=⟨hbel.size,fun x hx=>hbel.block x hx,hbel.os,hbel.output,hbel.tape,fun ht=>by rw [hd] at ht; cases ht⟩
  refine ⟨_,_,_,rfl,⟨rfl,rfl⟩,E.loc,E.X.r,by simp [rel,G.bool],?_,?_⟩
  ·rw [←hH]; exact HE.ext hext
  ·rw [←hH]; exact Env.le_ext hext
end
end Go.AL

namespace Go.AL
open Go Go.Proofs Go.Shelf Go.RowKit
variable [Dr]
def setRow (chars:ByteArray):List G:=(List.range 256).map fun j=>G.t (chars.data.toList.contains (UInt8.ofNat j))
abbrev K256:List Kd:=List.replicate 256 .bool
noncomputable def mksetF (d:List G):Option (List G):=bif asciiB (gi d 0).str&&Nat.blt (gi d 0).str.size 4294967281 then some [.l [setRow (gi d 0).str],.t true] else none
noncomputable def runeF (d:List G):Option (List G):=bif leI 0 (gi d 1).int&&ltI (gi d 1).int 128 then some [.i (Lib.indexByte (gi d 0).str.data.toList (gi d 1).int.toNat.toUInt8)] else none
theorem gCells_bools:∀ l:List Bool,gCells (List.replicate l.length .bool) (l.map G.t)=(l.map Value.bool).map AV.lit
 | []=>rfl
 | b::l=>by
  show gCell .bool (G.t b)::gCells (List.replicate l.length .bool) (l.map G.t)=_
  rw [gCells_bools l]
  rfl
section
variable {P:Program} {ρ:Go.Shelf.Ren}
theorem mkset_call (L:Lays.n227 P ρ) (h116:(P.info? (ρ.t 116)).map (fun i=>(i.zero,i.size))=some (some (.agg (Array.replicate 256 (.bool false))),256)) (d r:List G) (h:mksetF d=some r) :
  ACallX P (ρ.f 227) (mkS [] [.s .str] d) [] (oneA (mkS [] [.s (.row K256),.s .bool] r)) []:=by
 unfold mksetF at h
 cases hb:(asciiB (gi d 0).str&&Nat.blt (gi d 0).str.size 4294967281) with
 | false=>rw [hb] at h; cases h
 | true =>
  rw [hb] at h
  cases h
  simp only [Bool.and_eq_true,Nat.blt_eq] at hb
  obtain ⟨e0,_⟩:=gi_head2 d
  intro E cargs hH HE hargs
  simp only [mkS,mkSh,mk0,dropT,Sh0.sz,Sh.sz,oneA,e0] at hargs ⊢
  generalize hs:(gi d 0).str=s at *
  obtain ⟨cs⟩:=cargs
  match cs,hargs with
  | [c0],hargs =>
  simp only [rLs,rel,and_true] at hargs
  subst hargs
  refine (Any.strings_makeASCIISet L (zero_of_info h116).1 (zero_of_info h116).2 s E.w hb.2 (fun j b hj=>asciiB_at hb.1 j b hj)).mono ?_
  rintro e w' ⟨rfl,rfl⟩
  have hext:Ext E.w (E.w.alloc (.cells (Lib.setCells s.data.toList) (ρ.t 116))):=Ext.push _ _
  have ev:(Lib.setCells s.data.toList).toList=((List.range 256).map fun j=>s.data.toList.contains (UInt8.ofNat j)).map Value.bool:=by
   rw [Lib.setCells_eq,Array.toList_map,Array.toList_range,List.map_map]
   rfl
  have eg:gCells K256 (setRow s)=((Lib.setCells s.data.toList).toList).map AV.lit:=by
   rw [ev,←gCells_bools]
   simp only [List.length_map,List.length_range,setRow,List.map_map]
   rfl
  refine ⟨_,_,_,rfl,⟨rfl,rfl⟩,E.loc,E.X.r,?_,?_,?_⟩
  ·simp only [rel]
   refine ⟨_,rfl,?_⟩
   simp only [rLs,rel,and_true]
   refine ⟨⟨_,rfl,?_,?_⟩,rfl⟩
   ·intro x hx
    rw [ev] at hx
    obtain ⟨b,_,rfl⟩:=List.mem_map.1 hx
    rfl
   ·show rLs _ (gCells K256 (setRow s)) _
    rw [eg]
    exact relList_lits _
  ·rw [←hH]; exact HE.ext hext
  ·rw [←hH]; exact Env.le_ext hext
theorem rune_call (L:Lays.n152 P ρ) (d r:List G) (h:runeF d=some r):ACallX P (ρ.f 152) (mkS [] [.s .str,.s (.int .i32)] d) [] (oneA (mkS [] [.s (.int .i64)] r)) []:=by
 unfold runeF at h
 cases hb:(leI 0 (gi d 1).int&&ltI (gi d 1).int 128) with
 | false=>rw [hb] at h; cases h
 | true =>
  rw [hb] at h
  cases h
  simp only [Bool.and_eq_true,leI_eq,ltI_eq,decide_eq_true_eq] at hb
  obtain ⟨e0,e1⟩:=gi_head2 d
  intro E cargs hH HE hargs
  simp only [mkS,mkSh,mk0,dropT,Sh0.sz,Sh.sz,oneA,e0,e1] at hargs ⊢
  generalize hs:(gi d 0).str=s at *
  generalize hn:(gi d 1).int=n at *
  obtain ⟨cs⟩:=cargs
  match cs,hargs with
  | [c0,c1],hargs =>
  simp only [rLs,rel,and_true] at hargs
  obtain ⟨rfl,rfl⟩:=hargs
  refine (Any.strings_IndexRune_ascii L s n E.w hb.1 hb.2).mono ?_
  rintro e w' ⟨rfl,rfl⟩
  refine ⟨_,_,_,rfl,⟨rfl,rfl⟩,E.loc,E.X.r,by simp [rel,G.int],?_,?_⟩
  ·rw [←hH]; exact HE
  ·rw [←hH]; exact Env.le.refl E
end
end Go.AL
