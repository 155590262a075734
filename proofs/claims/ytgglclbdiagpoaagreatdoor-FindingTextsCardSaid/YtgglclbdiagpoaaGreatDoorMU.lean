/-
 What is proved here: strings.Builder's methods: what they do to the builder's two blocks,and that they leave all other blocks alone. No program in sight; what is asked is that the library's text lies in the program.
-/
import Derived.Test.YtgglclbdiagpoaaGreatDoorMG
import Derived.Shelf.Strings.BuilderF
import Derived.Shelf.Strings.OnBuilder
import Derived.Shelf.Strings.SplitCore
import Derived.Shelf.Strings.Count
import Derived.Shelf.Strings.Search3
import Derived.Shelf.Strconv.Atoi
import Derived.Lib.SplitLaws
import Derived.Shelf.Strings.IndexAnyAll
import Derived.Shelf.Strings.Runes
import Derived.Shelf.Strings.AsciiSet
set_option linter.all false
open Array renaming getElem?_modify→tU,getElem?_eq_some_iff→iF,getElem?_eq_none→xC,replicate→pz
open Bool renaming and_eq_true→ar
open ByteArray renaming empty→tS
open Go.Builtin renaming append_→kR,unsafeSliceData_→I6
open Go.Lib renaming strCells→BX,cell_of_heap→my,frozen_of_heap→ah1,byteCells→ja,byteCells_length→mz,alloc_old→ah3,run_unsafeSliceData_row→ah4,size_eq→fU,join→eR,splitB→xK,countB→pB,one_byte→I8,index→lG,index_one→qS,indexByte→fI,setCells→SQ
open Go.Proofs.Any renaming unsafeString_none→ah2
open Go.Proofs.Body renaming n169_ntmps→I7
open Go.RowKit.Below renaming heap_setCell→SO
open Go.Value renaming ownBlock→kW
open Go.World renaming cell?→pg,setCell→SM,shape?→SN,freeze→ah5
open List renaming range→er,getElem?_map→bR,map_cons→cY,eq_nil_of_length_eq_zero→nE,length_set→kQ,map_map→j5,replicate→bU,headD_cons→mv,map_nil→kV,tail_cons→xF
open Nat renaming le_refl→aH,zero_le→dB,lt_or_ge→h_,beq→af,eq_of_beq_eq_true→br,ble→bI,blt→cJ,blt_eq→dM,le_of_ble_eq_true→ua,mul_one→IZ
open Option renaming map_some→dL
open Option.some renaming injEq→aX
open UInt8 renaming ofNat→uf
namespace Go.AL
open Go Go.Proofs Go.Shelf Go.RowKit
section
variable {P:Program} {ρ:Ren}
def oL:Value→Nat
 |.slice _ _ c=>c
 |_=>0
theorem XD(w:World)(t u ty e:TypeId)(i:TypeInfo)(q:P.underlying t=some (.slice e))(hu:P.underlying u=some .string)(hi:P.info? e=some i)(I:i.zero=some (.int .u8 0))(y:i.size=1)(z:i.bytes=1)
  (v:Value) (n:Nat) (xs:List Value) (k:w.ownsRowF 0 e 1 v n xs) (s:ByteArray) (M:n+s.size≤140737488355328) :
  ∃ d w',(kR #[t,u] ty #[v,.string s]).run P w=.ok d w'∧w'.ownsRowF 0 e 1 d (n+s.size) (xs++BX s)∧w.grownBy w' v.ownBlock∧((d.ownBlock=v.ownBlock∧oL d=oL v)∨d.ownBlock=some w.heap.size):=by
 obtain⟨d,w',h1,V,W,h4⟩:=Lib.run_append_own_stringF (P:=P) w 0 t u ty e i q hu hi I y z v n xs k s (by unfold maxLen; omega) M (dB _);refine⟨d,w',h1,V,W,?_⟩;have B:∀(v2:Value) (J:World),(kR #[t,u] ty #[v,.string s]).run P w=.ok v2 J→d=v2:=fun v2 J h=>by
  rw[h1]at h;cases h;rfl
 rcases k.2 with⟨rfl,rfl⟩|⟨g,cap,cur,fz,rfl,hbg,hg,O,hnc,hcm,R,htake⟩
 ·by_cases hm : s.size = 0
  ·left
   rw[h4.2 ⟨rfl,hm⟩];exact⟨rfl,rfl⟩
  ·right
   have h:=run_append_nil_string (P:=P) w t u ty e i (.int .u8 0) q hu hi I s (by omega) (by omega) (by rw[z]; omega);rw[B _ _ h];rfl
 ·by_cases N : n + s.size ≤ cap
  ·left
   have hcs':cur.size=cap:=by simpa using R
   have h:=Lib.run_append_room_stringF (P:=P) w t u ty e i q hu hi y g n cap cur fz hg (by simpa using O) s N (by omega);rw[B _ _ h];exact⟨rfl,rfl⟩
  ·right
   have U:xs.length=n:=by simpa using k.1
   have holds:∀ j u,xs[j]? = some u→w.cell? ((⟨g,0,none⟩:Addr).add j)=some u:=k.cells (g:=g) rfl;have h:=Lib.run_append_grow_string (P:=P) w t u ty e i (.int .u8 0) q hu hi I ⟨g,0,none⟩ n cap xs (by rw[y]; simpa using U) holds s (by omega) (by omega) (by rw[z]; exact growslice_fits (by omega) (by omega));rw[B _ _ h];rfl
theorem XE{ops:Array Oper}{rest:List Oper}{o:Oper}{a:Act}{Q:Exit→Act→World→Prop}{w:World}(y:o.guard=none)(sl x:Operand)(t u:TypeId)
  (ho:o.op=.call { callee:=.builtin .append,args:=#[sl,x],argTypes:=#[t,u] })
  (e:TypeId) (i:TypeInfo) (B:P.underlying t=some (.slice e)) (hu:P.underlying u=some .string) (hi:P.info? e=some i) (I:i.zero=some (.int .u8 0)) (k:i.size=1) (z:i.bytes=1)
  (v:Value) (n:Nat) (xs:List Value) (J:a.eval sl=v) (q:w.ownsRowF 0 e 1 v n xs) (s:ByteArray) (M:a.eval x=.string s) (g:n+s.size≤140737488355328)
  (h:∀ d w',w'.ownsRowF 0 e 1 d (n+s.size) (xs++BX s)→w.grownBy w' v.ownBlock→((d.ownBlock=v.ownBlock∧oL d=oL v)∨d.ownBlock=some w.heap.size)→wpList P ops Q rest (a.put o.dst d) w'):wpList P ops Q (o::rest) a w:=by
 refine wpList_plain y fun K N=>?_;obtain⟨d,w',O,R,U,V⟩:=XD (P:=P) w t u o.type e i B hu hi I k z v n xs q s g;unfold Oper.wp execOp;simp only[ho,resolve,invoke,builtin,Sem.run_bind,Sem.run_pure,Result.andThen_ok,List.map_toArray,cY,kV,J,M,O];exact N _ _ (h d w' R U V)
structure sH (w w':World) (b:Nat) (g:Option Nat):Prop where
 os:w'.os=w.os
 tape:w'.tape=w.tape
 output:w'.output=w.output
 size:w.heap.size≤w'.heap.size
 block:∀ k,k<w.heap.size→k≠b→some k≠g→w'.heap[k]? = w.heap[k]?
theorem zD(w:World)(a:Addr)(v:Value):(w.setCell a v).heap.size=w.heap.size:=by simp[SM]
theorem XF{w:World}{b:Nat}{p q v:Value}{T:TypeId} (h:w.heap[b]? = some (.cells #[p,v] T (0,0))):(w.setCell ⟨b,0,none⟩ q).heap[b]? = some (.cells #[q,v] T (0,0)):=by
 simp[SM,tU,h]
theorem XG{w:World}{b:Nat}{p q v:Value}{T:TypeId} (h:w.heap[b]? = some (.cells #[p,v] T (0,0))):(w.setCell ⟨b,1,none⟩ q).heap[b]? = some (.cells #[p,q] T (0,0)):=by
 simp[SM,tU,h]
theorem XH(L:Lays.n240 P ρ)(X:Builder.X72 P ρ)(b:Nat)(p v:Value)(w:World)(g:p=.pointer none∨p=.pointer (some ⟨b,0,none⟩)) (d:w.heap[b]? = some (.cells #[p,v] (ρ.t 72) (0,0))) :
  Calls P (ρ.f 240) #[.pointer (some ⟨b,0,none⟩)] w fun e w'=>e=.returned (.tuple #[])∧w'.heap[b]? = some (.cells #[.pointer (some ⟨b,0,none⟩),v] (ρ.t 72) (0,0))∧sH w w' b none∧w'.heap.size=w.heap.size:=by
 rcases g with rfl|rfl
 ·refine (Any.Builder_copyCheck_fresh L X b w (by rw [my d]; rfl) (by simp [SN, d]) (ah1 d 0)).mono ?_
  rintro e w' ⟨rfl,rfl⟩;exact⟨rfl,XF d,⟨rfl,rfl,rfl,by rw[zD]; exact aH _,fun k _ hk _=>SO _ _ _ _ (fun e=>hk e)⟩,zD _ _ _⟩
 ·refine (Any.Builder_copyCheck_used L X b w (by rw [my d]; rfl)).mono ?_
  rintro e w' ⟨rfl,rfl⟩;exact⟨rfl,d,⟨rfl,rfl,rfl,aH _,fun _ _ _ _=>rfl⟩,rfl⟩
set_option maxHeartbeats 2000000 in
set_option maxRecDepth 100000 in
theorem XI(L:Lays.n166 P ρ)(X:Builder.Extra P ρ)(b:Nat)(p v:Value)(q:List Value)(s:ByteArray)(w:World)(hp:p=.pointer none∨p=.pointer (some ⟨b,0,none⟩)) (hbk:w.heap[b]? = some (.cells #[p,v] (ρ.t 72) (0,0)))
  (hown:w.ownsRowF 0 (ρ.t 5) 1 v q.length q) (N:v.ownBlock≠some b) (hlen:q.length+s.size≤140737488355328) :
  Calls P (ρ.f 166) #[.pointer (some ⟨b,0,none⟩),.string s] w fun e w'=>e=.returned (.tuple #[.int .i64 s.size,.nilIface])∧∃ u,w'.heap[b]? = some (.cells #[.pointer (some ⟨b,0,none⟩),u] (ρ.t 72) (0,0)) ∧
   w'.ownsRowF 0 (ρ.t 5) 1 u (q.length+s.size) (q++BX s)∧((u.ownBlock=v.ownBlock∧oL u=oL v)∨u.ownBlock=some w.heap.size)∧sH w w' b v.ownBlock:=by
 obtain⟨i0,hi,hz0,hz1,hz2⟩:=info_parts X.infoByte;have mixed:=L.mixed;have t72:=L.t72; have a72:=L.a72; have z72:=L.z72; have v72:=L.v72; have u72:=run_underlying L.t72;have t70:=L.t70; have a70:=L.a70; have z70:=L.z70; have v70:=L.v70; have u70:=run_underlying L.t70;have t37:=L.t37; have a37:=L.a37; have z37:=L.z37; have v37:=L.v37; have u37:=run_underlying L.t37;have t3:=L.t3; have a3:=L.a3; have z3:=L.z3; have v3:=L.v3; have u3:=run_underlying L.t3;have t9:=L.t9; have a9:=L.a9; have z9:=L.z9; have v9:=L.v9; have u9:=run_underlying L.t9;have t4:=L.t4; have a4:=L.a4; have z4:=L.z4; have v4:=L.v4; have u4:=run_underlying L.t4;have t164:=L.t164; have a164:=L.a164; have z164:=L.z164; have v164:=L.v164; have u164:=run_underlying L.t164;have t5:=X.t5; have a5:=X.a5; have z5:=X.z5; have v5:=X.v5; have u5:=run_underlying X.t5;have e240:∀ args w,(callFunc (ρ.f 240) args).run P w=.ok (.enter (ρ.f 240) args) w:=enters_of L.f240 (by kernel_rfl) rfl
 go_enter L.f166,Body.n166_ntmps ρ
 go_wp2_with (go_at_fn (ρ.f 240); refine(XH { L with } X.toX72 b p v _ hp hbk).mono ?_)
 rintro e B ⟨rfl,I,d,hs1⟩;have W:B.ownsRowF 0 (ρ.t 5) 1 v q.length q:=hown.kept (row:=some b) ⟨d.os,d.tape,d.output,d.size,fun k hk J=>d.block k hk (fun e=>J (by rw[e])) (by simp)⟩ (Or.inr N);have c0:B.cell? ⟨b,0,none⟩=some (.pointer (some ⟨b,0,none⟩)):=by rw[my I]; rfl
 have c1:B.cell? ⟨b,1,none⟩=some v:=by rw[my I]; rfl
 go_wp2_with (at_builtin; refine XE rfl _ _ (ρ.t 37) (ρ.t 9) rfl (ρ.t 5) i0 L.t37 L.t9 hi hz0 hz1 hz2 _ _ _ rfl W s rfl ?c3 ?_)
 case c3=>omega
 intro u y V z hblk;have hlt:b<B.heap.size:=by
  rcases h_ b B.heap.size with h'|h'
  ·exact h'
  ·simp[xC h']at I
 have M:y.heap[b]? = some (.cells #[.pointer (some ⟨b,0,none⟩),v] (ρ.t 72) (0,0)):=by
  rw[z.block b hlt (fun e=>N e.symm)];exact I
 have d0:y.cell? ⟨b,0,none⟩=some (.pointer (some ⟨b,0,none⟩)):=by rw[my M]; rfl
 have d1:y.cell? ⟨b,1,none⟩=some v:=by rw[my M]; rfl
 have f1:y.frozen? ⟨b,1,none⟩=false:=ah1 M 1;obtain⟨O,R,cap,rfl⟩:∃ O R cap,u=.slice O R cap:=by
  rcases V.2 with⟨U,_⟩|⟨g,cap,cur,fz,U,_⟩
  ·exact⟨_,_,_,U⟩
  ·exact⟨_,_,_,U⟩
 go_wp2
 go_ret2
 have hne':(Value.slice O R cap).ownBlock≠some b:=by
  rcases hblk with h|h
  ·rw[h.1]; exact N
  ·rw [h]
   intro e;simp only[aX]at e;omega
 refine⟨rfl,_,XG M,V.kept (row:=some b) ⟨rfl,rfl,rfl,by rw[zD]; exact aH _,fun k _ hk=>SO _ _ _ _ (fun e=>hk (by simp[e]))⟩ (Or.inr hne'),hblk,?_⟩;exact⟨by show y.os=_; rw[z.os,d.os],by show y.tape=_; rw[z.tape,d.tape],by show y.output=_; rw[z.output,d.output],by rw[zD]; have:=z.size; have:=d.size; omega,fun k hk J hkg=>by
  rw[SO _ _ _ _ (fun e=>J e),z.block k (by have:=d.size; omega) hkg,d.block k hk J (by simp)]⟩
theorem MJ{w:World}{T:TypeId}{v:Value}{l:List UInt8}{g m:Nat}(h1:v=.slice (some ⟨g,0,none⟩) l.length m){cs:Array Value}{fz:Nat × Nat}(d:w.heap[g]? = some (.cells cs T fz))(k:fz.2≤l.length)(q:cs.size=m)(t:l.length≤m)
  (u:m≤9223372036854775807) (h:cs.toList.take l.length=ja l):w.ownsRowF 0 T 1 v (ja l).length (ja l):=by
 refine⟨by simp,.inr ⟨g,m,cs,fz,by rw[h1,mz],dB _,d,by rw[mz]; omega,by rw[mz]; omega,by unfold maxLen; omega,by omega,?_⟩⟩;rw[mz,IZ];exact h
set_option maxHeartbeats 2000000 in
set_option maxRecDepth 100000 in
theorem XJ(L:Lays.n169 P ρ)(X:Builder.Extra P ρ)(b:Nat)(p v:Value)(l:List UInt8)(w:World) (d:w.heap[b]? = some (.cells #[p,v] (ρ.t 72) (0,0)))
  (U:w.ownsRowF 0 (ρ.t 5) 1 v l.length (ja l)) (hne:v.ownBlock≠some b) :
  Calls P (ρ.f 169) #[.pointer (some ⟨b,0,none⟩)] w fun e w'=>e=.returned (.string ⟨l.toArray⟩)∧w'.heap[b]? = some (.cells #[p,v] (ρ.t 72) (0,0))∧sH w w' b v.ownBlock ∧
   (∀ g cs fz,v.ownBlock=some g→w.heap[g]? = some (.cells cs (ρ.t 5) fz)→fz.2≤l.length→∃ h,w'.heap[g]? = some (.cells cs (ρ.t 5) h)∧h.2≤l.length):=by
 have V:b<w.heap.size:=by
  rcases h_ b w.heap.size with h'|h'
  ·exact h'
  ·simp[xC h']at d
 have mixed:=L.mixed;have t72:=L.t72; have a72:=L.a72; have z72:=L.z72; have v72:=L.v72; have u72:=run_underlying L.t72;have t70:=L.t70; have a70:=L.a70; have z70:=L.z70; have v70:=L.v70; have u70:=run_underlying L.t70;have t37:=L.t37; have a37:=L.a37; have z37:=L.z37; have v37:=L.v37; have u37:=run_underlying L.t37;have t127:=L.t127; have a127:=L.a127; have z127:=L.z127; have v127:=L.v127; have u127:=run_underlying L.t127;have t3:=L.t3; have a3:=L.a3; have z3:=L.z3; have v3:=L.v3; have u3:=run_underlying L.t3;have t9:=L.t9; have a9:=L.a9; have z9:=L.z9; have v9:=L.v9; have u9:=run_underlying L.t9;have t5:=X.t5; have a5:=X.a5; have z5:=X.z5; have v5:=X.v5; have u5:=run_underlying X.t5;rcases U.2 with⟨rfl,hz⟩|⟨g,cap,cur,fz,rfl,hbg,y,hfz,hnc,hcm,hcs,htake⟩
 ·-- nothing was written
  have hl:l=[]:=nE hz;subst hl;have M:=ah2 L X;have c1:w.drew.cell? ⟨b,1,none⟩=some (.slice none 0 0):=by
   have:w.drew.heap[b]? = some (.cells #[p,.slice none 0 0] (ρ.t 72) (0,0)):=d;rw[my this]; rfl
  have N:(I6 #[(ρ.t 37)] (ρ.t 127) #[.slice none 0 0]).run P w.drew=.ok (.pointer none) w.drew:=rfl
  go_enter L.f169,I7 ρ
  go_wp2
  go_region_o
  all_goals (go_wp2; go_ret; exact⟨rfl,d,⟨rfl,rfl,rfl,aH _,fun _ _ _ _=>rfl⟩,fun g cs fz y=>by simp[kW]at y⟩)
 ·have hgb : g ≠ b := fun e => hne (by simp [kW, e])
  by_cases O:l=[]
  ·subst O
   have M:=ah2 L X;simp only[List.length_nil]at *;by_cases R:cap=0
   ·subst R
    have c1:w.drew.cell? ⟨b,1,none⟩=some (.slice (some ⟨g,0,none⟩) 0 0):=by
     have:w.drew.heap[b]? = some (.cells #[p,.slice (some ⟨g,0,none⟩) 0 0] (ρ.t 72) (0,0)):=d;rw[my this]; rfl
    have N:(I6 #[(ρ.t 37)] (ρ.t 127) #[.slice (some ⟨g,0,none⟩) 0 0]).run P w.drew=.ok (.pointer (some ⟨w.drew.heap.size,0,none⟩)) (w.drew.alloc (.view ⟨g,0,none⟩ (ρ.t 5))) :=
     Lib.run_unsafeSliceData_zero w.drew _ _ (ρ.t 5) L.t127 ⟨g,0,none⟩ 0 ((ρ.t 5),cur.size) (by have q:w.drew.heap[g]? = some (.cells cur (ρ.t 5) fz):=y; simp[SN,q])
    have c2:(w.drew.alloc (.view ⟨g,0,none⟩ (ρ.t 5))).cell? ⟨b,1,none⟩=some (.slice (some ⟨g,0,none⟩) 0 0):=by
     have:(w.drew.alloc (.view ⟨g,0,none⟩ (ρ.t 5))).heap[b]? = _:=(ah3 w.drew _ b V).trans d;rw[my this]; rfl
    have c3:(w.alloc (.view ⟨g,0,none⟩ (ρ.t 5))).drew.cell? ⟨b,1,none⟩=some (.slice (some ⟨g,0,none⟩) 0 0):=c2;have c0:w.cell? ⟨b,1,none⟩=some (.slice (some ⟨g,0,none⟩) 0 0):=c1;have hglt:g<w.heap.size:=(iF.1 y).1;have hold:∀ k,k<w.heap.size→(w.alloc (.view ⟨g,0,none⟩ (ρ.t 5))).heap[k]? = w.heap[k]? := fun k hk=>ah3 w _ k hk;have fin:(w.alloc (.view ⟨g,0,none⟩ (ρ.t 5))).heap[b]? = some (.cells #[p,.slice (some ⟨g,0,none⟩) 0 0] (ρ.t 72) (0,0))∧sH w (w.alloc (.view ⟨g,0,none⟩ (ρ.t 5))) b (kW (.slice (some ⟨g,0,none⟩) 0 0)) ∧
      (∀ u cs fz,kW (.slice (some ⟨g,0,none⟩) 0 0)=some u→w.heap[u]? = some (.cells cs (ρ.t 5) fz)→fz.2≤0→∃ h,(w.alloc (.view ⟨g,0,none⟩ (ρ.t 5))).heap[u]? = some (.cells cs (ρ.t 5) h)∧h.2≤0) :=
     ⟨by rw [hold b V]; exact d, ⟨rfl, rfl, rfl, by simp [World.size_alloc], fun k hk _ _ => hold k hk⟩, fun u cs fz q h1 z => ⟨fz, by
      simp only[kW,dL,aX]at q;subst q;rw[hold _ hglt]; exact h1,z⟩⟩
    go_enter L.f169,I7 ρ
    go_wp2
    go_region_o
    all_goals (go_wp2; go_ret; exact⟨rfl,fin.1,⟨rfl,rfl,rfl,fin.2.1.size,fin.2.1.block⟩,fin.2.2⟩)
   ·have c1:w.drew.cell? ⟨b,1,none⟩=some (.slice (some ⟨g,0,none⟩) 0 cap):=by
     have:w.drew.heap[b]? = some (.cells #[p,.slice (some ⟨g,0,none⟩) 0 cap] (ρ.t 72) (0,0)):=d;rw[my this]; rfl
    have N:(I6 #[(ρ.t 37)] (ρ.t 127) #[.slice (some ⟨g,0,none⟩) 0 cap]).run P w.drew=.ok (.pointer (some ⟨g,0,none⟩)) w.drew :=
     ah4 _ _ _ _ _ _ R
    clear R
    go_enter L.f169,I7 ρ
    go_wp2
    go_region_o
    all_goals (go_wp2; go_ret; exact⟨rfl,d,⟨rfl,rfl,rfl,aH _,fun _ _ _ _=>rfl⟩,fun g cs fz _ h1 z=>⟨fz,h1,z⟩⟩)
  ·have hl1 : l.length ≠ 0 := by simpa using O
   have c1:w.drew.cell? ⟨b,1,none⟩=some (.slice (some ⟨g,0,none⟩) l.length cap):=by
    have:w.drew.heap[b]? = some (.cells #[p,.slice (some ⟨g,0,none⟩) l.length cap] (ρ.t 72) (0,0)):=d;rw[my this]; rfl
   have N:(I6 #[(ρ.t 37)] (ρ.t 127) #[.slice (some ⟨g,0,none⟩) l.length cap]).run P w.drew=.ok (.pointer (some ⟨g,0,none⟩)) w.drew :=
    ah4 _ _ _ _ _ _ (by omega)
   have M:(Builtin.unsafeString_ #[(ρ.t 127),(ρ.t 3)] (ρ.t 9) #[.pointer (some ⟨g,0,none⟩),.int .i64 l.length]).run P w.drew=.ok (.string ⟨l.toArray⟩) (w.drew.freeze ⟨g,0,none⟩ l.length):=by
    refine Lib.run_unsafeString_row w.drew (ρ.t 127) (ρ.t 3) (ρ.t 9) (ρ.t 5) L.t127 X.cellsByte g cur.size (by have q:w.drew.heap[g]? = some (.cells cur (ρ.t 5) fz):=y; simp[SN,q]) l O (by omega) (by unfold maxLen at hcm; omega) ?_;intro j x hx;exact U.cells (g:=g) rfl j (.int .u8 x.toNat) (by simp[ja,hx])
   have I:(w.drew.freeze ⟨g,0,none⟩ l.length).heap=w.heap.modify g fun
     |.cells c elem (lo,hi)=>.cells c elem (if lo==hi then (0,0+l.length) else (min lo 0,max hi (0+l.length)))
     |o=>o:=by
    unfold ah5;rw[if_neg hl1];rfl
   have hsz:(w.drew.freeze ⟨g,0,none⟩ l.length).heap.size=w.heap.size:=by rw[I]; simp
   have J:∀ k,k≠g→(w.drew.freeze ⟨g,0,none⟩ l.length).heap[k]? = w.heap[k]? := fun k hk=>by rw[I]; simp[tU,Ne.symm hk]
   have B:(w.drew.freeze ⟨g,0,none⟩ l.length).os=w.os∧(w.drew.freeze ⟨g,0,none⟩ l.length).tape=w.tape∧(w.drew.freeze ⟨g,0,none⟩ l.length).output=w.output:=by
    unfold ah5;rw[if_neg hl1];exact⟨rfl,rfl,rfl⟩
   obtain⟨W,hW⟩:∃ W,w.drew.freeze ⟨g,0,none⟩ l.length=W:=⟨_,rfl⟩
   rw[hW]at M I hsz J B;have fin:W.heap[b]? = some (.cells #[p,.slice (some ⟨g,0,none⟩) l.length cap] (ρ.t 72) (0,0))∧sH w W b (kW (.slice (some ⟨g,0,none⟩) l.length cap)) ∧
     (∀ u cs fz,kW (.slice (some ⟨g,0,none⟩) l.length cap)=some u→w.heap[u]? = some (.cells cs (ρ.t 5) fz)→fz.2≤l.length→∃ h,W.heap[u]? = some (.cells cs (ρ.t 5) h)∧h.2≤l.length):=by
    refine⟨by rw[J b (Ne.symm hgb)]; exact d,⟨B.1,B.2.1,B.2.2,by omega,fun k _ _ hk=>J k fun e=>hk (by simp[kW,e])⟩,fun u cs h q h1 z=>?_⟩;simp only[kW,dL,aX]at q;subst q;rw[I];obtain⟨lo,hi⟩:=h;simp only[tU,if_true,h1,dL];refine⟨_,rfl,?_⟩;simp only at z;split
    ·simp
    ·show max hi (0 + l.length) ≤ l.length
     omega
   go_enter L.f169,I7 ρ
   go_wp2
   go_region_o
   all_goals (go_wp2; go_ret; exact⟨rfl,fin⟩)
end
end Go.AL

namespace Go.AL
open Go Go.Proofs Go.Shelf Go.RowKit
variable [Dr]
section
variable {P:Program} {ρ:Ren}
def zF(d:List G):Option (List G):=bif bI ((gi d 0).str.size+(gi d 1).str.size) 140737488355328 then some [.s ((gi d 0).str++(gi d 1).str),.i ((gi d 1).str.size:Nat)] else none
def MK(d:List G):Option (List G):=some [.s (gi d 0).str,.i ((gi d 0).str.size:Nat)]
def ML(d:List G):Option (List G):=some [.s (gi d 0).str,.s (gi d 0).str]
structure Ee (E:Env) (T B:TypeId) (s:ByteArray) (b n:Nat) (p v:Value) (k:Nat) (q:Option (Nat × Nat)):Prop where
 loc:E.loc[0]? = some (some (b,n))
 sG:E.w.heap[b]? = some (.cells #[p,v] T (0,0))
 ptr:p=.pointer none∨p=.pointer (some ⟨b,0,none⟩)
 Ef:(E.X.r 0)[k]? = some (some q)
 only:∀(h':Nat) q',(E.X.r 0)[h']? = some (some q')→h'=k
 XK:xT E.w B s v q
 own:E.w.ownsRowF 0 B 1 v s.data.toList.length (ja s.data.toList)
 ne:v.ownBlock≠some b
 Eg:v.ownBlock=q.map (·.1)
theorem Eh{E:Env}(HE:aq E){T B:TypeId}{s:ByteArray}(hH:E.H=[.bJ 0 T B s]):∃ b n p v k q,Ee E T B s b n p v k q:=by
 have h0:E.H[0]? = some (.bJ 0 T B s):=by rw[hH]; rfl
 obtain⟨b,n,p,v,k,q,h1,u,y,t,z,d⟩:=HE.obj 0 _ h0;refine⟨b,n,p,v,k,q,h1,u,y,t,z,d,?_,?_,?_⟩
 ·cases q with
  | none =>
   obtain⟨rfl,I⟩:=d;rw[I];exact⟨rfl,.inl ⟨rfl,rfl⟩⟩
  | some h =>
   obtain⟨g,m⟩:=h;obtain⟨e,cs,fz,g1,g2,g3,g4,g5,g6⟩:=d;have:=MJ (l:=s.data.toList) e g1 g2 g3 g4 g5 g6
   rwa [mz]at this
 ·cases q with
  |none=>rw[d.1]; simp[kW]
  | some h =>
   obtain⟨g,m⟩:=h;rw[d.1];simp only[kW,dL,ne_eq,aX];intro e;subst e;exact HE.cN _ _ _ _ _ _ h1 t
 ·cases q with
  |none=>rw[d.1]; rfl
  |some h=>rw[d.1]; rfl
theorem Ei{E:Env}{T B:TypeId}{s:ByteArray}{b n:Nat}{p v:Value}{k:Nat}{q:Option (Nat × Nat)}(hH:E.H=[.bJ 0 T B s])(hb:Ee E T B s b n p v k q){c:Value}(d:rel E (.ptr 0 0 0 0 0) c):c=.pointer (some ⟨b,0,none⟩):=by
 simp only[rel]at d;obtain⟨_,_,h⟩:=d;obtain⟨t,u,h1,g⟩:=h ⟨.bJ 0 T B s,by rw[hH]; rfl,rfl⟩;rw[hb.loc]at h1;cases h1;rw[g]
theorem Ej{w:World}{B:TypeId}{v:Value}{l:List UInt8}(h:w.ownsRowF 0 B 1 v l.length (ja l)):(v=.slice none 0 0∧l=[])∨∃ g m cs fz,v=.slice (some ⟨g,0,none⟩) l.length m∧w.heap[g]? = some (.cells cs B fz)∧fz.2≤l.length∧cs.size=m∧l.length≤m∧m≤9223372036854775807 ∧
  cs.toList.take l.length=ja l:=by
 rcases h.2 with⟨h1,k⟩|⟨g,cap,cur,fz,h1,_,q,y,t,u,z,d⟩
 ·exact .inl ⟨h1,nE k⟩
 ·exact .inr ⟨g,cap,cur,fz,h1,q,by omega,by omega,t,by unfold maxLen at u; omega,by rw[IZ]at d; exact d⟩
theorem MM{E:Env}(HE:aq E)(hd:pD=false){T B:TypeId}{s s':ByteArray}{b n:Nat}{p v:Value}{k:Nat}{q:Option (Nat × Nat)}(hH:E.H=[.bJ 0 T B s])(hb:Ee E T B s b n p v k q){w':World}{N z:Value}
  (hp':N=.pointer none∨N=.pointer (some ⟨b,0,none⟩)) (hbk:w'.heap[b]? = some (.cells #[N,z] T (0,0))) (hown:w'.ownsRowF 0 B 1 z s'.data.toList.length (ja s'.data.toList))
  (hblk:(z.ownBlock=v.ownBlock∧oL z=oL v)∨z.ownBlock=some E.w.heap.size) (I:sH E.w w' b v.ownBlock) :
  ∃ r',aq { w:=w',H:=[.bJ 0 T B s'],loc:=E.loc,X:=E.X.re r' }∧E.le { w:=w',H:=[.bJ 0 T B s'],loc:=E.loc,X:=E.X.re r' }:=by
 have h0:E.H[0]? = some (.bJ 0 T B s):=by rw[hH]; rfl
 have eset:E.H.set 0 (.bJ 0 T B s')=[.bJ 0 T B s']:=by rw[hH]; rfl
 have hos:dC E.w w':=⟨I.os,I.output,I.tape,fun ht=>by rw[hd]at ht; cases ht⟩
 have hsame:∀ x,x<E.w.heap.size→(∀ n,E.loc[0]? ≠ some (some (x,n)))→(∀(h m:Nat),(E.X.r 0)[h]? ≠ some (some (some (x,m))))→w'.heap[x]? = E.w.heap[x]? := fun x d h1 u =>
  I.block x d (fun e=>h1 n (by rw[e]; exact hb.loc)) fun e=>by
   rw[hb.Eg]at e;cases q with
   |none=>cases e
   | some O =>
    obtain⟨g,m⟩:=O;simp only[dL,aX]at e;subst e;exact u k m hb.Ef
 rw[←eset];rcases hblk with⟨y,R⟩|J
 ·-- where it was
  refine⟨E.X.r,aq.ui HE h0 rfl rfl rfl I.size hsame (fun _ _=>rfl) (fun h b m t=>.inl t) (fun h t=>⟨t,fun _ J=>J⟩) (fun _=>?_) hos⟩;refine⟨b,n,N,z,k,q,hb.loc,hbk,hp',hb.Ef,hb.only,?_⟩;rcases Ej hown with⟨h1,u⟩|⟨g,m,cs,fz,h1,u,U,V,W,h6,h7⟩
  ·subst h1
   rw[hb.Eg]at y;cases q with
   |none=>exact⟨rfl,u⟩
   |some O=>cases y
  ·rw [hb.Eg] at y
   cases q with
   |none=>rw[h1]at y; cases y
   | some O =>
    obtain⟨g0,m0⟩:=O;have hv:=hb.XK.1;rw[h1]at y R;simp only[kW,dL,aX]at y;subst y;have:m=m0:=by rw[hv]at R; exact R
    subst this;exact⟨h1,cs,fz,u,U,V,W,h6,h7⟩
 ·-- in a row that is new
  rcases Ej hown with⟨h1,u⟩|⟨g,m,cs,fz,h1,u,U,V,W,h6,h7⟩
  ·rw [h1] at J
   cases J
  have hg:g=E.w.heap.size:=by
   rw[h1]at J;simpa[kW]using J
  have hgl:g<w'.heap.size:=(iF.1 u).1;have hkl:=aL hb.Ef;have M:∀(h:Nat) x,((E.X.r 0).set k none++[some (some (g,m))])[h]? = some (some x)→h=(E.X.r 0).length∧x=some (g,m):=fun h x d=>by
   rw[List.getElem?_append]at d;split at d
   ·rename_i hlt
    rw[kQ]at hlt;rw[List.getElem?_set]at d;split at d
    ·cases d
    ·rename_i hne
     exact(hne (hb.only h x d).symm).elim
   ·rename_i hge
    rw[kQ]at hge d;cases hz:h-(E.X.r 0).length with
    | zero =>
     rw[hz]at d;simp at d;exact⟨by omega,d.symm⟩
    |succ n=>rw[hz]at d; simp at d
  refine⟨fun l=>if l=0 then (E.X.r 0).set k none++[some (some (g,m))] else E.X.r l,aq.ui HE h0 rfl rfl rfl I.size hsame (fun l hl=>if_neg hl) (fun h b m' t=>?_) (fun h t=>?_) (fun _=>?_) hos⟩
  ·simp only [if_true] at t ⊢
   obtain⟨_,h9⟩:=M h _ t;simp only[aX,Prod.mk.injEq]at h9;obtain⟨rfl,rfl⟩:=h9;right;refine⟨by omega,hgl,fun h' m'' hh'=>?_⟩;rw[(M h' _ hh').1,(M h _ t).1]
  ·simp only [if_true]
   refine⟨by simp; omega,fun x d=>?_⟩;have:=(M h _ d).1;omega
  ·refine ⟨b, n, N, z, (E.X.r 0).length, some (g, m), hb.loc, hbk, hp', ?_, fun h' q' t => ?_, h1, cs, fz, u, U, V, W, h6, h7⟩
   ·simp[XS.re]
   ·exact(M h' q' (by simpa[XS.re]using t)).1
theorem XL(a b:ByteArray):(a++b).data.toList=a.data.toList++b.data.toList:=by simp[ByteArray.data_append]
theorem XM(L:Lays.n166 P ρ)(X:Builder.Extra P ρ)(B:pD=false)(d r:List G)(h:zF d=some r) :
  cq P (ρ.f 166) (bV (bQ [.bJ 0 (ρ.t 72) (ρ.t 5)] d) [.s (.ptr 0 0),.s .str] (cD 1 d)) (ai (ca (bQ [.bJ 0 (ρ.t 72) (ρ.t 5)] d) [.bJ 0 (ρ.t 72) (ρ.t 5)] d))
   (df (bV (bQ [.bJ 0 (ρ.t 72) (ρ.t 5)] r) [.s (.int .i64),.s .any] (cD 1 r))) (ai (ca (bQ [.bJ 0 (ρ.t 72) (ρ.t 5)] r) [.bJ 0 (ρ.t 72) (ρ.t 5)] r)):=by
 have I:d.headD default=gi d 0:=rfl;have J:d.tail.headD default=gi d 1:=rfl;unfold zF at h;cases hb:bI ((gi d 0).str.size+(gi d 1).str.size) 140737488355328 with
 |false=>rw[hb]at h; cases h
 |true =>
 rw[hb]at h;cases h;have hlen:=ua hb;intro E cargs hH HE g;simp only[bV,gO,dp,ca,eA,ai,cY,kV,ah.den,cD,dn.sz,Sh.sz,df,I,J]at hH g⊢;generalize hs:(gi d 0).str=s at *;generalize hx:(gi d 1).str=x at *;simp only[mv,xF,G.int,G.str]at g⊢;obtain⟨cs⟩:=cargs
 match cs,g with
 | [c0,c1],g =>
 simp only[ae,and_true]at g;obtain⟨h0,h1⟩:=g;simp only[rel]at h1;subst h1;obtain⟨b,n,p,v,k,q,u⟩:=Eh HE hH;have M:=Ei hH u h0;subst M;have N:(ja s.data.toList).length=s.size:=by rw[mz]; exact(fU s).symm
 refine(XI L X b p v (ja s.data.toList) x E.w u.ptr u.sG (by rw[mz]; exact u.own) u.ne (by rw[N]; exact hlen)).mono ?_;rintro e w' ⟨rfl,v',O,y,R,U⟩;have hsl:=fU s;have z:=fU x;obtain⟨r',V,W⟩:=MM (s':=s++x) HE B hH u (.inr rfl) O (by
  rw[XL,List.length_append,show ja (s.data.toList++x.data.toList)=ja s.data.toList++BX x by simp[ja,BX]];rw[mz,z]at y;exact y) R U
 exact⟨_,_,_,rfl,⟨rfl,rfl⟩,E.loc,r',by simp[rel,ae],V,W⟩
theorem XN(L:Lays.n170 P ρ)(I:pD=false)(d r:List G)(h:MK d=some r) :
  cq P (ρ.f 170) (bV (bQ [.bJ 0 (ρ.t 72) (ρ.t 5)] d) [.s (.ptr 0 0)] (cD 1 d)) (ai (ca (bQ [.bJ 0 (ρ.t 72) (ρ.t 5)] d) [.bJ 0 (ρ.t 72) (ρ.t 5)] d))
   (df (bV (bQ [.bJ 0 (ρ.t 72) (ρ.t 5)] r) [.s (.int .i64)] (cD 1 r))) (ai (ca (bQ [.bJ 0 (ρ.t 72) (ρ.t 5)] r) [.bJ 0 (ρ.t 72) (ρ.t 5)] r)):=by
 have z:d.headD default=gi d 0:=rfl;cases h;intro E cargs hH HE g;simp only[bV,gO,dp,ca,eA,ai,cY,kV,ah.den,cD,dn.sz,Sh.sz,df,z]at hH g⊢;generalize J:(gi d 0).str=s at *;simp only[mv,xF,G.int,G.str]at g⊢;obtain⟨cs⟩:=cargs
 match cs,g with
 | [M],g =>
 simp only[ae,and_true]at g;obtain⟨b,n,p,v,k,q,u⟩:=Eh HE hH;have B:=Ei hH u g;subst B;have y:Lib.BuilderAtF (ρ.t 72) (ρ.t 5) 0 b p (ja s.data.toList) E.w:=⟨dB _,v,u.sG,by rw[mz]; exact u.own,u.ne⟩
 refine(Any.Builder_Len_f L 0 b (ja s.data.toList) E.w (by rcases u.ptr with rfl|rfl; exact .inl y; exact .inr y)).mono ?_;rintro e w' ⟨rfl,rfl⟩;refine⟨_,_,_,rfl,⟨rfl,rfl⟩,E.loc,E.X.r,?_,?_,?_⟩
 ·simp only [rel]
  rw[mz,fU s]
 ·rw[←hH]; exact HE
 ·rw[←hH]; exact Env.le.refl E
theorem XO(L:Lays.n169 P ρ)(X:Builder.Extra P ρ)(I:pD=false)(d r:List G)(h:ML d=some r) :
  cq P (ρ.f 169) (bV (bQ [.bJ 0 (ρ.t 72) (ρ.t 5)] d) [.s (.ptr 0 0)] (cD 1 d)) (ai (ca (bQ [.bJ 0 (ρ.t 72) (ρ.t 5)] d) [.bJ 0 (ρ.t 72) (ρ.t 5)] d))
   (df (bV (bQ [.bJ 0 (ρ.t 72) (ρ.t 5)] r) [.s .str] (cD 1 r))) (ai (ca (bQ [.bJ 0 (ρ.t 72) (ρ.t 5)] r) [.bJ 0 (ρ.t 72) (ρ.t 5)] r)):=by
 have J:d.headD default=gi d 0:=rfl;cases h;intro E cargs hH HE y;simp only[bV,gO,dp,ca,eA,ai,cY,kV,ah.den,cD,dn.sz,Sh.sz,df,J]at hH y⊢;generalize hs:(gi d 0).str=s at *;simp only[mv,xF,G.int,G.str]at y⊢;obtain⟨cs⟩:=cargs
 match cs,y with
 | [c0],y =>
 simp only[ae,and_true]at y;obtain⟨b,n,p,v,k,q,u⟩:=Eh HE hH;have M:=Ei hH u y;subst M;refine(XJ L X b p v s.data.toList E.w u.sG u.own u.ne).mono ?_;rintro e w' ⟨rfl,N,O,R⟩;obtain⟨r',U,V⟩:=MM (s':=s) HE I hH u u.ptr N (by
  rcases Ej u.own with⟨z,B⟩|⟨g,m,cs,fz,z,B,W,k4,k5,k6,k7⟩
  ·subst z
   rw[B];exact⟨rfl,.inl ⟨rfl,rfl⟩⟩
  ·obtain ⟨fz', g1, g2⟩ := R g cs fz (by rw [z]; rfl) B W
   have:=MJ (l:=s.data.toList) z g1 g2 k4 k5 k6 k7
   rwa [mz]at this) (.inl ⟨rfl,rfl⟩) O
 exact⟨_,_,_,rfl,⟨rfl,rfl⟩,E.loc,r',by simp[rel],U,V⟩
end
end Go.AL

namespace Go.AL
open Go Go.Proofs Go.Shelf Go.RowKit
variable [Dr]
def nk(rows:List (List G)):List ByteArray:=rows.map fun r=>(gi r 0).str
def lY(rows:List (List G))(sep:ByteArray):ByteArray:=⟨(eR ((nk rows).map (·.data.toList)) sep.data.toList).toArray⟩
noncomputable def vK(d:List G):Option (List G) :=
 bif bI (gi d 0).rows.length 1048576&&bI (lY (gi d 0).rows (gi d 1).str).size 140737488355328 then some [.s (lY (gi d 0).rows (gi d 1).str)] else none
def sI(s sep:ByteArray):List (List G):=(xK sep 0 (pB s sep) s).map fun b=>[G.s b]
noncomputable def zG(d:List G):Option (List G) :=
 bif af (gi d 1).str.size 1&&((gi d 2).int==0&&((gi d 3).int == -1&&cJ (gi d 0).str.size 4294967281)) then some [.l (sI (gi d 0).str (gi d 1).str)] else none
noncomputable def vL(d:List G):Option (List G) :=
 bif bI (gi d 0).str.size 18 then (Lib.atoi (gi d 0).str.data.toList).map fun n=>[.i n] else none
section
variable {P:Program} {ρ:Go.Shelf.Ren}
theorem XP{E:Env}{rows:List (List G)}{c:Value}(h:rel E (.listF [.str] rows) c):∃ base cap,c=.slice base rows.length cap∧rows.length≤cap∧(rows=[]∨∃ b o,base=some ⟨b,o,none⟩∧E.ig b∧∀(i:Nat) x,(nk rows)[i]? = some x→E.w.cell? ⟨b,o+i,none⟩=some (.string x)):=by
 simp only[rel,dG]at h;obtain⟨base,cap,rfl,h1,d⟩:=h;refine⟨base,cap,rfl,h1,?_⟩;rcases d with d|⟨b,o,rfl,k,q⟩
 ·exact .inl d
 ·refine .inr ⟨b, o, rfl, k, fun i x hi => ?_⟩
  unfold nk at hi;rw[bR]at hi;cases g:rows[i]? with
  |none=>rw[g]at hi; cases hi
  | some r =>
   rw[g]at hi;cases hi;have:=q i r g;simp only[jB,dG,and_true]at this;obtain⟨v,g1,_,g2⟩:=this;have g1:E.w.cell? ⟨b,o+i,none⟩=some v:=by simpa using g1
   rw[g1,g2];cases r<;>rfl
theorem XQ(z:pD=false)(L:Lays.n156 P ρ)(X:Builder.Extra P ρ)(d r:List G)(h:vK d=some r) :
  cq P (ρ.f 156) (bV [] [.s (.list [.str]),.s .str] d) [] (df (bV [] [.s .str] r)) []:=by
 unfold vK at h;cases hb:(bI (gi d 0).rows.length 1048576&&bI (lY (gi d 0).rows (gi d 1).str).size 140737488355328)with
 |false=>rw[hb]at h; cases h
 | true =>
  rw[hb]at h;cases h;simp only[ar,Nat.ble_eq]at hb;obtain⟨O,R⟩:=hb;have B:d.headD default=gi d 0:=rfl;have I:d.tail.headD default=gi d 1:=by
   cases d with
   |nil=>rfl
   |cons x l=>cases l<;>rfl
  intro E cargs hH HE g;simp only[bV,gO,dp,cD,dn.sz,Sh.sz,df,B,I]at g⊢;generalize M:(gi d 0).rows=rows at *;generalize N:(gi d 1).str=sep at *;obtain⟨cs⟩:=cargs
  match cs,g with
  | [V,c1],g =>
  simp only[ae,and_true]at g;obtain⟨h0,h1⟩:=g;simp only[rel]at h1;subst h1;obtain⟨base,cap,rfl,W,v⟩:=XP h0;have hlen:(nk rows).length=rows.length:=by simp[nk]
  have U:(lY rows sep).size=(eR ((nk rows).map (·.data.toList)) sep.data.toList).length:=by simp[lY,ByteArray.size]
  have key:Calls P (ρ.f 156) #[.slice base rows.length cap,.string sep] E.w fun e w'=>e=.returned (.string (lY rows sep))∧Below E.w.heap.size E.w w':=by
   rcases v with rfl|⟨b,o,rfl,y,u⟩
   ·exact(Any.strings_Join_none L X base cap sep E.w).mono fun e w' ⟨he,hw⟩=>⟨he,hw▸Below.refl _ _⟩
   ·have := Any.strings_Join L X b o cap (nk rows) sep E.w u y.1 (by omega) (by omega) (by omega)
    rw[hlen]at this;exact this
  refine key.mono ?_;rintro e w' ⟨rfl,k⟩;have q:Ext E.w w':=⟨k.size,fun x J=>k.block x J,k.os,k.output,k.tape,fun t=>by rw[z]at t; cases t⟩
  refine⟨_,_,_,rfl,⟨rfl,rfl⟩,E.loc,E.X.r,by simp[rel,G.str],?_,?_⟩
  ·rw[←hH]; exact HE.ext q
  ·rw[←hH]; exact Env.gl q
theorem XR(L:Lays.n221 P ρ) (I:(P.info? (ρ.t 9)).map (fun i=>(i.zero,i.size,i.bytes))=some (some (.string tS),1,16)) (d r:List G) (h:zG d=some r) :
    cq P (ρ.f 221) (bV [] [.s .str,.s .str,.s (.int .i64),.s (.int .i64)] d) [] (df (bV [] [.s (.list [.str])] r)) []:=by
  unfold zG at h;cases hb:(af (gi d 1).str.size 1&&((gi d 2).int==0&&((gi d 3).int == -1&&cJ (gi d 0).str.size 4294967281)))with
  |false=>rw[hb]at h; cases h
  | true =>
    rw[hb]at h;cases h;simp only[ar,beq_iff_eq,dM]at hb;obtain⟨k,J,M,N⟩:=hb;have k:=br k;have O:d.headD default=gi d 0:=rfl;have R:d.tail.headD default=gi d 1:=by
      cases d with
      |nil=>rfl
      |cons x l=>cases l<;>rfl
    have q:d.tail.tail.headD default=gi d 2:=by
      match d with
      | [] | [_] | [_,_]|_::_::_::_=>rfl
    have U:d.tail.tail.tail.headD default=gi d 3:=by
      match d with
      | [] | [_] | [_,_] | [_,_,_]|_::_::_::_::_=>rfl
    intro E cargs hH HE g;simp only[bV,gO,dp,cD,dn.sz,Sh.sz,df,O,R,q,U,J,M]at g⊢;generalize W:(gi d 0).str=s at *;generalize V:(gi d 1).str=sep at *;obtain⟨cs⟩:=cargs
    match cs,g with
    | [c0,c1,c2,c3],g =>
    simp only[ae,rel,and_true]at g;obtain⟨rfl,rfl,rfl,rfl⟩:=g;obtain⟨c,rfl⟩:=I8 sep k;have hle:=Lib.countB_le ⟨#[c]⟩ (aH 1) s.size s (aH _);have hlen:=Lib.splitB_all ⟨#[c]⟩ (aH 1) 0 _ s rfl;have u:=Any.strings_genSplit_core L I s ⟨#[c]⟩ 0 (-1) (pB s ⟨#[c]⟩+1) E.w N (aH 1) (dB _)
      (fun x cc z=>(Any.strings_Index_one { L with } x c _).mono fun e w' h=>⟨by
        rw[h.1];show _=Ending.returned (Value.int .i64 (lG x.data.toList [c]))
        rw[qS],h.2⟩)
      ((Any.strings_Count_one { L with } s c E.w).mono fun e w' ⟨he, hw⟩ => ⟨by
        rw[he];show _=Ending.returned (Value.int .i64 ((Lib.count s.data.toList [c]:Nat):Int))
        rw[Lib.count_one];rfl,hw⟩) (by decide) (by decide) (by rw[if_pos (by decide)]; omega)
    rw[Nat.add_sub_cancel,hlen]at u;have q:Lib.cellsOf (xK ⟨#[c]⟩ 0 (pB s ⟨#[c]⟩) s) (pB s ⟨#[c]⟩+1)=((xK ⟨#[c]⟩ 0 (pB s ⟨#[c]⟩) s).map Value.string).toArray:=by rw[←hlen]; exact Lib.cellsOf_full _
    rw[q]at u;refine u.mono ?_;rintro e w' ⟨rfl,rfl⟩;have y:Ext E.w (E.w.alloc (.cells ((xK ⟨#[c]⟩ 0 (pB s ⟨#[c]⟩) s).map Value.string).toArray (ρ.t 9))):=Ext.push _ _;have B:(sI s ⟨#[c]⟩).length=pB s ⟨#[c]⟩+1:=by simp[sI,hlen]
    refine⟨_,_,_,rfl,⟨rfl,rfl⟩,E.loc,E.X.r,?_,?_,?_⟩
    · simp only [rel, dG, mv, G.rows]
      refine⟨_,_,by rw[B],by rw[B]; exact aH _,.inr ⟨E.w.heap.size,0,rfl,⟨by show _<(E.w.heap.push _).size; simp,?_,fun z=>?_⟩,fun i x hi=>?_⟩⟩
      · rintro ho
        have:=(HE.xW ho).1;omega
      · have := HE.X _ z
        omega
      · unfold sI at hi
        rw[bR]at hi;cases v:(xK ⟨#[c]⟩ 0 (pB s ⟨#[c]⟩) s)[i]? with
        |none=>rw[v]at hi; cases hi
        | some b =>
          rw[v]at hi;cases hi;simp only[jB,dG,mv,and_true,G.str];refine⟨.string b,?_,rfl,rfl⟩;show pg { E.w with heap:=E.w.heap.push _ } _=_
          unfold pg;simp[v]
    · rw[←hH]; exact HE.ext y
    · rw[←hH]; exact Env.gl y
theorem XT(L:Lays.n172 P ρ)(d r:List G)(h:vL d=some r) :
  cq P (ρ.f 172) (bV [] [.s .str] d) [] (df (bV [] [.s (.int .i64),.s .vm] r)) []:=by
 unfold vL at h;cases hb:bI (gi d 0).str.size 18 with
 |false=>rw[hb]at h; cases h
 | true =>
  rw[hb]at h;simp only[cond_true]at h;have u:d.headD default=gi d 0:=rfl;cases k:Lib.atoi (gi d 0).str.data.toList with
  |none=>rw[k]at h; cases h
  | some n =>
   rw[k]at h;cases h;intro E cargs hH HE g;simp only[bV,gO,dp,cD,dn.sz,Sh.sz,df,u]at g⊢;generalize v:(gi d 0).str=s at *;obtain⟨cs⟩:=cargs
   match cs,g with
   | [y],g =>
   simp only[ae,rel,and_true]at g;subst g;refine(Any.strconv_Atoi L s n (ua hb) k E.w).mono ?_;rintro e w' ⟨rfl,t,rfl⟩;have q:Ext E.w (Lib.bytesWorld E.w (ρ.t 5) t) :=
    ⟨by rw[Lib.bytesWorld_size]; omega,fun b hb=>Lib.bytesWorld_at_old _ _ _ b hb,⟨rfl,rfl,rfl,fun _=>Nat.le_succ _⟩⟩
   refine⟨_,_,_,rfl,⟨rfl,rfl⟩,E.loc,E.X.r,by simp[rel,ae,G.int],?_,?_⟩
   ·rw[←hH]; exact HE.ext q
   ·rw[←hH]; exact Env.gl q
end
end Go.AL

namespace Go.AL
open Go Go.Proofs Go.Shelf Go.RowKit
variable [Dr]
def bN(s:ByteArray):Bool:=s.data.toList.all fun b=>cJ b.toNat 128
theorem zH{s:ByteArray}(h:bN s=true)(j:Nat)(b:UInt8)(d:s.data.toList[j]? = some b):b.toNat<128:=by
 have:=List.all_eq_true.1 h b (List.mem_of_getElem? d);simpa[dM]using this
noncomputable def zI(d:List G):Option (List G):=bif af (gi d 1).str.size 1 then some [.i (lG (gi d 0).str.data.toList (gi d 1).str.data.toList)] else none
noncomputable def zJ(d:List G):Option (List G):=bif af (gi d 1).str.size 1 then some [.t (aG 0 (lG (gi d 0).str.data.toList (gi d 1).str.data.toList))] else none
noncomputable def zK(d:List G):Option (List G) :=
 bif bN (gi d 0).str&&(bN (gi d 1).str&&(cJ (gi d 0).str.size 4294967281&&cJ (gi d 1).str.size 4294967281)) then some [.t (Lib.containsAny (gi d 0).str.data.toList (gi d 1).str.data.toList)] else none
section
variable {P:Program} {ρ:Go.Shelf.Ren}
theorem vM(d:List G):d.headD default=gi d 0∧d.tail.headD default=gi d 1:=by
 constructor
 ·rfl
 ·cases d with
  |nil=>rfl
  |cons x l=>cases l<;>rfl
theorem XU(L:Lays.n219 P ρ)(d r:List G)(h:zI d=some r):cq P (ρ.f 219) (bV [] [.s .str,.s .str] d) [] (df (bV [] [.s (.int .i64)] r)) []:=by
 unfold zI at h;cases hb:af (gi d 1).str.size 1 with
 |false=>rw[hb]at h; cases h
 | true =>
  rw[hb]at h;cases h;obtain⟨k,q⟩:=vM d;intro E cargs hH HE g;simp only[bV,gO,dp,cD,dn.sz,Sh.sz,df,k,q]at g⊢;generalize u:(gi d 0).str=s at *;generalize t:(gi d 1).str=sep at *;obtain⟨cs⟩:=cargs
  match cs,g with
  | [v,c1],g =>
  simp only[ae,rel,and_true]at g;obtain⟨rfl,rfl⟩:=g;obtain⟨c,rfl⟩:=I8 sep (br hb);refine(Any.stringslite_Index_one L s c E.w).mono ?_;rintro e w' ⟨rfl,rfl⟩;refine⟨_,_,_,rfl,⟨rfl,rfl⟩,E.loc,E.X.r,?_,?_,?_⟩
  ·have e : lG s.data.toList (⟨#[c]⟩ : ByteArray).data.toList = fI s.data.toList c := qS _ _
   simp[rel,G.int,e]
  ·rw[←hH]; exact HE
  ·rw[←hH]; exact Env.le.refl E
theorem XV(L:Lays.n144 P ρ)(d r:List G)(h:zJ d=some r):cq P (ρ.f 144) (bV [] [.s .str,.s .str] d) [] (df (bV [] [.s .bool] r)) []:=by
 unfold zJ at h;cases hb:af (gi d 1).str.size 1 with
 |false=>rw[hb]at h; cases h
 | true =>
  rw[hb]at h;cases h;obtain⟨k,q⟩:=vM d;intro E cargs hH HE g;simp only[bV,gO,dp,cD,dn.sz,Sh.sz,df,k,q]at g⊢;generalize u:(gi d 0).str=s at *;generalize t:(gi d 1).str=sep at *;obtain⟨cs⟩:=cargs
  match cs,g with
  | [v,c1],g =>
  simp only[ae,rel,and_true]at g;obtain⟨rfl,rfl⟩:=g;obtain⟨c,rfl⟩:=I8 sep (br hb);refine(Any.strings_Contains_one L s c E.w).mono ?_;rintro e w' ⟨rfl,rfl⟩;refine⟨_,_,_,rfl,⟨rfl,rfl⟩,E.loc,E.X.r,?_,?_,?_⟩
  ·have e : lG s.data.toList (⟨#[c]⟩ : ByteArray).data.toList = fI s.data.toList c := qS _ _
   simp[rel,G.bool,e,bx]
  ·rw[←hH]; exact HE
  ·rw[←hH]; exact Env.le.refl E
theorem XW(z:pD=false)(L:Lays.n150 P ρ) (y:(P.info? (ρ.t 116)).map (fun i=>(i.zero,i.size))=some (some (.agg (pz 256 (.bool false))),256)) (d r:List G) (h:zK d=some r) :
  cq P (ρ.f 150) (bV [] [.s .str,.s .str] d) [] (df (bV [] [.s .bool] r)) []:=by
 unfold zK at h;cases hb:(bN (gi d 0).str&&(bN (gi d 1).str&&(cJ (gi d 0).str.size 4294967281&&cJ (gi d 1).str.size 4294967281)))with
 |false=>rw[hb]at h; cases h
 | true =>
  rw[hb]at h;cases h;simp only[ar,dM]at hb;obtain⟨b1,B,I,J⟩:=hb;obtain⟨M,N⟩:=vM d;intro E cargs hH HE g;simp only[bV,gO,dp,cD,dn.sz,Sh.sz,df,M,N]at g⊢;generalize U:(gi d 0).str=s at *;generalize R:(gi d 1).str=sep at *;obtain⟨cs⟩:=cargs
  match cs,g with
  | [V,c1],g =>
  simp only[ae,rel,and_true]at g;obtain⟨rfl,rfl⟩:=g;refine(Any.strings_ContainsAny_laid L y s sep E.w I J (fun j b q=>zH b1 j b q) (fun j b q=>zH B j b q)).mono ?_;rintro e w' ⟨rfl,k⟩;have u:Ext E.w w':=⟨k.size,fun x O=>k.block x O,k.os,k.output,k.tape,fun v=>by rw[z]at v; cases v⟩
  refine⟨_,_,_,rfl,⟨rfl,rfl⟩,E.loc,E.X.r,by simp[rel,G.bool],?_,?_⟩
  ·rw[←hH]; exact HE.ext u
  ·rw[←hH]; exact Env.gl u
end
end Go.AL

namespace Go.AL
open Go Go.Proofs Go.Shelf Go.RowKit
variable [Dr]
def setRow(chars:ByteArray):List G:=(er 256).map fun j=>G.t (chars.data.toList.contains (uf j))
abbrev kz:List Kd:=bU 256 .bool
noncomputable def zL(d:List G):Option (List G):=bif bN (gi d 0).str&&cJ (gi d 0).str.size 4294967281 then some [.l [setRow (gi d 0).str],.t true] else none
noncomputable def zM(d:List G):Option (List G):=bif aG 0 (gi d 1).int&&ak (gi d 1).int 128 then some [.i (fI (gi d 0).str.data.toList (gi d 1).int.toNat.toUInt8)] else none
theorem MN:∀ l:List Bool,aK (bU l.length .bool) (l.map G.t)=(l.map Value.bool).map AV.lit
 | []=>rfl
 | b::l=>by
  show ic .bool (G.t b)::aK (bU l.length .bool) (l.map G.t)=_
  rw[MN l];rfl
section
variable {P:Program} {ρ:Go.Shelf.Ren}
theorem XX(L:Lays.n227 P ρ) (k:(P.info? (ρ.t 116)).map (fun i=>(i.zero,i.size))=some (some (.agg (pz 256 (.bool false))),256)) (d r:List G) (h:zL d=some r) :
  cq P (ρ.f 227) (bV [] [.s .str] d) [] (df (bV [] [.s (.row kz),.s .bool] r)) []:=by
 unfold zL at h;cases hb:(bN (gi d 0).str&&cJ (gi d 0).str.size 4294967281)with
 |false=>rw[hb]at h; cases h
 | true =>
  rw[hb]at h;cases h;simp only[ar,dM]at hb;obtain⟨y,_⟩:=vM d;intro E cargs hH HE g;simp only[bV,gO,dp,cD,dn.sz,Sh.sz,df,y]at g⊢;generalize I:(gi d 0).str=s at *;obtain⟨cs⟩:=cargs
  match cs,g with
  | [J],g =>
  simp only[ae,rel,and_true]at g;subst g;refine(Any.strings_makeASCIISet L (zero_of_info k).1 (zero_of_info k).2 s E.w hb.2 (fun j b z=>zH hb.1 j b z)).mono ?_;rintro e w' ⟨rfl,rfl⟩;have q:Ext E.w (E.w.alloc (.cells (SQ s.data.toList) (ρ.t 116))):=Ext.push _ _;have u:(SQ s.data.toList).toList=((er 256).map fun j=>s.data.toList.contains (uf j)).map Value.bool:=by
   rw[Lib.setCells_eq,Array.toList_map,Array.toList_range,j5];rfl
  have B:aK kz (setRow s)=((SQ s.data.toList).toList).map AV.lit:=by
   rw[u,←MN];simp only[List.length_map,List.length_range,setRow,j5];rfl
  refine⟨_,_,_,rfl,⟨rfl,rfl⟩,E.loc,E.X.r,?_,?_,?_⟩
  ·simp only [rel]
   refine⟨_,rfl,?_⟩;simp only[ae,rel,and_true];refine⟨⟨_,rfl,?_,?_⟩,rfl⟩
   ·intro x v
    rw[u]at v;obtain⟨b,_,rfl⟩:=List.mem_map.1 v;rfl
   ·show ae _ (aK kz (setRow s)) _
    rw[B];exact mE _
  ·rw[←hH]; exact HE.ext q
  ·rw[←hH]; exact Env.gl q
theorem XY(L:Lays.n152 P ρ)(d r:List G)(h:zM d=some r):cq P (ρ.f 152) (bV [] [.s .str,.s (.int .i32)] d) [] (df (bV [] [.s (.int .i64)] r)) []:=by
 unfold zM at h;cases hb:(aG 0 (gi d 1).int&&ak (gi d 1).int 128)with
 |false=>rw[hb]at h; cases h
 | true =>
  rw[hb]at h;cases h;simp only[ar,bx,aZ,decide_eq_true_eq]at hb;obtain⟨k,q⟩:=vM d;intro E cargs hH HE g;simp only[bV,gO,dp,cD,dn.sz,Sh.sz,df,k,q]at g⊢;generalize t:(gi d 0).str=s at *;generalize u:(gi d 1).int=n at *;obtain⟨cs⟩:=cargs
  match cs,g with
  | [v,c1],g =>
  simp only[ae,rel,and_true]at g;obtain⟨rfl,rfl⟩:=g;refine(Any.strings_IndexRune_ascii L s n E.w hb.1 hb.2).mono ?_;rintro e w' ⟨rfl,rfl⟩;refine⟨_,_,_,rfl,⟨rfl,rfl⟩,E.loc,E.X.r,by simp[rel,G.int],?_,?_⟩
  ·rw[←hH]; exact HE
  ·rw[←hH]; exact Env.le.refl E
end
end Go.AL
