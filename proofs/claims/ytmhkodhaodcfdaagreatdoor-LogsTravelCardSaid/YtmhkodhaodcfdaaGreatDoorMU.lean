/-
 What is proved here: strings.Builder's methods: what they do to the builder's two blocks,and that they leave all other blocks alone. No program in sight; what is asked is that the library's text lies in the program.
-/
import Derived.Test.YtmhkodhaodcfdaaGreatDoorMG
import Derived.Shelf.Strings.BuilderF
import Derived.Shelf.Strings.OnBuilder
import Derived.Shelf.Strings.SplitCore
import Derived.Shelf.Strings.Count
import Derived.Shelf.Strings.Search3
import Derived.Shelf.Strconv.Atoi
import Derived.Lib.SplitLaws
import Derived.Shelf.Strings.IndexAnyAll
import Derived.Shelf.Strings.Runes
import Derived.Shelf.Strings.AsciiSet
import Derived.Shelf.Strings.Repeat
set_option linter.all false
open Array renaming getElem?_modify->EW,getElem?_eq_some_iff->je,getElem?_eq_none->E_,replicate->pz
open Bool renaming and_eq_true->aE
open ByteArray renaming empty->uy
open Go renaming Value->ak,TypeId->aD,World->a6,Program->ai
open Go.Builtin renaming append_->nk,unsafeSliceData_->J'
open Go.Lib renaming strCells->Fj,cell_of_heap->pB,frozen_of_heap->aka,byteCells->kM,byteCells_length->pC,alloc_old->akc,run_unsafeSliceData_row->akd,size_eq->gx,join->eD,splitB->lz,countB->Kb,one_byte->Kc,index->lB,index_one->pD,cellsOf->akg,indexByte->eN,setCells->Tm
open Go.Proofs.Any renaming unsafeString_none->akb
open Go.Proofs.Body renaming n169_ntmps->Ka
open Go.RowKit.Below renaming heap_setCell->Tk
open Go.Value renaming ownBlock->ny
open Go.World renaming cell?->qD,setCell->Ti,shape?->Tj,freeze->ake
open List renaming range->jc,getElem?_eq_some_iff->xd,getElem?_map->cX,getElem?_append->fy,map_cons->eM,eq_nil_of_length_eq_zero->ot,length_set->jd,map_map->nh,replicate->dz,headD_cons->ow,map_nil->pA,tail_cons->Fe
open Nat renaming le_refl->aY,zero_le->fO,lt_or_ge->kJ,beq->aH,eq_of_beq_eq_true->bA,le_of_eq->A2,ble->bf,blt->cR,ble_eq->cu,blt_eq->dH,le_of_ble_eq_true->qL,mul_one->J7
open Option renaming map_some->fk
open Option.some renaming injEq->a_
open UInt8 renaming ofNat->jB
namespace Go.AL
open Go Go.Proofs Go.Shelf Go.RowKit
section
variable {P:ai} {ρ:Ren}
def rM:ak->Nat
 |.slice _ _ c=>c
 |_=>0
theorem Yl(w:a6)(t u ty e:aD)(i:TypeInfo)(k:P.underlying t=some (.slice e))(q:P.underlying u=some .string)(hi:P.info? e=some i)(B:i.zero=some (.int .u8 0))(y:i.size=1)(z:i.bytes=1)
  (v:ak) (n:Nat) (d:List ak) (h:w.ownsRowF 0 e 1 v n d) (s:BY) (N:n+s.size<=140737488355328) :
  ∃ a w',(nk #[t,u] ty #[v,.string s]).run P w=.ok a w'/\w'.ownsRowF 0 e 1 a (n+s.size) (d++Fj s)/\w.grownBy w' v.ownBlock/\((a.ownBlock=v.ownBlock/\rM a=rM v)\/a.ownBlock=some w.heap.size):=by
 obtain⟨a,w',J,X,Y,h4⟩:=Lib.run_append_own_stringF (P:=P) w 0 t u ty e i k q hi B y z v n d h s (by unfold maxLen; omega) N (fO _);refine⟨a,w',J,X,Y,?_⟩;have A:∀(F:ak) (M:a6),(nk #[t,u] ty #[v,.string s]).run P w=.ok F M->a=F:=fun F M b=>by
  rw[J]at b;cases b;rfl
 rcases h.2 with⟨rfl,rfl⟩|⟨g,cap,I,fz,rfl,hbg,hg,U,hnc,hcm,V,htake⟩
 ·by_cases hm : s.size = 0
  ·left
   rw[h4.2 ⟨rfl,hm⟩];exact⟨rfl,rfl⟩
  ·right
   have b:=run_append_nil_string (P:=P) w t u ty e i (.int .u8 0) k q hi B s (by omega) (by omega) (by rw[z]; omega);rw[A _ _ b];rfl
 ·by_cases O : n + s.size <= cap
  ·left
   have hcs':I.size=cap:=by simpa using V
   have b:=Lib.run_append_room_stringF (P:=P) w t u ty e i k q hi y g n cap I fz hg (by simpa using U) s O (by omega);rw[A _ _ b];exact⟨rfl,rfl⟩
  ·right
   have W:d.length=n:=by simpa using h.1
   have holds:∀ j u,d[j]? = some u->w.cell? ((⟨g,0,none⟩:Addr).add j)=some u:=h.cells (g:=g) rfl;have b:=Lib.run_append_grow_string (P:=P) w t u ty e i (.int .u8 0) k q hi B ⟨g,0,none⟩ n cap d (by rw[y]; simpa using W) holds s (by omega) (by omega) (by rw[z]; exact growslice_fits (by omega) (by omega));rw[A _ _ b];rfl
theorem Ym{af:Array Oper}{rest:List Oper}{o:Oper}{a:Act}{Q:Exit->Act->a6->Prop}{w:a6}(y:o.guard=none)(sl x:Operand)(t u:aD)
  (A:o.op=.call { callee:=.builtin .append,args:=#[sl,x],argTypes:=#[t,u] })
  (e:aD) (i:TypeInfo) (B:P.underlying t=some (.slice e)) (F:P.underlying u=some .string) (hi:P.info? e=some i) (I:i.zero=some (.int .u8 0)) (k:i.size=1) (z:i.bytes=1)
  (v:ak) (n:Nat) (d:List ak) (J:a.eval sl=v) (q:w.ownsRowF 0 e 1 v n d) (s:BY) (M:a.eval x=.string s) (g:n+s.size<=140737488355328)
  (h:∀ b w',w'.ownsRowF 0 e 1 b (n+s.size) (d++Fj s)->w.grownBy w' v.ownBlock->((b.ownBlock=v.ownBlock/\rM b=rM v)\/b.ownBlock=some w.heap.size)->wpList P af Q rest (a.put o.dst b) w'):wpList P af Q (o::rest) a w:=by
 refine wpList_plain y fun K N=>?_;obtain⟨b,w',O,U,V,W⟩:=Yl (P:=P) w t u o.type e i B F hi I k z v n d q s g;unfold Oper.wp execOp;simp only[A,resolve,invoke,builtin,Sem.run_bind,Sem.run_pure,Result.andThen_ok,List.map_toArray,eM,pA,J,M,O];exact N _ _ (h b w' U V W)
structure we (w w':a6) (b:Nat) (g:Option Nat):Prop where
 os:w'.os=w.os
 tape:w'.tape=w.tape
 output:w'.output=w.output
 size:w.heap.size<=w'.heap.size
 block:∀ k,k<w.heap.size->k≠b->some k≠g->w'.heap[k]? = w.heap[k]?
theorem C2(w:a6)(a:Addr)(v:ak):(w.setCell a v).heap.size=w.heap.size:=by simp[Ti]
theorem Yn{w:a6}{b:Nat}{p q v:ak}{T:aD} (h:w.heap[b]? = some (.cells #[p,v] T (0,0))):(w.setCell ⟨b,0,none⟩ q).heap[b]? = some (.cells #[q,v] T (0,0)):=by
 simp[Ti,EW,h]
theorem Yo{w:a6}{b:Nat}{p q v:ak}{T:aD} (h:w.heap[b]? = some (.cells #[p,v] T (0,0))):(w.setCell ⟨b,1,none⟩ q).heap[b]? = some (.cells #[p,q] T (0,0)):=by
 simp[Ti,EW,h]
theorem Yp(L:Lays.n240 P ρ)(X:Builder.X72 P ρ)(b:Nat)(p v:ak)(w:a6)(d:p=.pointer none\/p=.pointer (some ⟨b,0,none⟩)) (a:w.heap[b]? = some (.cells #[p,v] (ρ.t 72) (0,0))) :
  Calls P (ρ.f 240) #[.pointer (some ⟨b,0,none⟩)] w fun e w'=>e=.returned (.tuple #[])/\w'.heap[b]? = some (.cells #[.pointer (some ⟨b,0,none⟩),v] (ρ.t 72) (0,0))/\we w w' b none/\w'.heap.size=w.heap.size:=by
 rcases d with rfl|rfl
 ·refine (Any.Builder_copyCheck_fresh L X b w (by rw [pB a]; rfl) (by simp [Tj, a]) (aka a 0)).mono ?_
  rintro e w' ⟨rfl,rfl⟩;exact⟨rfl,Yn a,⟨rfl,rfl,rfl,by rw[C2]; exact aY _,fun k _ g _=>Tk _ _ _ _ (fun e=>g e)⟩,C2 _ _ _⟩
 ·refine (Any.Builder_copyCheck_used L X b w (by rw [pB a]; rfl)).mono ?_
  rintro e w' ⟨rfl,rfl⟩;exact⟨rfl,a,⟨rfl,rfl,rfl,aY _,fun _ _ _ _=>rfl⟩,rfl⟩
set_option maxHeartbeats 2000000 in
set_option maxRecDepth 100000 in
theorem Yq(L:Lays.n166 P ρ)(X:Builder.Extra P ρ)(b:Nat)(p v:ak)(d:List ak)(s:BY)(w:a6)(hp:p=.pointer none\/p=.pointer (some ⟨b,0,none⟩)) (hbk:w.heap[b]? = some (.cells #[p,v] (ρ.t 72) (0,0)))
  (hown:w.ownsRowF 0 (ρ.t 5) 1 v d.length d) (M:v.ownBlock≠some b) (hlen:d.length+s.size<=140737488355328) :
  Calls P (ρ.f 166) #[.pointer (some ⟨b,0,none⟩),.string s] w fun e w'=>e=.returned (.tuple #[.int .i64 s.size,.nilIface])/\∃ q,w'.heap[b]? = some (.cells #[.pointer (some ⟨b,0,none⟩),q] (ρ.t 72) (0,0)) /\
   w'.ownsRowF 0 (ρ.t 5) 1 q (d.length+s.size) (d++Fj s)/\((q.ownBlock=v.ownBlock/\rM q=rM v)\/q.ownBlock=some w.heap.size)/\we w w' b v.ownBlock:=by
 obtain⟨i0,hi,hz0,hz1,hz2⟩:=info_parts X.infoByte;have mixed:=L.mixed;have t72:=L.t72; have a72:=L.a72; have z72:=L.z72; have v72:=L.v72; have u72:=run_underlying L.t72;have t70:=L.t70; have a70:=L.a70; have z70:=L.z70; have v70:=L.v70; have u70:=run_underlying L.t70;have t37:=L.t37; have a37:=L.a37; have z37:=L.z37; have v37:=L.v37; have u37:=run_underlying L.t37;have t3:=L.t3; have a3:=L.a3; have z3:=L.z3; have v3:=L.v3; have u3:=run_underlying L.t3;have t9:=L.t9; have a9:=L.a9; have z9:=L.z9; have v9:=L.v9; have u9:=run_underlying L.t9;have t4:=L.t4; have a4:=L.a4; have z4:=L.z4; have v4:=L.v4; have u4:=run_underlying L.t4;have t164:=L.t164; have a164:=L.a164; have z164:=L.z164; have v164:=L.v164; have u164:=run_underlying L.t164;have t5:=X.t5; have a5:=X.a5; have z5:=X.z5; have v5:=X.v5; have u5:=run_underlying X.t5;have e240:∀ args w,(callFunc (ρ.f 240) args).run P w=.ok (.enter (ρ.f 240) args) w:=enters_of L.f240 (by kernel_rfl) rfl
 go_enter L.f166,Body.n166_ntmps ρ
 go_wp2_with (go_at_fn (ρ.f 240); refine(Yp { L with } X.toX72 b p v _ hp hbk).mono ?_)
 rintro e A ⟨rfl,F,a,hs1⟩;have Y:A.ownsRowF 0 (ρ.t 5) 1 v d.length d:=hown.kept (row:=some b) ⟨a.os,a.tape,a.output,a.size,fun k B I=>a.block k B (fun e=>I (by rw[e])) (by simp)⟩ (Or.inr M);have c0:A.cell? ⟨b,0,none⟩=some (.pointer (some ⟨b,0,none⟩)):=by rw[pB F]; rfl
 have c1:A.cell? ⟨b,1,none⟩=some v:=by rw[pB F]; rfl
 go_wp2_with (at_builtin; refine Ym rfl _ _ (ρ.t 37) (ρ.t 9) rfl (ρ.t 5) i0 L.t37 L.t9 hi hz0 hz1 hz2 _ _ _ rfl Y s rfl ?c3 ?_)
 case c3=>omega
 intro q y V z W;have hlt:b<A.heap.size:=by
  rcases kJ b A.heap.size with h'|h'
  ·exact h'
  ·simp[E_ h']at F
 have J:y.heap[b]? = some (.cells #[.pointer (some ⟨b,0,none⟩),v] (ρ.t 72) (0,0)):=by
  rw[z.block b hlt (fun e=>M e.symm)];exact F
 have d0:y.cell? ⟨b,0,none⟩=some (.pointer (some ⟨b,0,none⟩)):=by rw[pB J]; rfl
 have d1:y.cell? ⟨b,1,none⟩=some v:=by rw[pB J]; rfl
 have f1:y.frozen? ⟨b,1,none⟩=false:=aka J 1;obtain⟨N,O,cap,rfl⟩:∃ N O cap,q=.slice N O cap:=by
  rcases V.2 with⟨U,_⟩|⟨g,cap,cur,fz,U,_⟩
  ·exact⟨_,_,_,U⟩
  ·exact⟨_,_,_,U⟩
 go_wp2
 go_ret2
 have hne':(Value.slice N O cap).ownBlock≠some b:=by
  rcases W with h|h
  ·rw[h.1]; exact M
  ·rw [h]
   intro e;simp only[a_]at e;omega
 refine⟨rfl,_,Yo J,V.kept (row:=some b) ⟨rfl,rfl,rfl,by rw[C2]; exact aY _,fun k _ B=>Tk _ _ _ _ (fun e=>B (by simp[e]))⟩ (Or.inr hne'),W,?_⟩;exact⟨by show y.os=_; rw[z.os,a.os],by show y.tape=_; rw[z.tape,a.tape],by show y.output=_; rw[z.output,a.output],by rw[C2]; have:=z.size; have:=a.size; omega,fun k B I hkg=>by
  rw[Tk _ _ _ _ (fun e=>I e),z.block k (by have:=a.size; omega) hkg,a.block k B I (by simp)]⟩
theorem Ou{w:a6}{T:aD}{v:ak}{l:List UInt8}{g m:Nat}(b:v=.slice (some ⟨g,0,none⟩) l.length m){a:Array ak}{fz:Nat × Nat}(d:w.heap[g]? = some (.cells a T fz))(k:fz.2<=l.length)(q:a.size=m)(t:l.length<=m)
  (y:m<=9223372036854775807) (h:a.toList.take l.length=kM l):w.ownsRowF 0 T 1 v (kM l).length (kM l):=by
 refine⟨by simp,.inr ⟨g,m,a,fz,by rw[b,pC],fO _,d,by rw[pC]; omega,by rw[pC]; omega,by unfold maxLen; omega,by omega,?_⟩⟩;rw[pC,J7];exact h
set_option maxHeartbeats 2000000 in
set_option maxRecDepth 100000 in
theorem Yr(L:Lays.n169 P ρ)(X:Builder.Extra P ρ)(b:Nat)(p v:ak)(l:List UInt8)(w:a6) (d:w.heap[b]? = some (.cells #[p,v] (ρ.t 72) (0,0)))
  (hown:w.ownsRowF 0 (ρ.t 5) 1 v l.length (kM l)) (hne:v.ownBlock≠some b) :
  Calls P (ρ.f 169) #[.pointer (some ⟨b,0,none⟩)] w fun e w'=>e=.returned (.string ⟨l.toArray⟩)/\w'.heap[b]? = some (.cells #[p,v] (ρ.t 72) (0,0))/\we w w' b v.ownBlock /\
   (∀ g a fz,v.ownBlock=some g->w.heap[g]? = some (.cells a (ρ.t 5) fz)->fz.2<=l.length->∃ h,w'.heap[g]? = some (.cells a (ρ.t 5) h)/\h.2<=l.length):=by
 have hlt:b<w.heap.size:=by
  rcases kJ b w.heap.size with h'|h'
  ·exact h'
  ·simp[E_ h']at d
 have mixed:=L.mixed;have t72:=L.t72; have a72:=L.a72; have z72:=L.z72; have v72:=L.v72; have u72:=run_underlying L.t72;have t70:=L.t70; have a70:=L.a70; have z70:=L.z70; have v70:=L.v70; have u70:=run_underlying L.t70;have t37:=L.t37; have a37:=L.a37; have z37:=L.z37; have v37:=L.v37; have u37:=run_underlying L.t37;have t127:=L.t127; have a127:=L.a127; have z127:=L.z127; have v127:=L.v127; have u127:=run_underlying L.t127;have t3:=L.t3; have a3:=L.a3; have z3:=L.z3; have v3:=L.v3; have u3:=run_underlying L.t3;have t9:=L.t9; have a9:=L.a9; have z9:=L.z9; have v9:=L.v9; have u9:=run_underlying L.t9;have t5:=X.t5; have a5:=X.a5; have z5:=X.z5; have v5:=X.v5; have u5:=run_underlying X.t5;rcases hown.2 with⟨rfl,hz⟩|⟨g,cap,M,fz,rfl,hbg,B,hfz,hnc,hcm,hcs,htake⟩
 ·-- nothing was written
  have hl:l=[]:=ot hz;subst hl;have Y:=akb L X;have N:w.drew.cell? ⟨b,1,none⟩=some (.slice none 0 0):=by
   have:w.drew.heap[b]? = some (.cells #[p,.slice none 0 0] (ρ.t 72) (0,0)):=d;rw[pB this]; rfl
  have hSD:(J' #[(ρ.t 37)] (ρ.t 127) #[.slice none 0 0]).run P w.drew=.ok (.pointer none) w.drew:=rfl
  go_enter L.f169,Ka ρ
  go_wp2
  go_region_o
  all_goals (go_wp2; go_ret; exact⟨rfl,d,⟨rfl,rfl,rfl,aY _,fun _ _ _ _=>rfl⟩,fun g a fz B=>by simp[ny]at B⟩)
 ·have hgb : g ≠ b := fun e => hne (by simp [ny, e])
  by_cases hl0:l=[]
  ·subst hl0
   have Y:=akb L X;simp only[List.length_nil]at *;by_cases hc0:cap=0
   ·subst hc0
    have N:w.drew.cell? ⟨b,1,none⟩=some (.slice (some ⟨g,0,none⟩) 0 0):=by
     have:w.drew.heap[b]? = some (.cells #[p,.slice (some ⟨g,0,none⟩) 0 0] (ρ.t 72) (0,0)):=d;rw[pB this]; rfl
    have hSD:(J' #[(ρ.t 37)] (ρ.t 127) #[.slice (some ⟨g,0,none⟩) 0 0]).run P w.drew=.ok (.pointer (some ⟨w.drew.heap.size,0,none⟩)) (w.drew.alloc (.view ⟨g,0,none⟩ (ρ.t 5))) :=
     Lib.run_unsafeSliceData_zero w.drew _ _ (ρ.t 5) L.t127 ⟨g,0,none⟩ 0 ((ρ.t 5),M.size) (by have q:w.drew.heap[g]? = some (.cells M (ρ.t 5) fz):=B; simp[Tj,q])
    have c2:(w.drew.alloc (.view ⟨g,0,none⟩ (ρ.t 5))).cell? ⟨b,1,none⟩=some (.slice (some ⟨g,0,none⟩) 0 0):=by
     have:(w.drew.alloc (.view ⟨g,0,none⟩ (ρ.t 5))).heap[b]? = _:=(akc w.drew _ b hlt).trans d;rw[pB this]; rfl
    have c3:(w.alloc (.view ⟨g,0,none⟩ (ρ.t 5))).drew.cell? ⟨b,1,none⟩=some (.slice (some ⟨g,0,none⟩) 0 0):=c2;have c0:w.cell? ⟨b,1,none⟩=some (.slice (some ⟨g,0,none⟩) 0 0):=N;have hglt:g<w.heap.size:=(je.1 B).1;have U:∀ k,k<w.heap.size->(w.alloc (.view ⟨g,0,none⟩ (ρ.t 5))).heap[k]? = w.heap[k]? := fun k z=>akc w _ k z;have A:(w.alloc (.view ⟨g,0,none⟩ (ρ.t 5))).heap[b]? = some (.cells #[p,.slice (some ⟨g,0,none⟩) 0 0] (ρ.t 72) (0,0))/\we w (w.alloc (.view ⟨g,0,none⟩ (ρ.t 5))) b (ny (.slice (some ⟨g,0,none⟩) 0 0)) /\
      (∀ y a fz,ny (.slice (some ⟨g,0,none⟩) 0 0)=some y->w.heap[y]? = some (.cells a (ρ.t 5) fz)->fz.2<=0->∃ h,(w.alloc (.view ⟨g,0,none⟩ (ρ.t 5))).heap[y]? = some (.cells a (ρ.t 5) h)/\h.2<=0) :=
     ⟨by rw [U b hlt]; exact d, ⟨rfl, rfl, rfl, by simp [World.size_alloc], fun k z _ _ => U k z⟩, fun y a fz q F I => ⟨fz, by
      simp only[ny,fk,a_]at q;subst q;rw[U _ hglt]; exact F,I⟩⟩
    go_enter L.f169,Ka ρ
    go_wp2
    go_region_o
    all_goals (go_wp2; go_ret; exact⟨rfl,A.1,⟨rfl,rfl,rfl,A.2.1.size,A.2.1.block⟩,A.2.2⟩)
   ·have N:w.drew.cell? ⟨b,1,none⟩=some (.slice (some ⟨g,0,none⟩) 0 cap):=by
     have:w.drew.heap[b]? = some (.cells #[p,.slice (some ⟨g,0,none⟩) 0 cap] (ρ.t 72) (0,0)):=d;rw[pB this]; rfl
    have hSD:(J' #[(ρ.t 37)] (ρ.t 127) #[.slice (some ⟨g,0,none⟩) 0 cap]).run P w.drew=.ok (.pointer (some ⟨g,0,none⟩)) w.drew :=
     akd _ _ _ _ _ _ hc0
    clear hc0
    go_enter L.f169,Ka ρ
    go_wp2
    go_region_o
    all_goals (go_wp2; go_ret; exact⟨rfl,d,⟨rfl,rfl,rfl,aY _,fun _ _ _ _=>rfl⟩,fun g a fz _ F I=>⟨fz,F,I⟩⟩)
  ·have hl1 : l.length ≠ 0 := by simpa using hl0
   have N:w.drew.cell? ⟨b,1,none⟩=some (.slice (some ⟨g,0,none⟩) l.length cap):=by
    have:w.drew.heap[b]? = some (.cells #[p,.slice (some ⟨g,0,none⟩) l.length cap] (ρ.t 72) (0,0)):=d;rw[pB this]; rfl
   have hSD:(J' #[(ρ.t 37)] (ρ.t 127) #[.slice (some ⟨g,0,none⟩) l.length cap]).run P w.drew=.ok (.pointer (some ⟨g,0,none⟩)) w.drew :=
    akd _ _ _ _ _ _ (by omega)
   have Y:(Builtin.unsafeString_ #[(ρ.t 127),(ρ.t 3)] (ρ.t 9) #[.pointer (some ⟨g,0,none⟩),.int .i64 l.length]).run P w.drew=.ok (.string ⟨l.toArray⟩) (w.drew.freeze ⟨g,0,none⟩ l.length):=by
    refine Lib.run_unsafeString_row w.drew (ρ.t 127) (ρ.t 3) (ρ.t 9) (ρ.t 5) L.t127 X.cellsByte g M.size (by have q:w.drew.heap[g]? = some (.cells M (ρ.t 5) fz):=B; simp[Tj,q]) l hl0 (by omega) (by unfold maxLen at hcm; omega) ?_;intro j x hx;exact hown.cells (g:=g) rfl j (.int .u8 x.toNat) (by simp[kM,hx])
   have O:(w.drew.freeze ⟨g,0,none⟩ l.length).heap=w.heap.modify g fun
     |.cells c elem (lo,hi)=>.cells c elem (if lo==hi then (0,0+l.length) else (min lo 0,max hi (0+l.length)))
     |o=>o:=by
    unfold ake;rw[iN hl1];rfl
   have hsz:(w.drew.freeze ⟨g,0,none⟩ l.length).heap.size=w.heap.size:=by rw[O]; simp
   have V:∀ k,k≠g->(w.drew.freeze ⟨g,0,none⟩ l.length).heap[k]? = w.heap[k]? := fun k z=>by rw[O]; simp[EW,Ne.symm z]
   have J:(w.drew.freeze ⟨g,0,none⟩ l.length).os=w.os/\(w.drew.freeze ⟨g,0,none⟩ l.length).tape=w.tape/\(w.drew.freeze ⟨g,0,none⟩ l.length).output=w.output:=by
    unfold ake;rw[iN hl1];exact⟨rfl,rfl,rfl⟩
   obtain⟨W,hW⟩:∃ W,w.drew.freeze ⟨g,0,none⟩ l.length=W:=⟨_,rfl⟩
   rw[hW]at Y O hsz V J;have A:W.heap[b]? = some (.cells #[p,.slice (some ⟨g,0,none⟩) l.length cap] (ρ.t 72) (0,0))/\we w W b (ny (.slice (some ⟨g,0,none⟩) l.length cap)) /\
     (∀ y a fz,ny (.slice (some ⟨g,0,none⟩) l.length cap)=some y->w.heap[y]? = some (.cells a (ρ.t 5) fz)->fz.2<=l.length->∃ h,W.heap[y]? = some (.cells a (ρ.t 5) h)/\h.2<=l.length):=by
    refine⟨by rw[V b (Ne.symm hgb)]; exact d,⟨J.1,J.2.1,J.2.2,by omega,fun k _ _ z=>V k fun e=>z (by simp[ny,e])⟩,fun y a h q F I=>?_⟩;simp only[ny,fk,a_]at q;subst q;rw[O];obtain⟨lo,hi⟩:=h;simp only[EW,if_true,F,fk];refine⟨_,rfl,?_⟩;simp only at I;split
    ·simp
    ·show max hi (0 + l.length) <= l.length
     omega
   go_enter L.f169,Ka ρ
   go_wp2
   go_region_o
   all_goals (go_wp2; go_ret; exact⟨rfl,A⟩)
end
end Go.AL

namespace Go.AL
open Go Go.Proofs Go.Shelf Go.RowKit
variable [Dr]
section
variable {P:ai} {ρ:Ren}
def C3(d:LG):Option LG:=bif bf ((gi d 0).sV.size+(gi d 1).sV.size) 140737488355328 then some [.s ((gi d 0).sV++(gi d 1).sV),.i ((gi d 1).sV.size:Nat)] else none
def Ov(d:LG):Option LG:=some [.s (gi d 0).sV,.i ((gi d 0).sV.size:Nat)]
def Ow(d:LG):Option LG:=some [.s (gi d 0).sV,.s (gi d 0).sV]
structure HU (E:ae) (T B:aD) (s:BY) (b n:Nat) (p v:ak) (k:Nat) (q:Option (Nat × Nat)):Prop where
 ad:E.ad[0]? = some (some (b,n))
 HV:E.w.heap[b]? = some (.cells #[p,v] T (0,0))
 ptr:p=.pointer none\/p=.pointer (some ⟨b,0,none⟩)
 HW:(E.X.r 0)[k]? = some (some q)
 only:∀(h':Nat) q',(E.X.r 0)[h']? = some (some q')->h'=k
 Ys:Bc E.w B s v q
 bN:E.w.ownsRowF 0 B 1 v s.data.toList.length (kM s.data.toList)
 ne:v.ownBlock≠some b
 HX:v.ownBlock=q.map (·.1)
theorem HY{E:ae}(HE:aG E){T B:aD}{s:BY}(hH:E.H=[.cD 0 T B s]):∃ b n p v k q,HU E T B s b n p v k q:=by
 have w:E.H[0]? = some (.cD 0 T B s):=by rw[hH]; rfl
 obtain⟨b,n,p,v,k,q,h,y,z,t,A,a⟩:=HE.obj 0 _ w;refine⟨b,n,p,v,k,q,h,y,z,t,A,a,?_,?_,?_⟩
 ·cases q with
  | none =>
   obtain⟨rfl,F⟩:=a;rw[F];exact⟨rfl,.inl ⟨rfl,rfl⟩⟩
  | some d =>
   obtain⟨g,m⟩:=d;obtain⟨e,V,fz,I,J,M,N,O,U⟩:=a;have:=Ou (l:=s.data.toList) e I J M N O U
   rwa [pC]at this
 ·cases q with
  |none=>rw[a.1]; simp[ny]
  | some d =>
   obtain⟨g,m⟩:=d;rw[a.1];simp only[ny,fk,ne_eq,a_];intro e;subst e;exact HE.dm _ _ _ _ _ _ h t
 ·cases q with
  |none=>rw[a.1]; rfl
  |some d=>rw[a.1]; rfl
theorem HZ{E:ae}{T B:aD}{s:BY}{b n:Nat}{p v:ak}{k:Nat}{q:Option (Nat × Nat)}(hH:E.H=[.cD 0 T B s])(g:HU E T B s b n p v k q){c:ak}(a:ab E (.ptr 0 0 0 0 0) c):c=.pointer (some ⟨b,0,none⟩):=by
 simp only[ab]at a;obtain⟨_,_,h⟩:=a;obtain⟨w,y,d,t⟩:=h ⟨.cD 0 T B s,by rw[hH]; rfl,rfl⟩;rw[g.ad]at d;cases d;rw[t]
theorem H5{w:a6}{B:aD}{v:ak}{l:List UInt8}(h:w.ownsRowF 0 B 1 v l.length (kM l)):(v=.slice none 0 0/\l=[])\/∃ g m a fz,v=.slice (some ⟨g,0,none⟩) l.length m/\w.heap[g]? = some (.cells a B fz)/\fz.2<=l.length/\a.size=m/\l.length<=m/\m<=9223372036854775807 /\
  a.toList.take l.length=kM l:=by
 rcases h.2 with⟨b,q⟩|⟨g,cap,k,fz,b,_,t,A,y,z,F,d⟩
 ·exact .inl ⟨b,ot q⟩
 ·exact .inr ⟨g,cap,k,fz,b,t,by omega,by omega,y,by unfold maxLen at z; omega,by rw[J7]at d; exact d⟩
theorem Ox{E:ae}(HE:aG E)(hd:qN=false){T B:aD}{s s':BY}{b n:Nat}{p v:ak}{k:Nat}{q:Option (Nat × Nat)}(hH:E.H=[.cD 0 T B s])(t:HU E T B s b n p v k q){w':a6}{O I:ak}
  (hp':O=.pointer none\/O=.pointer (some ⟨b,0,none⟩)) (hbk:w'.heap[b]? = some (.cells #[O,I] T (0,0))) (hown:w'.ownsRowF 0 B 1 I s'.data.toList.length (kM s'.data.toList))
  (hblk:(I.ownBlock=v.ownBlock/\rM I=rM v)\/I.ownBlock=some E.w.heap.size) (J:we E.w w' b v.ownBlock) :
  ∃ r',aG { w:=w',H:=[.cD 0 T B s'],ad:=E.ad,X:=E.X.re r' }/\E.le { w:=w',H:=[.cD 0 T B s'],ad:=E.ad,X:=E.X.re r' }:=by
 have h0:E.H[0]? = some (.cD 0 T B s):=by rw[hH]; rfl
 have eset:E.H.set 0 (.cD 0 T B s')=[.cD 0 T B s']:=by rw[hH]; rfl
 have hos:eO E.w w':=⟨J.os,J.output,J.tape,fun ht=>by rw[hd]at ht; cases ht⟩
 have hsame:∀ x,x<E.w.heap.size->(∀ n,E.ad[0]? ≠ some (some (x,n)))->(∀(h m:Nat),(E.X.r 0)[h]? ≠ some (some (some (x,m))))->w'.heap[x]? = E.w.heap[x]? := fun x d y A =>
  J.block x d (fun e=>y n (by rw[e]; exact t.ad)) fun e=>by
   rw[t.HX]at e;cases q with
   |none=>cases e
   | some U =>
    obtain⟨g,m⟩:=U;simp only[fk,a_]at e;subst e;exact A k m t.HW
 rw[<-eset];rcases hblk with⟨F,V⟩|M
 ·-- where it was
  refine⟨E.X.r,aG.qQ HE h0 rfl rfl rfl J.size hsame (fun _ _=>rfl) (fun h b m z=>.inl z) (fun h z=>⟨z,fun _ M=>M⟩) (fun _=>?_) hos⟩;refine⟨b,n,O,I,k,q,t.ad,hbk,hp',t.HW,t.only,?_⟩;rcases H5 hown with⟨y,A⟩|⟨g,m,W,fz,y,A,Y,h4,h5,h6,h7⟩
  ·subst y
   rw[t.HX]at F;cases q with
   |none=>exact⟨rfl,A⟩
   |some U=>cases F
  ·rw [t.HX] at F
   cases q with
   |none=>rw[y]at F; cases F
   | some U =>
    obtain⟨g0,m0⟩:=U;have hv:=t.Ys.1;rw[y]at F V;simp only[ny,fk,a_]at F;subst F;have:m=m0:=by rw[hv]at V; exact V
    subst this;exact⟨y,W,fz,A,Y,h4,h5,h6,h7⟩
 ·-- in a row that is new
  rcases H5 hown with⟨y,A⟩|⟨g,m,W,fz,y,A,Y,h4,h5,h6,h7⟩
  ·rw [y] at M
   cases M
  have hg:g=E.w.heap.size:=by
   rw[y]at M;simpa[ny]using M
  have hgl:g<w'.heap.size:=(je.1 A).1;have hkl:=aX t.HW;have N:∀(h:Nat) x,((E.X.r 0).set k none++[some (some (g,m))])[h]? = some (some x)->h=(E.X.r 0).length/\x=some (g,m):=fun h x d=>by
   rw[fy]at d;split at d
   ·rename_i hlt
    rw[jd]at hlt;rw[List.getElem?_set]at d;split at d
    ·cases d
    ·rename_i hne
     exact(hne (t.only h x d).symm).elim
   ·rename_i hge
    rw[jd]at hge d;cases hz:h-(E.X.r 0).length with
    | zero =>
     rw[hz]at d;simp at d;exact⟨by omega,d.symm⟩
    |succ n=>rw[hz]at d; simp at d
  refine⟨fun l=>if l=0 then (E.X.r 0).set k none++[some (some (g,m))] else E.X.r l,aG.qQ HE h0 rfl rfl rfl J.size hsame (fun l hl=>iN hl) (fun h b m' z=>?_) (fun h z=>?_) (fun _=>?_) hos⟩
  ·simp only [if_true] at z |-
   obtain⟨_,h9⟩:=N h _ z;simp only[a_,Prod.mk.injEq]at h9;obtain⟨rfl,rfl⟩:=h9;right;refine⟨by omega,hgl,fun h' m'' hh'=>?_⟩;rw[(N h' _ hh').1,(N h _ z).1]
  ·simp only [if_true]
   refine⟨by simp; omega,fun x d=>?_⟩;have:=(N h _ d).1;omega
  ·refine ⟨b, n, O, I, (E.X.r 0).length, some (g, m), t.ad, hbk, hp', ?_, fun h' q' z => ?_, y, W, fz, A, Y, h4, h5, h6, h7⟩
   ·simp[XS.re]
   ·exact(N h' q' (by simpa[XS.re]using z)).1
theorem Yt(a b:BY):(a++b).data.toList=a.data.toList++b.data.toList:=by simp[ByteArray.data_append]
theorem Yu(L:Lays.n166 P ρ)(X:Builder.Extra P ρ)(M:qN=false)(d r:LG)(h:C3 d=some r) :
  eK P (ρ.f 166) (cO (cV [.cD 0 (ρ.t 72) (ρ.t 5)] d) [.s (.ptr 0 0),.s .str] (dv 1 d)) (ax (c_ (cV [.cD 0 (ρ.t 72) (ρ.t 5)] d) [.cD 0 (ρ.t 72) (ρ.t 5)] d))
   (dp (cO (cV [.cD 0 (ρ.t 72) (ρ.t 5)] r) [.s .I,.s .any] (dv 1 r))) (ax (c_ (cV [.cD 0 (ρ.t 72) (ρ.t 5)] r) [.cD 0 (ρ.t 72) (ρ.t 5)] r)):=by
 have N:d.headD default=gi d 0:=rfl;have O:d.tail.headD default=gi d 1:=rfl;unfold C3 at h;cases y:bf ((gi d 0).sV.size+(gi d 1).sV.size) 140737488355328 with
 |false=>rw[y]at h; cases h
 |true =>
 rw[y]at h;cases h;have F:=qL y;intro E B hH HE a;simp only[cO,jH,d_,c_,fF,ax,eM,pA,au.aw,dv,dV.sz,Sh.sz,dp,N,O]at hH a|-;generalize hs:(gi d 0).sV=s at *;generalize hx:(gi d 1).sV=x at *;simp only[ow,Fe,G.iV,G.sV]at a|-;obtain⟨U⟩:=B
 match U,a with
 | [c0,c1],a =>
 simp only[ar,and_true]at a;obtain⟨V,z⟩:=a;simp only[ab]at z;subst z;obtain⟨b,n,p,v,k,q,g⟩:=HY HE hH;have W:=HZ hH g V;subst W;have Y:(kM s.data.toList).length=s.size:=by rw[pC]; exact(gx s).symm
 refine(Yq L X b p v (kM s.data.toList) x E.w g.ptr g.HV (by rw[pC]; exact g.bN) g.ne (by rw[Y]; exact F)).mono ?_;rintro e w' ⟨rfl,v',h2,A,h4,h5⟩;have hsl:=gx s;have J:=gx x;obtain⟨r',h6,h7⟩:=Ox (s':=s++x) HE M hH g (.inr rfl) h2 (by
  rw[Yt,List.length_append,show kM (s.data.toList++x.data.toList)=kM s.data.toList++Fj x by simp[kM,Fj]];rw[pC,J]at A;exact A) h4 h5
 exact⟨_,_,_,rfl,⟨rfl,rfl⟩,E.ad,r',by simp[ab,ar],h6,h7⟩
theorem Yv(L:Lays.n170 P ρ)(J:qN=false)(d r:LG)(h:Ov d=some r) :
  eK P (ρ.f 170) (cO (cV [.cD 0 (ρ.t 72) (ρ.t 5)] d) [.s (.ptr 0 0)] (dv 1 d)) (ax (c_ (cV [.cD 0 (ρ.t 72) (ρ.t 5)] d) [.cD 0 (ρ.t 72) (ρ.t 5)] d))
   (dp (cO (cV [.cD 0 (ρ.t 72) (ρ.t 5)] r) [.s .I] (dv 1 r))) (ax (c_ (cV [.cD 0 (ρ.t 72) (ρ.t 5)] r) [.cD 0 (ρ.t 72) (ρ.t 5)] r)):=by
 have A:d.headD default=gi d 0:=rfl;cases h;intro E z hH HE a;simp only[cO,jH,d_,c_,fF,ax,eM,pA,au.aw,dv,dV.sz,Sh.sz,dp,A]at hH a|-;generalize M:(gi d 0).sV=s at *;simp only[ow,Fe,G.iV,G.sV]at a|-;obtain⟨B⟩:=z
 match B,a with
 | [N],a =>
 simp only[ar,and_true]at a;obtain⟨b,n,p,v,k,q,g⟩:=HY HE hH;have F:=HZ hH g a;subst F;have y:Lib.BuilderAtF (ρ.t 72) (ρ.t 5) 0 b p (kM s.data.toList) E.w:=⟨fO _,v,g.HV,by rw[pC]; exact g.bN,g.ne⟩
 refine(Any.Builder_Len_f L 0 b (kM s.data.toList) E.w (by rcases g.ptr with rfl|rfl; exact .inl y; exact .inr y)).mono ?_;rintro e w' ⟨rfl,rfl⟩;refine⟨_,_,_,rfl,⟨rfl,rfl⟩,E.ad,E.X.r,?_,?_,?_⟩
 ·simp only [ab]
  rw[pC,gx s]
 ·rw[<-hH]; exact HE
 ·rw[<-hH]; exact ae.le.refl E
theorem Yw(L:Lays.n169 P ρ)(X:Builder.Extra P ρ)(I:qN=false)(d r:LG)(h:Ow d=some r) :
  eK P (ρ.f 169) (cO (cV [.cD 0 (ρ.t 72) (ρ.t 5)] d) [.s (.ptr 0 0)] (dv 1 d)) (ax (c_ (cV [.cD 0 (ρ.t 72) (ρ.t 5)] d) [.cD 0 (ρ.t 72) (ρ.t 5)] d))
   (dp (cO (cV [.cD 0 (ρ.t 72) (ρ.t 5)] r) [.s .str] (dv 1 r))) (ax (c_ (cV [.cD 0 (ρ.t 72) (ρ.t 5)] r) [.cD 0 (ρ.t 72) (ρ.t 5)] r)):=by
 have J:d.headD default=gi d 0:=rfl;cases h;intro E F hH HE y;simp only[cO,jH,d_,c_,fF,ax,eM,pA,au.aw,dv,dV.sz,Sh.sz,dp,J]at hH y|-;generalize hs:(gi d 0).sV=s at *;simp only[ow,Fe,G.iV,G.sV]at y|-;obtain⟨A⟩:=F
 match A,y with
 | [c0],y =>
 simp only[ar,and_true]at y;obtain⟨b,n,p,v,k,q,a⟩:=HY HE hH;have M:=HZ hH a y;subst M;refine(Yr L X b p v s.data.toList E.w a.HV a.bN a.ne).mono ?_;rintro e w' ⟨rfl,N,O,U⟩;obtain⟨V,W,Y⟩:=Ox (s':=s) HE I hH a a.ptr N (by
  rcases H5 a.bN with⟨z,B⟩|⟨g,m,A,fz,z,B,k3,k4,k5,k6,k7⟩
  ·subst z
   rw[B];exact⟨rfl,.inl ⟨rfl,rfl⟩⟩
  ·obtain ⟨fz', g1, g2⟩ := U g A fz (by rw [z]; rfl) B k3
   have:=Ou (l:=s.data.toList) z g1 g2 k4 k5 k6 k7
   rwa [pC]at this) (.inl ⟨rfl,rfl⟩) O
 exact⟨_,_,_,rfl,⟨rfl,rfl⟩,E.ad,V,by simp[ab],W,Y⟩
end
end Go.AL

namespace Go.AL
open Go Go.Proofs Go.Shelf Go.RowKit
variable [Dr]
def qj(rZ:LL):List BY:=rZ.map fun r=>(gi r 0).sV
def oN(rZ:LL)(a:BY):BY:=⟨(eD ((qj rZ).map (·.data.toList)) a.data.toList).toArray⟩
noncomputable def y_(d:LG):Option LG :=
 bif bf (gi d 0).rZ.length 1048576&&bf (oN (gi d 0).rZ (gi d 1).sV).size 140737488355328 then some [.s (oN (gi d 0).rZ (gi d 1).sV)] else none
def H6(s a:BY):LL:=(lz a 0 (Kb s a) s).map fun b=>[G.s b]
def Oy(s a:BY)(n:Int):LL:=(lz a 0 ((min n ((s.size:Int)+1)).toNat-1) s).map fun b=>[G.s b]
noncomputable def za(d:LG):Option LG :=
 bif aH (gi d 1).sV.size 1&&((gi d 2).iV==0&&((gi d 3).iV == -1&&cR (gi d 0).sV.size 4294967281)) then some [.l (H6 (gi d 0).sV (gi d 1).sV)] else
  bif aH (gi d 1).sV.size 1&&((gi d 2).iV==0&&(decide (0<(gi d 3).iV/\(gi d 3).iV<=1000000)&&cR (gi d 0).sV.size 4294967281)) then some [.l (Oy (gi d 0).sV (gi d 1).sV (gi d 3).iV)] else none
noncomputable def tN(d:LG):Option LG :=
 bif bf (gi d 0).sV.size 18 then (Lib.atoi (gi d 0).sV.data.toList).map fun n=>[.i n] else none
section
variable {P:ai} {ρ:Go.Shelf.Ren}
theorem Yx{E:ae}{rZ:LL}{c:ak}(h:ab E (.listF [.str] rZ) c):∃ aN cap,c=.slice aN rZ.length cap/\rZ.length<=cap/\(rZ=[]\/∃ b o,aN=some ⟨b,o,none⟩/\E.jQ b/\∀(i:Nat) x,(qj rZ)[i]? = some x->E.w.cell? ⟨b,o+i,none⟩=some (.string x)):=by
 simp only[ab,eX]at h;obtain⟨aN,cap,rfl,k,a⟩:=h;refine⟨aN,cap,rfl,k,?_⟩;rcases a with a|⟨b,o,rfl,q,t⟩
 ·exact .inl a
 ·refine .inr ⟨b, o, rfl, q, fun i x hi => ?_⟩
  unfold qj at hi;rw[cX]at hi;cases d:rZ[i]? with
  |none=>rw[d]at hi; cases hi
  | some r =>
   rw[d]at hi;cases hi;have:=t i r d;simp only[lE,eX,and_true]at this;obtain⟨v,g,_,y⟩:=this;have g:E.w.cell? ⟨b,o+i,none⟩=some v:=by simpa using g
   rw[g,y];cases r<;>rfl
theorem Yy(N:qN=false)(L:Lays.n156 P ρ)(X:Builder.Extra P ρ)(d r:LG)(h:y_ d=some r) :
  eK P (ρ.f 156) (cO [] [.s (.list [.str]),.s .str] d) [] (dp (cO [] [.s .str] r)) []:=by
 unfold y_ at h;cases q:(bf (gi d 0).rZ.length 1048576&&bf (oN (gi d 0).rZ (gi d 1).sV).size 140737488355328)with
 |false=>rw[q]at h; cases h
 | true =>
  rw[q]at h;cases h;simp only[aE,cu]at q;obtain⟨hb1,I⟩:=q;have O:d.headD default=gi d 0:=rfl;have U:d.tail.headD default=gi d 1:=by
   cases d with
   |nil=>rfl
   |cons x l=>cases l<;>rfl
  intro E A hH HE g;simp only[cO,jH,d_,dv,dV.sz,Sh.sz,dp,O,U]at g|-;generalize hrows:(gi d 0).rZ=rZ at *;generalize hsep:(gi d 1).sV=a at *;obtain⟨V⟩:=A
  match V,g with
  | [c0,c1],g =>
  simp only[ar,and_true]at g;obtain⟨W,v⟩:=g;simp only[ab]at v;subst v;obtain⟨aN,cap,rfl,hc,B⟩:=Yx W;have F:(qj rZ).length=rZ.length:=by simp[qj]
  have J:(oN rZ a).size=(eD ((qj rZ).map (·.data.toList)) a.data.toList).length:=by simp[oN,ByteArray.size]
  have key:Calls P (ρ.f 156) #[.slice aN rZ.length cap,.string a] E.w fun e w'=>e=.returned (.string (oN rZ a))/\Below E.w.heap.size E.w w':=by
   rcases B with rfl|⟨b,o,rfl,M,z⟩
   ·exact(Any.strings_Join_none L X aN cap a E.w).mono fun e w' ⟨he,Y⟩=>⟨he,Y▸Below.refl _ _⟩
   ·have := Any.strings_Join L X b o cap (qj rZ) a E.w z M.1 (by omega) (by omega) (Nat.le_trans (A2 J.symm) I)
    rw[F]at this;exact this
  refine key.mono ?_;rintro e w' ⟨rfl,k⟩;have t:Ext E.w w':=⟨k.size,fun x hx=>k.block x hx,k.os,k.output,k.tape,fun y=>by rw[N]at y; cases y⟩
  refine⟨_,_,_,rfl,⟨rfl,rfl⟩,E.ad,E.X.r,by simp[ab,G.sV],?_,?_⟩
  ·rw[<-hH]; exact HE.ext t
  ·rw[<-hH]; exact ae.iE t
theorem Oz(a:BY)(b:Nat):∀(k:Nat) (s:BY),(lz a b k s).length<=k+1
 |0,_=>aY _
 | k+1,s=>by
  unfold lz;split
  ·simp
  ·rw [List.length_cons]
   have:=Oz a b k (s.extract ((Lib.indexB s a).toNat+a.size) s.size);omega
theorem OA(L:Lays.n221 P ρ) (B:(P.info? (ρ.t 9)).map (fun i=>(i.zero,i.size,i.bytes))=some (some (.string uy),1,16)) (d:LG) (n:Int) (N:Nat) (F:(gi d 1).sV.size=1) (J:(gi d 2).iV=0) (M:(gi d 3).iV=n) (O:(gi d 0).sV.size<4294967281)
    (U:n≠0) (A:n<=9223372036854775807) (hN:(N:Int)=min (if n<0 then (Kb (gi d 0).sV (gi d 1).sV:Int)+1 else n) (((gi d 0).sV.size:Int)+1)) (h1N:1<=N) :
    eK P (ρ.f 221) (cO [] [.s .str,.s .str,.s .I,.s .I] d) [] (dp (cO [] [.s (.list [.str])] [.l ((lz (gi d 1).sV 0 (N-1) (gi d 0).sV).map fun b=>[G.s b])])) []:=by
  have e0:d.headD default=gi d 0:=rfl;have e1:d.tail.headD default=gi d 1:=by
    cases d with
    |nil=>rfl
    |cons x l=>cases l<;>rfl
  have e2:d.tail.tail.headD default=gi d 2:=by
    match d with
    | [] | [_] | [_,_]|_::_::_::_=>rfl
  have e3:d.tail.tail.tail.headD default=gi d 3:=by
    match d with
    | [] | [_] | [_,_] | [_,_,_]|_::_::_::_::_=>rfl
  intro E z hH HE a;simp only[cO,jH,d_,dv,dV.sz,Sh.sz,dp,e0,e1,e2,e3,J,M]at a|-;generalize hs:(gi d 0).sV=s at *;generalize hsep:(gi d 1).sV=V at *;obtain⟨cs⟩:=z
  match cs,a with
  | [c0,c1,c2,c3],a =>
  simp only[ar,ab,and_true]at a;obtain⟨rfl,rfl,rfl,rfl⟩:=a;obtain⟨c,rfl⟩:=Kc V F;have q:=Any.strings_genSplit_core L B s ⟨#[c]⟩ 0 n N E.w O (aY 1) (fO _)
    (fun x cc v=>(Any.strings_Index_one { L with } x c _).mono fun e w' h=>⟨by
      rw[h.1];show _=Ending.returned (Value.int .i64 (lB x.data.toList [c]))
      rw[pD],h.2⟩)
    ((Any.strings_Count_one { L with } s c E.w).mono fun e w' ⟨he, hw⟩ => ⟨by
      rw[he];show _=Ending.returned (Value.int .i64 ((Lib.count s.data.toList [c]:Nat):Int))
      rw[Lib.count_one];rfl,hw⟩) U A hN
  have W:=Oz ⟨#[c]⟩ 0 (N-1) s;generalize hp:lz ⟨#[c]⟩ 0 (N-1) s=ps at q W|-;refine q.mono ?_;rintro e w' ⟨rfl,rfl⟩;have k:Ext E.w (E.w.alloc (.cells (akg ps N) (ρ.t 9))):=Ext.push _ _;have y:(ps.map fun b=>[G.s b]).length=ps.length:=by simp
  refine⟨_,_,_,rfl,⟨rfl,rfl⟩,E.ad,E.X.r,?_,?_,?_⟩
  · simp only [ab, eX, ow, G.rZ]
    refine⟨_,_,by rw[y],by rw[y]; omega,.inr ⟨E.w.heap.size,0,rfl,⟨by show _<(E.w.heap.push _).size; simp,?_,fun v=>?_⟩,fun i x hi=>?_⟩⟩
    · rintro ho
      have:=(HE.Bg ho).1;omega
    · have := HE.X _ v
      omega
    · rw [cX] at hi
      cases g:ps[i]? with
      |none=>rw[g]at hi; cases hi
      | some b =>
        rw[g]at hi;cases hi;simp only[lE,eX,ow,and_true,G.sV];refine⟨.string b,?_,rfl,rfl⟩;have Y:i<ps.length:=(xd.1 g).1;show qD { E.w with heap:=E.w.heap.push _ } _=_
        unfold qD akg;simp[fy,Y];exact(xd.1 g).2
  · rw[<-hH]; exact HE.ext k
  · rw[<-hH]; exact ae.iE k
theorem Yz(L:Lays.n221 P ρ) (v:(P.info? (ρ.t 9)).map (fun i=>(i.zero,i.size,i.bytes))=some (some (.string uy),1,16)) (d r:LG) (h:za d=some r) :
  eK P (ρ.f 221) (cO [] [.s .str,.s .str,.s .I,.s .I] d) [] (dp (cO [] [.s (.list [.str])] r)) []:=by
 unfold za at h;cases b:(aH (gi d 1).sV.size 1&&((gi d 2).iV==0&&((gi d 3).iV == -1&&cR (gi d 0).sV.size 4294967281)))with
 | true =>
  rw[b]at h;cases h;simp only[aE,beq_iff_eq,dH]at b;obtain⟨a,k,w,q⟩:=b;have a:=bA a;have y:=Lib.countB_le (gi d 1).sV (A2 a.symm) (gi d 0).sV.size (gi d 0).sV (aY _);exact OA L v d (-1) (Kb (gi d 0).sV (gi d 1).sV+1) a k w q (by decide) (by decide) (by rw[iP (by decide)]; omega) (by omega)
 | false =>
  rw[b]at h;simp only[cF]at h;cases g:(aH (gi d 1).sV.size 1&&((gi d 2).iV==0&&(decide (0<(gi d 3).iV/\(gi d 3).iV<=1000000)&&cR (gi d 0).sV.size 4294967281)))with
  |false=>rw[g]at h; cases h
  | true =>
   rw[g]at h;cases h;simp only[aE,beq_iff_eq,dH,dT]at g;obtain⟨a,k,w,q⟩:=g;have a:=bA a;exact OA L v d (gi d 3).iV (min (gi d 3).iV (((gi d 0).sV.size:Int)+1)).toNat a k rfl q (by omega) (by omega) (by rw[iN (by omega)]; omega) (by omega)
theorem YA(L:Lays.n172 P ρ)(d r:LG)(h:tN d=some r) :
  eK P (ρ.f 172) (cO [] [.s .str] d) [] (dp (cO [] [.s .I,.s .yL] r)) []:=by
 unfold tN at h;cases g:bf (gi d 0).sV.size 18 with
 |false=>rw[g]at h; cases h
 | true =>
  rw[g]at h;simp only[cT]at h;have y:d.headD default=gi d 0:=rfl;cases k:Lib.atoi (gi d 0).sV.data.toList with
  |none=>rw[k]at h; cases h
  | some n =>
   rw[k]at h;cases h;intro E v hH HE a;simp only[cO,jH,d_,dv,dV.sz,Sh.sz,dp,y]at a|-;generalize A:(gi d 0).sV=s at *;obtain⟨z⟩:=v
   match z,a with
   | [B],a =>
   simp only[ar,ab,and_true]at a;subst a;refine(Any.strconv_Atoi L s n (qL g) k E.w).mono ?_;rintro e w' ⟨rfl,t,rfl⟩;have q:Ext E.w (Lib.bytesWorld E.w (ρ.t 5) t) :=
    ⟨by rw[Lib.bytesWorld_size]; omega,fun b g=>Lib.bytesWorld_at_old _ _ _ b g,⟨rfl,rfl,rfl,fun _=>Nat.le_succ _⟩⟩
   refine⟨_,_,_,rfl,⟨rfl,rfl⟩,E.ad,E.X.r,by simp[ab,ar,G.iV],?_,?_⟩
   ·rw[<-hH]; exact HE.ext q
   ·rw[<-hH]; exact ae.iE q
end
end Go.AL

namespace Go.AL
open Go Go.Proofs Go.Shelf Go.RowKit
variable [Dr]
def b_(s:BY):Bool:=s.data.toList.all fun b=>cR b.toNat 128
def C4{s:BY}(h:b_ s=true)(j:Nat)(b:UInt8)(a:s.data.toList[j]? = some b):b.toNat<128:=by
 have:=List.all_eq_true.1 h b (List.mem_of_getElem? a);simpa[dH]using this
noncomputable def C5(d:LG):Option LG:=bif aH (gi d 1).sV.size 1 then some [.i (lB (gi d 0).sV.data.toList (gi d 1).sV.data.toList)] else none
noncomputable def zb(d:LG):Option LG:=bif aH (gi d 1).sV.size 1 then some [.t (aR 0 (lB (gi d 0).sV.data.toList (gi d 1).sV.data.toList))] else none
noncomputable def C6(d:LG):Option LG :=
 bif b_ (gi d 0).sV&&(b_ (gi d 1).sV&&(cR (gi d 0).sV.size 4294967281&&cR (gi d 1).sV.size 4294967281)) then some [.t (Lib.containsAny (gi d 0).sV.data.toList (gi d 1).sV.data.toList)] else none
section
variable {P:ai} {ρ:Go.Shelf.Ren}
theorem zd(d:LG):d.headD default=gi d 0/\d.tail.headD default=gi d 1:=by
 constructor
 ·rfl
 ·cases d with
  |nil=>rfl
  |cons x l=>cases l<;>rfl
theorem YB(L:Lays.n219 P ρ)(d r:LG)(h:C5 d=some r):eK P (ρ.f 219) (cO [] [.s .str,.s .str] d) [] (dp (cO [] [.s .I] r)) []:=by
 unfold C5 at h;cases b:aH (gi d 1).sV.size 1 with
 |false=>rw[b]at h; cases h
 | true =>
  rw[b]at h;cases h;obtain⟨q,t⟩:=zd d;intro E g hH HE a;simp only[cO,jH,d_,dv,dV.sz,Sh.sz,dp,q,t]at a|-;generalize z:(gi d 0).sV=s at *;generalize y:(gi d 1).sV=k at *;obtain⟨v⟩:=g
  match v,a with
  | [A,B],a =>
  simp only[ar,ab,and_true]at a;obtain⟨rfl,rfl⟩:=a;obtain⟨c,rfl⟩:=Kc k (bA b);refine(Any.stringslite_Index_one L s c E.w).mono ?_;rintro e w' ⟨rfl,rfl⟩;refine⟨_,_,_,rfl,⟨rfl,rfl⟩,E.ad,E.X.r,?_,?_,?_⟩
  ·have e : lB s.data.toList (⟨#[c]⟩ : BY).data.toList = eN s.data.toList c := pD _ _
   simp[ab,G.iV,e]
  ·rw[<-hH]; exact HE
  ·rw[<-hH]; exact ae.le.refl E
theorem YC(L:Lays.n144 P ρ)(d r:LG)(h:zb d=some r):eK P (ρ.f 144) (cO [] [.s .str,.s .str] d) [] (dp (cO [] [.s .bool] r)) []:=by
 unfold zb at h;cases b:aH (gi d 1).sV.size 1 with
 |false=>rw[b]at h; cases h
 | true =>
  rw[b]at h;cases h;obtain⟨q,t⟩:=zd d;intro E g hH HE a;simp only[cO,jH,d_,dv,dV.sz,Sh.sz,dp,q,t]at a|-;generalize z:(gi d 0).sV=s at *;generalize y:(gi d 1).sV=k at *;obtain⟨v⟩:=g
  match v,a with
  | [A,B],a =>
  simp only[ar,ab,and_true]at a;obtain⟨rfl,rfl⟩:=a;obtain⟨c,rfl⟩:=Kc k (bA b);refine(Any.strings_Contains_one L s c E.w).mono ?_;rintro e w' ⟨rfl,rfl⟩;refine⟨_,_,_,rfl,⟨rfl,rfl⟩,E.ad,E.X.r,?_,?_,?_⟩
  ·have e : lB s.data.toList (⟨#[c]⟩ : BY).data.toList = eN s.data.toList c := pD _ _
   simp[ab,G.bV,e,bz]
  ·rw[<-hH]; exact HE
  ·rw[<-hH]; exact ae.le.refl E
theorem YD(F:qN=false)(L:Lays.n150 P ρ) (A:(P.info? (ρ.t 116)).map (fun i=>(i.zero,i.size))=some (some (.agg (pz 256 (.bool false))),256)) (d r:LG) (h:C6 d=some r) :
  eK P (ρ.f 150) (cO [] [.s .str,.s .str] d) [] (dp (cO [] [.s .bool] r)) []:=by
 unfold C6 at h;cases k:(b_ (gi d 0).sV&&(b_ (gi d 1).sV&&(cR (gi d 0).sV.size 4294967281&&cR (gi d 1).sV.size 4294967281)))with
 |false=>rw[k]at h; cases h
 | true =>
  rw[k]at h;cases h;simp only[aE,dH]at k;obtain⟨I,J,M,N⟩:=k;obtain⟨O,U⟩:=zd d;intro E z hH HE a;simp only[cO,jH,d_,dv,dV.sz,Sh.sz,dp,O,U]at a|-;generalize hs:(gi d 0).sV=s at *;generalize Y:(gi d 1).sV=B at *;obtain⟨V⟩:=z
  match V,a with
  | [c0,c1],a =>
  simp only[ar,ab,and_true]at a;obtain⟨rfl,rfl⟩:=a;refine(Any.strings_ContainsAny_laid L A s B E.w M N (fun j b q=>C4 I j b q) (fun j b q=>C4 J j b q)).mono ?_;rintro e w' ⟨rfl,g⟩;have v:Ext E.w w':=⟨g.size,fun x W=>g.block x W,g.os,g.output,g.tape,fun y=>by rw[F]at y; cases y⟩
  refine⟨_,_,_,rfl,⟨rfl,rfl⟩,E.ad,E.X.r,by simp[ab,G.bV],?_,?_⟩
  ·rw[<-hH]; exact HE.ext v
  ·rw[<-hH]; exact ae.iE v
end
end Go.AL

namespace Go.AL
open Go Go.Proofs Go.Shelf Go.RowKit
variable [Dr]
def setRow(a:BY):LG:=(jc 256).map fun j=>G.t (a.data.toList.contains (jB j))
abbrev mM:List Kd:=dz 256 .bool
noncomputable def C7(d:LG):Option LG:=bif b_ (gi d 0).sV&&cR (gi d 0).sV.size 4294967281 then some [.l [setRow (gi d 0).sV],.t true] else none
noncomputable def C8(d:LG):Option LG:=bif aR 0 (gi d 1).iV&&aK (gi d 1).iV 128 then some [.i (eN (gi d 0).sV.data.toList (gi d 1).iV.toNat.toUInt8)] else none
def OB:∀ l:List Bool,a8 (dz l.length .bool) (l.map G.t)=(l.map Value.bool).map AV.lit
 | []=>rfl
 | b::l=>by
  show lD .bool (G.t b)::a8 (dz l.length .bool) (l.map G.t)=_
  rw[OB l];rfl
section
variable {P:ai} {ρ:Go.Shelf.Ren}
theorem YE(L:Lays.n227 P ρ) (k:(P.info? (ρ.t 116)).map (fun i=>(i.zero,i.size))=some (some (.agg (pz 256 (.bool false))),256)) (d r:LG) (h:C7 d=some r) :
  eK P (ρ.f 227) (cO [] [.s .str] d) [] (dp (cO [] [.s (.row mM),.s .bool] r)) []:=by
 unfold C7 at h;cases g:(b_ (gi d 0).sV&&cR (gi d 0).sV.size 4294967281)with
 |false=>rw[g]at h; cases h
 | true =>
  rw[g]at h;cases h;simp only[aE,dH]at g;obtain⟨A,_⟩:=zd d;intro E z hH HE a;simp only[cO,jH,d_,dv,dV.sz,Sh.sz,dp,A]at a|-;generalize J:(gi d 0).sV=s at *;obtain⟨B⟩:=z
  match B,a with
  | [M],a =>
  simp only[ar,ab,and_true]at a;subst a;refine(Any.strings_makeASCIISet L (zero_of_info k).1 (zero_of_info k).2 s E.w g.2 (fun j b F=>C4 g.1 j b F)).mono ?_;rintro e w' ⟨rfl,rfl⟩;have q:Ext E.w (E.w.alloc (.cells (Tm s.data.toList) (ρ.t 116))):=Ext.push _ _;have v:(Tm s.data.toList).toList=((jc 256).map fun j=>s.data.toList.contains (jB j)).map Value.bool:=by
   rw[Lib.setCells_eq,Array.toList_map,Array.toList_range,nh];rfl
  have I:a8 mM (setRow s)=((Tm s.data.toList).toList).map AV.lit:=by
   rw[v,<-OB];simp only[List.length_map,List.length_range,setRow,nh];rfl
  refine⟨_,_,_,rfl,⟨rfl,rfl⟩,E.ad,E.X.r,?_,?_,?_⟩
  ·simp only [ab]
   refine⟨_,rfl,?_⟩;simp only[ar,ab,and_true];refine⟨⟨_,rfl,?_,?_⟩,rfl⟩
   ·intro x y
    rw[v]at y;obtain⟨b,_,rfl⟩:=List.mem_map.1 y;rfl
   ·show ar _ (a8 mM (setRow s)) _
    rw[I];exact oz _
  ·rw[<-hH]; exact HE.ext q
  ·rw[<-hH]; exact ae.iE q
theorem YF(L:Lays.n152 P ρ)(d r:LG)(h:C8 d=some r):eK P (ρ.f 152) (cO [] [.s .str,.s (.int .i32)] d) [] (dp (cO [] [.s .I] r)) []:=by
 unfold C8 at h;cases b:(aR 0 (gi d 1).iV&&aK (gi d 1).iV 128)with
 |false=>rw[b]at h; cases h
 | true =>
  rw[b]at h;cases h;simp only[aE,bz,be,dT]at b;obtain⟨k,q⟩:=zd d;intro E g hH HE a;simp only[cO,jH,d_,dv,dV.sz,Sh.sz,dp,k,q]at a|-;generalize v:(gi d 0).sV=s at *;generalize y:(gi d 1).iV=n at *;obtain⟨t⟩:=g
  match t,a with
  | [z,A],a =>
  simp only[ar,ab,and_true]at a;obtain⟨rfl,rfl⟩:=a;refine(Any.strings_IndexRune_ascii L s n E.w b.1 b.2).mono ?_;rintro e w' ⟨rfl,rfl⟩;refine⟨_,_,_,rfl,⟨rfl,rfl⟩,E.ad,E.X.r,by simp[ab,G.iV],?_,?_⟩
  ·rw[<-hH]; exact HE
  ·rw[<-hH]; exact ae.le.refl E
end
end Go.AL

namespace Go.AL
open Go Go.Proofs Go.Shelf Go.RowKit
variable [Dr]
def OC(s:BY)(n:Int):BY:=⟨(Lib.repeatL s.data.toList n.toNat).toArray⟩
noncomputable def H7(d:LG):Option LG :=
 bif cA (gi d 1).iV&&(aR (gi d 1).iV 9223372036854775807&&bf ((gi d 0).sV.size*(gi d 1).iV.toNat) 140737488355328) then some [.s (OC (gi d 0).sV (gi d 1).iV)] else none
section
variable {P:ai} {ρ:Go.Shelf.Ren}
theorem YG(y:qN=false)(L:Lays.n105 P ρ)(X:Builder.Extra P ρ)(d r:LG)(h:H7 d=some r) :
  eK P (ρ.f 105) (cO [] [.s .str,.s .I] d) [] (dp (cO [] [.s .str] r)) []:=by
 unfold H7 at h;cases g:(cA (gi d 1).iV&&(aR (gi d 1).iV 9223372036854775807&&bf ((gi d 0).sV.size*(gi d 1).iV.toNat) 140737488355328))with
 |false=>rw[g]at h; cases h
 | true =>
  rw[g]at h;cases h;simp only[aE,cu,dY,bz,dT]at g;obtain⟨J,M,v⟩:=g;have z:d.headD default=gi d 0:=rfl;have A:d.tail.headD default=gi d 1:=by
   cases d with
   |nil=>rfl
   |cons x l=>cases l<;>rfl
  intro E t hH HE a;simp only[cO,jH,d_,dv,dV.sz,Sh.sz,dp,z,A]at a|-;generalize N:(gi d 0).sV=s at *;generalize O:(gi d 1).iV=n at *;obtain⟨B⟩:=t
  match B,a with
  | [U,V],a =>
  simp only[ar,ab,and_true]at a;obtain⟨rfl,rfl⟩:=a;have key:=Any.strings_Repeat L X s n.toNat E.w (by omega) v;rw[show ((n.toNat:Nat):Int)=n by omega]at key;refine key.mono ?_;rintro e w' ⟨rfl,b⟩;have k:Ext E.w w':=⟨b.size,fun x F=>b.block x F,b.os,b.output,b.tape,fun q=>by rw[y]at q; cases q⟩
  refine⟨_,_,_,rfl,⟨rfl,rfl⟩,E.ad,E.X.r,by simp[ab,G.sV,OC],?_,?_⟩
  ·rw[<-hH]; exact HE.ext k
  ·rw[<-hH]; exact ae.iE k
end
end Go.AL
