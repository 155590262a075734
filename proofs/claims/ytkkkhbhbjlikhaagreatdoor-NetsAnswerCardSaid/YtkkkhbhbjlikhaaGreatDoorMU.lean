/-
 What is proved here: strings.Builder's methods: what they do to the builder's two blocks,and that they leave all other blocks alone. No program in sight; what is asked is that the library's text lies in the program.
-/
import Derived.Test.YtkkkhbhbjlikhaaGreatDoorMG
import Derived.Shelf.Strings.BuilderF
import Derived.Shelf.Strings.OnBuilder
import Derived.Shelf.Strings.SplitCore
import Derived.Shelf.Strings.Count
import Derived.Shelf.Strings.Search3
import Derived.Shelf.Strconv.Atoi
import Derived.Lib.SplitLaws
set_option linter.all false
open Array renaming getElem?_modify->vo,getElem?_eq_some_iff->fS,getElem?_eq_none->Pf
open Bool renaming and_eq_true->aR
open ByteArray renaming empty->AJ
open Go renaming Value->al,TypeId->aJ,World->be,Program->ak
open Go.Builtin renaming append_->oX,unsafeSliceData_->Pr
open Go.Lib renaming strCells->Jr,cell_of_heap->rI,frozen_of_heap->atL,byteCells->nI,byteCells_length->vt,alloc_old->atN,run_unsafeSliceData_row->atO,size_eq->lS,join->dZ,splitB->El,countB->vu
open Go.Proofs.Any renaming unsafeString_none->atM
open Go.Proofs.Body renaming n169_ntmps->Pt
open Go.RowKit.Below renaming heap_setCell->aaj
open Go.Value renaming ownBlock->ph
open Go.World renaming cell?->s9,setCell->aah,shape?->aai,freeze->atP
open List renaming getElem?_map->dw,map_cons->eU,eq_nil_of_length_eq_zero->rE,length_set->AK,headD_cons->nE,map_nil->mo,tail_cons->AU
open Nat renaming le_refl->bl,lt_or_ge->mh,zero_le->lj,ble->bW,le_of_ble_eq_true->lk,mul_one->Ee
open Option renaming map_some->jl
open Option.some renaming injEq->bQ
namespace Go.AL
open Go Go.Proofs Go.Shelf Go.RowKit
variable {T:aJ} {v:al} {w:be}
section
variable {P:ak} {ρ:Ren}
def uC:al->Nat
 |.slice _ _ c=>c
 |_=>0
theorem aeP(w:be)(t u ty e:aJ)(i:TypeInfo)(B:P.underlying t=some (.slice e))(F:P.underlying u=some .string)(hi:P.info? e=some i)(N:i.zero=some (.int .u8 0))(I:i.size=1)(J:i.bytes=1)
  (v:al) (n:Nat) (q:List al) (A:w.ownsRowF 0 e 1 v n q) (s:BY) (hbytes:n+s.size<=140737488355328) :
  ∃d w',(oX #[t,u] ty #[v,.string s]).run P w=.ok d w'/\w'.ownsRowF 0 e 1 d (n+s.size) (q++Jr s)/\w.grownBy w' v.ownBlock/\((d.ownBlock=v.ownBlock/\uC d=uC v)\/d.ownBlock=some w.heap.size):=by
 obtain⟨d,w',W,h2,h3,h4⟩:=Lib.run_append_own_stringF (P:=P) w 0 t u ty e i B F hi N I J v n q A s (by unfold maxLen; omega) hbytes (lj _);refine⟨d,w',W,h2,h3,?_⟩;have M:∀(O:al) (Y:be),(oX #[t,u] ty #[v,.string s]).run P w=.ok O Y->d=O:=fun O Y hr=>by
  rw[W]at hr;cases hr;rfl
 rcases A.2 with⟨rfl,rfl⟩|⟨g,cap,U,fz,rfl,hbg,hg,hfz,hnc,hcm,hcs,htake⟩
 ·by_cases hm:s.size=0
  ·left
   rw[h4.2 ⟨rfl,hm⟩];exact⟨rfl,rfl⟩
  ·right
   have hr:=run_append_nil_string (P:=P) w t u ty e i (.int .u8 0) B F hi N s ab ab (by rw[J]; omega);rw[M _ _ hr];rfl
 ·by_cases hroom:n+s.size<=cap
  ·left
   have hcs':U.size=cap:=by simpa using hcs
   have hr:=Lib.run_append_room_stringF (P:=P) w t u ty e i B F hi I g n cap U fz hg (by simpa using hfz) s hroom ab;rw[M _ _ hr];exact⟨rfl,rfl⟩
  ·right
   have hxl:q.length=n:=by simpa using A.1
   have holds:∀j u,q[j]?=some u->w.cell? ((⟨g,0,none⟩:Addr).add j)=some u:=A.cells (g:=g) rfl;have hr:=Lib.run_append_grow_string (P:=P) w t u ty e i (.int .u8 0) B F hi N ⟨g,0,none⟩ n cap q (by rw[I]; simpa using hxl) holds s ab ab (by rw[J]; exact growslice_fits ab ab);rw[M _ _ hr];rfl
theorem aeQ{ah:Array Oper}{rest:List Oper}{o:Oper}{a:Act}{Q:Exit->Act->be->Prop}(F:o.guard=none)(sl x:Operand)(t u:aJ)
  (J:o.op=.call { callee:=.builtin .append,args:=#[sl,x],argTypes:=#[t,u] })
  (e:aJ) (i:TypeInfo) (M:P.underlying t=some (.slice e)) (N:P.underlying u=some .string) (hi:P.info? e=some i) (O:i.zero=some (.int .u8 0)) (A:i.size=1) (I:i.bytes=1)
  (v:al) (n:Nat) (g:List al) (hs:a.eval sl=v) (B:w.ownsRowF 0 e 1 v n g) (s:BY) (U:a.eval x=.string s) (q:n+s.size<=140737488355328)
  (h:∀d w',w'.ownsRowF 0 e 1 d (n+s.size) (g++Jr s)->w.grownBy w' v.ownBlock->((d.ownBlock=v.ownBlock/\uC d=uC v)\/d.ownBlock=some w.heap.size)->wpList P ah Q rest (a.put o.dst d) w'):wpList P ah Q (o::rest) a w:=by
 refine wpList_plain F fun K W=>?_;obtain⟨d,w',hr,Y,h3,h4⟩:=aeP (P:=P) w t u o.type e i M N hi O A I v n g B s q;unfold Oper.wp execOp;simp only[J,resolve,invoke,builtin,Sem.run_bind,Sem.run_pure,Result.andThen_ok,List.map_toArray,eU,mo,hs,U,hr];exact W _ _ (h d w' Y h3 h4)
structure y4 (w w':be) (b:Nat) (g:Option Nat):Prop where
 os:w'.os=w.os
 tape:w'.tape=w.tape
 output:w'.output=w.output
 size:w.heap.size<=w'.heap.size
 block:∀k,k<w.heap.size->k≠b->some k≠g->w'.heap[k]?=w.heap[k]?
theorem Gt(w:be)(a:Addr)(v:al):(w.setCell a v).heap.size=w.heap.size:=by simp[aah]
theorem aeR{b:Nat}{p q:al} (h:w.heap[b]?=some (.cells #[p,v] T (0,0))):(w.setCell ⟨b,0,none⟩ q).heap[b]?=some (.cells #[q,v] T (0,0)):=by
 simp[aah,vo,h]
theorem aeS{b:Nat}{p q:al} (h:w.heap[b]?=some (.cells #[p,v] T (0,0))):(w.setCell ⟨b,1,none⟩ q).heap[b]?=some (.cells #[p,q] T (0,0)):=by
 simp[aah,vo,h]
theorem aeT(L:Lays.n240 P ρ)(X:Builder.X72 P ρ)(b:Nat)(p v:al)(w:be)(g:p=.pointer none\/p=.pointer (some ⟨b,0,none⟩)) (d:w.heap[b]? = some (.cells #[p,v] (ρ.t 72) (0,0))) :
  Calls P (ρ.f 240) #[.pointer (some ⟨b,0,none⟩)] w fun e w'=>e=.returned (.tuple #[])/\w'.heap[b]?=some (.cells #[.pointer (some ⟨b,0,none⟩),v] (ρ.t 72) (0,0))/\y4 w w' b none/\w'.heap.size=w.heap.size:=by
 rcases g with rfl|rfl
 ·refine (Any.Builder_copyCheck_fresh L X b w (by rw[rI d]; rfl) (by simp[aai,d]) (atL d 0)).mono ?_
  rintro e w' ⟨rfl,rfl⟩;exact⟨rfl,aeR d,⟨rfl,rfl,rfl,by rw[Gt]; exact bl _,fun k _ q _=>aaj _ _ _ _ (fun e=>q e)⟩,Gt _ _ _⟩
 ·refine (Any.Builder_copyCheck_used L X b w (by rw[rI d]; rfl)).mono ?_
  rintro e w' ⟨rfl,rfl⟩;exact⟨rfl,d,⟨rfl,rfl,rfl,bl _,fun _ _ _ _=>rfl⟩,rfl⟩
set_option maxHeartbeats 2000000 in
set_option maxRecDepth 100000 in
theorem aeU(L:Lays.n166 P ρ)(X:Builder.Extra P ρ)(b:Nat)(p v:al)(q:List al)(s:BY)(w:be)(hp:p=.pointer none\/p=.pointer (some ⟨b,0,none⟩)) (hbk:w.heap[b]? = some (.cells #[p,v] (ρ.t 72) (0,0)))
  (hown:w.ownsRowF 0 (ρ.t 5) 1 v q.length q) (U:v.ownBlock≠some b) (hlen:q.length+s.size<=140737488355328) :
  Calls P (ρ.f 166) #[.pointer (some ⟨b,0,none⟩),.string s] w fun e w'=>e=.returned (.tuple #[.int .i64 s.size,.nilIface])/\∃A,w'.heap[b]?=some (.cells #[.pointer (some ⟨b,0,none⟩),A] (ρ.t 72) (0,0)) /\
   w'.ownsRowF 0 (ρ.t 5) 1 A (q.length+s.size) (q++Jr s)/\((A.ownBlock=v.ownBlock/\uC A=uC v)\/A.ownBlock=some w.heap.size)/\y4 w w' b v.ownBlock:=by
 obtain⟨i0,hi,hz0,hz1,hz2⟩:=info_parts X.infoByte;have mixed:=L.mixed;have t72:=L.t72; have a72:=L.a72; have z72:=L.z72; have v72:=L.v72; have u72:=run_underlying L.t72;have t70:=L.t70; have a70:=L.a70; have z70:=L.z70; have v70:=L.v70; have u70:=run_underlying L.t70;have t37:=L.t37; have a37:=L.a37; have z37:=L.z37; have v37:=L.v37; have u37:=run_underlying L.t37;have t3:=L.t3; have a3:=L.a3; have z3:=L.z3; have v3:=L.v3; have u3:=run_underlying L.t3;have t9:=L.t9; have a9:=L.a9; have z9:=L.z9; have v9:=L.v9; have u9:=run_underlying L.t9;have t4:=L.t4; have a4:=L.a4; have z4:=L.z4; have v4:=L.v4; have u4:=run_underlying L.t4;have t164:=L.t164; have a164:=L.a164; have z164:=L.z164; have v164:=L.v164; have u164:=run_underlying L.t164;have t5:=X.t5; have a5:=X.a5; have z5:=X.z5; have v5:=X.v5; have u5:=run_underlying X.t5;have e240:∀args w,(callFunc (ρ.f 240) args).run P w=.ok (.enter (ρ.f 240) args) w:=enters_of L.f240 aj rfl
 go_enter L.f166,Body.n166_ntmps ρ
 go_wp2_with (go_at_fn (ρ.f 240); refine(aeT { L with } X.toX72 b p v _ hp hbk).mono ?_)
 rintro e I ⟨rfl,M,d,hs1⟩;have hown1:I.ownsRowF 0 (ρ.t 5) 1 v q.length q:=hown.kept (row:=some b) ⟨d.os,d.tape,d.output,d.size,fun k J N=>d.block k J (fun e=>N (by rw[e])) ai⟩ (Or.inr U);have c0:I.cell? ⟨b,0,none⟩=some (.pointer (some ⟨b,0,none⟩)):=by rw[rI M]; rfl
 have c1:I.cell? ⟨b,1,none⟩=some v:=by rw[rI M]; rfl
 go_wp2_with (at_builtin; refine aeQ rfl _ _ (ρ.t 37) (ρ.t 9) rfl (ρ.t 5) i0 L.t37 L.t9 hi hz0 hz1 hz2 _ _ _ rfl hown1 s rfl ?c3 ?_)
 case c3=>omega
 intro A B hown' F hblk;have hlt:b<I.heap.size:=by
  rcases mh b I.heap.size with h'|h'
  ·exact h'
  ·simp[Pf h']at M
 have O:B.heap[b]?=some (.cells #[.pointer (some ⟨b,0,none⟩),v] (ρ.t 72) (0,0)):=by
  rw[F.block b hlt (fun e=>U e.symm)];exact M
 have d0:B.cell? ⟨b,0,none⟩=some (.pointer (some ⟨b,0,none⟩)):=by rw[rI O]; rfl
 have d1:B.cell? ⟨b,1,none⟩=some v:=by rw[rI O]; rfl
 have f1:B.frozen? ⟨b,1,none⟩=false:=atL O 1;obtain⟨W,Y,cap,rfl⟩:∃W Y cap,A=.slice W Y cap:=by
  rcases hown'.2 with⟨hv,_⟩|⟨g,cap,cur,fz,hv,_⟩
  ·exact⟨_,_,_,hv⟩
  ·exact⟨_,_,_,hv⟩
 go_wp2
 go_ret2
 have hne':(Value.slice W Y cap).ownBlock≠some b:=by
  rcases hblk with h|h
  ·rw[h.1]; exact U
  ·rw[h]
   intro e;simp only[bQ]at e;omega
 refine⟨rfl,_,aeS O,hown'.kept (row:=some b) ⟨rfl,rfl,rfl,by rw[Gt]; exact bl _,fun k _ J=>aaj _ _ _ _ (fun e=>J (by simp[e]))⟩ (Or.inr hne'),hblk,?_⟩;exact⟨by show B.os=_; rw[F.os,d.os],by show B.tape=_; rw[F.tape,d.tape],by show B.output=_; rw[F.output,d.output],by rw[Gt]; have:=F.size; have:=d.size; omega,fun k J N hkg=>by
  rw[aaj _ _ _ _ (fun e=>N e),F.block k (by have:=d.size; omega) hkg,d.block k J N ai]⟩
theorem Tf{l:List UInt8}{g m:Nat}(d:v=.slice (some ⟨g,0,none⟩) l.length m){cs:Array al}{fz:Nat × Nat}(q:w.heap[g]? = some (.cells cs T fz))(B:fz.2<=l.length)(F:cs.size=m)(I:l.length<=m)
  (J:m<=9223372036854775807) (A:cs.toList.take l.length=nI l):w.ownsRowF 0 T 1 v (nI l).length (nI l):=by
 refine⟨ai,.inr ⟨g,m,cs,fz,by rw[d,vt],lj _,q,by rw[vt]; omega,by rw[vt]; omega,by unfold maxLen; omega,ab,?_⟩⟩;rw[vt,Ee];exact A
set_option maxHeartbeats 2000000 in
set_option maxRecDepth 100000 in
theorem aeV(L:Lays.n169 P ρ)(X:Builder.Extra P ρ)(b:Nat)(p v:al)(l:List UInt8)(w:be) (d:w.heap[b]? = some (.cells #[p,v] (ρ.t 72) (0,0)))
  (hown:w.ownsRowF 0 (ρ.t 5) 1 v l.length (nI l)) (hne:v.ownBlock≠some b) :
  Calls P (ρ.f 169) #[.pointer (some ⟨b,0,none⟩)] w fun e w'=>e=.returned (.string ⟨l.toArray⟩)/\w'.heap[b]?=some (.cells #[p,v] (ρ.t 72) (0,0))/\y4 w w' b v.ownBlock /\
   (∀g cs fz,v.ownBlock=some g->w.heap[g]?=some (.cells cs (ρ.t 5) fz)->fz.2<=l.length->∃q,w'.heap[g]?=some (.cells cs (ρ.t 5) q)/\q.2<=l.length):=by
 have hlt:b<w.heap.size:=by
  rcases mh b w.heap.size with h'|h'
  ·exact h'
  ·simp[Pf h']at d
 have mixed:=L.mixed;have t72:=L.t72; have a72:=L.a72; have z72:=L.z72; have v72:=L.v72; have u72:=run_underlying L.t72;have t70:=L.t70; have a70:=L.a70; have z70:=L.z70; have v70:=L.v70; have u70:=run_underlying L.t70;have t37:=L.t37; have a37:=L.a37; have z37:=L.z37; have v37:=L.v37; have u37:=run_underlying L.t37;have t127:=L.t127; have a127:=L.a127; have z127:=L.z127; have v127:=L.v127; have u127:=run_underlying L.t127;have t3:=L.t3; have a3:=L.a3; have z3:=L.z3; have v3:=L.v3; have u3:=run_underlying L.t3;have t9:=L.t9; have a9:=L.a9; have z9:=L.z9; have v9:=L.v9; have u9:=run_underlying L.t9;have t5:=X.t5; have a5:=X.a5; have z5:=X.z5; have v5:=X.v5; have u5:=run_underlying X.t5;rcases hown.2 with⟨rfl,hz⟩|⟨g,cap,U,fz,rfl,hbg,J,hfz,hnc,hcm,hcs,htake⟩
 ·-- nothing was written
  have hl:l=[]:=rE hz;subst hl;have hUS:=atM L X;have Y:w.drew.cell? ⟨b,1,none⟩=some (.slice none 0 0):=by
   have:w.drew.heap[b]?=some (.cells #[p,.slice none 0 0] (ρ.t 72) (0,0)):=d;rw[rI this]; rfl
  have hSD:(Pr #[(ρ.t 37)] (ρ.t 127) #[.slice none 0 0]).run P w.drew=.ok (.pointer none) w.drew:=rfl
  go_enter L.f169,Pt ρ
  go_wp2
  go_region_o
  all_goals (go_wp2; go_ret; exact⟨rfl,d,⟨rfl,rfl,rfl,bl _,fun _ _ _ _=>rfl⟩,fun g cs fz J=>by simp[ph]at J⟩)
 ·have hgb:g≠b:=fun e=>hne (by simp[ph,e])
  by_cases hl0:l=[]
  ·subst hl0
   have hUS:=atM L X;simp only[List.length_nil]at *;by_cases hc0:cap=0
   ·subst hc0
    have Y:w.drew.cell? ⟨b,1,none⟩=some (.slice (some ⟨g,0,none⟩) 0 0):=by
     have:w.drew.heap[b]?=some (.cells #[p,.slice (some ⟨g,0,none⟩) 0 0] (ρ.t 72) (0,0)):=d;rw[rI this]; rfl
    have hSD:(Pr #[(ρ.t 37)] (ρ.t 127) #[.slice (some ⟨g,0,none⟩) 0 0]).run P w.drew=.ok (.pointer (some ⟨w.drew.heap.size,0,none⟩)) (w.drew.alloc (.view ⟨g,0,none⟩ (ρ.t 5))):=
     Lib.run_unsafeSliceData_zero w.drew _ _ (ρ.t 5) L.t127 ⟨g,0,none⟩ 0 ((ρ.t 5),U.size) (by have A:w.drew.heap[g]?=some (.cells U (ρ.t 5) fz):=J; simp[aai,A])
    have c2:(w.drew.alloc (.view ⟨g,0,none⟩ (ρ.t 5))).cell? ⟨b,1,none⟩=some (.slice (some ⟨g,0,none⟩) 0 0):=by
     have:(w.drew.alloc (.view ⟨g,0,none⟩ (ρ.t 5))).heap[b]?=_:=(atN w.drew _ b hlt).trans d;rw[rI this]; rfl
    have c3:(w.alloc (.view ⟨g,0,none⟩ (ρ.t 5))).drew.cell? ⟨b,1,none⟩=some (.slice (some ⟨g,0,none⟩) 0 0):=c2;have c0:w.cell? ⟨b,1,none⟩=some (.slice (some ⟨g,0,none⟩) 0 0):=Y;have hglt:g<w.heap.size:=(fS.1 J).1;have hold:∀k,k<w.heap.size->(w.alloc (.view ⟨g,0,none⟩ (ρ.t 5))).heap[k]?=w.heap[k]?:=fun k F=>atN w _ k F;have I:(w.alloc (.view ⟨g,0,none⟩ (ρ.t 5))).heap[b]?=some (.cells #[p,.slice (some ⟨g,0,none⟩) 0 0] (ρ.t 72) (0,0))/\y4 w (w.alloc (.view ⟨g,0,none⟩ (ρ.t 5))) b (ph (.slice (some ⟨g,0,none⟩) 0 0)) /\
      (∀B cs fz,ph (.slice (some ⟨g,0,none⟩) 0 0)=some B->w.heap[B]?=some (.cells cs (ρ.t 5) fz)->fz.2<=0->∃q,(w.alloc (.view ⟨g,0,none⟩ (ρ.t 5))).heap[B]?=some (.cells cs (ρ.t 5) q)/\q.2<=0):=
     ⟨by rw[hold b hlt]; exact d,⟨rfl,rfl,rfl,by simp[World.size_alloc],fun k F _ _=>hold k F⟩,fun B cs fz A M N=>⟨fz,by
      simp only[ph,jl,bQ]at A;subst A;rw[hold _ hglt]; exact M,N⟩⟩
    go_enter L.f169,Pt ρ
    go_wp2
    go_region_o
    all_goals (go_wp2; go_ret; exact⟨rfl,I.1,⟨rfl,rfl,rfl,I.2.1.size,I.2.1.block⟩,I.2.2⟩)
   ·have Y:w.drew.cell? ⟨b,1,none⟩=some (.slice (some ⟨g,0,none⟩) 0 cap):=by
     have:w.drew.heap[b]?=some (.cells #[p,.slice (some ⟨g,0,none⟩) 0 cap] (ρ.t 72) (0,0)):=d;rw[rI this]; rfl
    have hSD:(Pr #[(ρ.t 37)] (ρ.t 127) #[.slice (some ⟨g,0,none⟩) 0 cap]).run P w.drew=.ok (.pointer (some ⟨g,0,none⟩)) w.drew:=
     atO _ _ _ _ _ _ hc0
    clear hc0
    go_enter L.f169,Pt ρ
    go_wp2
    go_region_o
    all_goals (go_wp2; go_ret; exact⟨rfl,d,⟨rfl,rfl,rfl,bl _,fun _ _ _ _=>rfl⟩,fun g cs fz _ M N=>⟨fz,M,N⟩⟩)
  ·have hl1:l.length≠0:=by simpa using hl0
   have Y:w.drew.cell? ⟨b,1,none⟩=some (.slice (some ⟨g,0,none⟩) l.length cap):=by
    have:w.drew.heap[b]?=some (.cells #[p,.slice (some ⟨g,0,none⟩) l.length cap] (ρ.t 72) (0,0)):=d;rw[rI this]; rfl
   have hSD:(Pr #[(ρ.t 37)] (ρ.t 127) #[.slice (some ⟨g,0,none⟩) l.length cap]).run P w.drew=.ok (.pointer (some ⟨g,0,none⟩)) w.drew:=
    atO _ _ _ _ _ _ ab
   have hUS:(Builtin.unsafeString_ #[(ρ.t 127),(ρ.t 3)] (ρ.t 9) #[.pointer (some ⟨g,0,none⟩),.int .i64 l.length]).run P w.drew=.ok (.string ⟨l.toArray⟩) (w.drew.freeze ⟨g,0,none⟩ l.length):=by
    refine Lib.run_unsafeString_row w.drew (ρ.t 127) (ρ.t 3) (ρ.t 9) (ρ.t 5) L.t127 X.cellsByte g U.size (by have A:w.drew.heap[g]?=some (.cells U (ρ.t 5) fz):=J; simp[aai,A]) l hl0 ab (by unfold maxLen at hcm; omega) ?_;intro j x hx;exact hown.cells (g:=g) rfl j (.int .u8 x.toNat) (by simp[nI,hx])
   have hF:(w.drew.freeze ⟨g,0,none⟩ l.length).heap=w.heap.modify g fun
     |.cells c elem (lo,hi)=>.cells c elem (if lo==hi then (0,0+l.length) else (min lo 0,max hi (0+l.length)))
     |o=>o:=by
    unfold atP;rw[iN hl1];rfl
   have hsz:(w.drew.freeze ⟨g,0,none⟩ l.length).heap.size=w.heap.size:=by rw[hF]; simp
   have hoth:∀k,k≠g->(w.drew.freeze ⟨g,0,none⟩ l.length).heap[k]?=w.heap[k]?:=fun k F=>by rw[hF]; simp[vo,Ne.symm F]
   have O:(w.drew.freeze ⟨g,0,none⟩ l.length).os=w.os/\(w.drew.freeze ⟨g,0,none⟩ l.length).tape=w.tape/\(w.drew.freeze ⟨g,0,none⟩ l.length).output=w.output:=by
    unfold atP;rw[iN hl1];exact⟨rfl,rfl,rfl⟩
   obtain⟨W,hW⟩:∃W,w.drew.freeze ⟨g,0,none⟩ l.length=W:=⟨_,rfl⟩
   rw[hW]at hUS hF hsz hoth O;have I:W.heap[b]?=some (.cells #[p,.slice (some ⟨g,0,none⟩) l.length cap] (ρ.t 72) (0,0))/\y4 w W b (ph (.slice (some ⟨g,0,none⟩) l.length cap)) /\
     (∀B cs fz,ph (.slice (some ⟨g,0,none⟩) l.length cap)=some B->w.heap[B]?=some (.cells cs (ρ.t 5) fz)->fz.2<=l.length->∃q,W.heap[B]?=some (.cells cs (ρ.t 5) q)/\q.2<=l.length):=by
    refine⟨by rw[hoth b (Ne.symm hgb)]; exact d,⟨O.1,O.2.1,O.2.2,ab,fun k _ _ F=>hoth k fun e=>F (by simp[ph,e])⟩,fun B cs q A M N=>?_⟩;simp only[ph,jl,bQ]at A;subst A;rw[hF];obtain⟨lo,hi⟩:=q;simp only[vo,if_true,M,jl];refine⟨_,rfl,?_⟩;simp only at N;split
    ·simp
    ·show max hi (0+l.length)<=l.length
     omega
   go_enter L.f169,Pt ρ
   go_wp2
   go_region_o
   all_goals (go_wp2; go_ret; exact⟨rfl,I⟩)
end
end Go.AL

namespace Go.AL
open Go Go.Proofs Go.Shelf Go.RowKit
variable [Dr]
variable {B T:aJ} {E:af} {s:BY} {v:al}
section
variable {P:ak} {ρ:Ren}
def Gu(d:LG):Option LG:=bif bW ((gi d 0).sV.size+(gi d 1).sV.size) 140737488355328 then some [.s ((gi d 0).sV++(gi d 1).sV),.i ((gi d 1).sV.size:Nat)] else none
def Tg(d:LG):Option LG:=some [.s (gi d 0).sV,.s (gi d 0).sV]
structure Mb (E:af) (T B:aJ) (s:BY) (b n:Nat) (p v:al) (k:Nat) (q:Option (Nat × Nat)):Prop where
 ad:E.ad[0]?=some (some (b,n))
 wF:E.w.heap[b]?=some (.cells #[p,v] T (0,0))
 ptr:p=.pointer none\/p=.pointer (some ⟨b,0,none⟩)
 Mc:(E.X.r 0)[k]?=some (some q)
 only:∀(h':Nat) q',(E.X.r 0)[h']?=some (some q')->h'=k
 buf:Es E.w B s v q
 bC:E.w.ownsRowF 0 B 1 v s.data.toList.length (nI s.data.toList)
 ne:v.ownBlock≠some b
 Md:v.ownBlock=q.map (·.1)
theorem Th(HE:aO E)(hH:E.H=[.dK 0 T B s]):∃b n p v k q,Mb E T B s b n p v k q:=by
 have J:E.H[0]?=some (.dK 0 T B s):=by rw[hH]; rfl
 obtain⟨b,n,p,v,k,q,F,M,N,I,O,d⟩:=HE.obj 0 _ J;refine⟨b,n,p,v,k,q,F,M,N,I,O,d,?_,?_,?_⟩
 ·cases q with
  |none=>
   obtain⟨rfl,hs⟩:=d;rw[hs];exact⟨rfl,.inl ⟨rfl,rfl⟩⟩
  |some A=>
   obtain⟨g,m⟩:=A;obtain⟨e,cs,fz,U,W,Y,g4,g5,g6⟩:=d;have:=Tf (l:=s.data.toList) e U W Y g4 g5 g6
   rwa [vt]at this
 ·cases q with
  |none=>rw[d.1]; simp[ph]
  |some A=>
   obtain⟨g,m⟩:=A;rw[d.1];simp only[ph,jl,ne_eq,bQ];intro e;subst e;exact HE.eY _ _ _ _ _ _ F I
 ·cases q with
  |none=>rw[d.1]; rfl
  |some A=>rw[d.1]; rfl
theorem Ti{b n:Nat}{p:al}{k:Nat}{q:Option (Nat × Nat)}(hH:E.H=[.dK 0 T B s])(g:Mb E T B s b n p v k q){c:al}(hr:ae E (.ptr 0 0 0 0 0) c):c=.pointer (some ⟨b,0,none⟩):=by
 simp only[ae]at hr;obtain⟨_,_,h⟩:=hr;obtain⟨F,I,d,A⟩:=h ⟨.dK 0 T B s,by rw[hH]; rfl,rfl⟩;rw[g.ad]at d;cases d;rw[A]
theorem Me{w:be}{l:List UInt8}(h:w.ownsRowF 0 B 1 v l.length (nI l)):(v=.slice none 0 0/\l=[])\/∃g m cs fz,v=.slice (some ⟨g,0,none⟩) l.length m/\w.heap[g]?=some (.cells cs B fz)/\fz.2<=l.length/\cs.size=m/\l.length<=m/\m<=9223372036854775807 /\
  cs.toList.take l.length=nI l:=by
 rcases h.2 with⟨d,F⟩|⟨g,cap,A,fz,d,_,I,N,J,M,O,q⟩
 ·exact .inl ⟨d,rE F⟩
 ·exact .inr ⟨g,cap,A,fz,d,I,ab,ab,J,by unfold maxLen at M; omega,by rw[Ee]at q; exact q⟩
theorem Tj(HE:aO E)(hd:xX=false){s':BY}{b n:Nat}{p:al}{k:Nat}{q:Option (Nat × Nat)}(hH:E.H=[.dK 0 T B s])(A:Mb E T B s b n p v k q){w':be}{Y N:al}
  (hp':Y=.pointer none\/Y=.pointer (some ⟨b,0,none⟩)) (hbk:w'.heap[b]?=some (.cells #[Y,N] T (0,0))) (hown:w'.ownsRowF 0 B 1 N s'.data.toList.length (nI s'.data.toList))
  (hblk:(N.ownBlock=v.ownBlock/\uC N=uC v)\/N.ownBlock=some E.w.heap.size) (O:y4 E.w w' b v.ownBlock) :
  ∃r',aO { w:=w',H:=[.dK 0 T B s'],ad:=E.ad,X:=E.X.re r' }/\E.le { w:=w',H:=[.dK 0 T B s'],ad:=E.ad,X:=E.X.re r' }:=by
 have h0:E.H[0]?=some (.dK 0 T B s):=by rw[hH]; rfl
 have eset:E.H.set 0 (.dK 0 T B s')=[.dK 0 T B s']:=by rw[hH]; rfl
 have hos:eV E.w w':=⟨O.os,O.output,O.tape,fun ht=>by rw[hd]at ht; cases ht⟩
 have hsame:∀x,x<E.w.heap.size->(∀n,E.ad[0]?≠some (some (x,n)))->(∀(h m:Nat),(E.X.r 0)[h]?≠some (some (some (x,m))))->w'.heap[x]?=E.w.heap[x]?:=fun x d F J=>
  O.block x d (fun e=>F n (by rw[e]; exact A.ad)) fun e=>by
   rw[A.Md]at e;cases q with
   |none=>cases e
   |some gm=>
    obtain⟨g,m⟩:=gm;simp only[jl,bQ]at e;subst e;exact J k m A.Mc
 rw[<-eset];rcases hblk with⟨M,hq2⟩|U
 ·-- where it was
  refine⟨E.X.r,aO.JB HE h0 rfl rfl rfl O.size hsame (fun _ _=>rfl) (fun h b m I=>.inl I) (fun h I=>⟨I,fun _ U=>U⟩) (fun _=>?_) hos⟩;refine⟨b,n,Y,N,k,q,A.ad,hbk,hp',A.Mc,A.only,?_⟩;rcases Me hown with⟨F,J⟩|⟨g,m,cs,fz,F,J,h3,h4,h5,h6,h7⟩
  ·subst F
   rw[A.Md]at M;cases q with
   |none=>exact⟨rfl,J⟩
   |some gm=>cases M
  ·rw[A.Md]at M
   cases q with
   |none=>rw[F]at M; cases M
   |some gm=>
    obtain⟨g0,m0⟩:=gm;have hv:=A.buf.1;rw[F]at M hq2;simp only[ph,jl,bQ]at M;subst M;have:m=m0:=by rw[hv]at hq2; exact hq2
    subst this;exact⟨F,cs,fz,J,h3,h4,h5,h6,h7⟩
 ·-- in a row that is new
  rcases Me hown with⟨F,J⟩|⟨g,m,cs,fz,F,J,h3,h4,h5,h6,h7⟩
  ·rw[F]at U
   cases U
  have hg:g=E.w.heap.size:=by
   rw[F]at U;simpa[ph]using U
  have hgl:g<w'.heap.size:=(fS.1 J).1;have hkl:=bA A.Mc;have W:∀(h:Nat) x,((E.X.r 0).set k none++[some (some (g,m))])[h]?=some (some x)->h=(E.X.r 0).length/\x=some (g,m):=fun h x d=>by
   rw[List.getElem?_append]at d;split at d
   ·rename_i hlt
    rw[AK]at hlt;rw[List.getElem?_set]at d;split at d
    ·cases d
    ·rename_i hne
     exact(hne (A.only h x d).symm).elim
   ·rename_i hge
    rw[AK]at hge d;cases hz:h-(E.X.r 0).length with
    |zero=>
     rw[hz]at d;simp at d;exact⟨ab,d.symm⟩
    |succ n=>rw[hz]at d; simp at d
  refine⟨fun l=>if l=0 then (E.X.r 0).set k none++[some (some (g,m))] else E.X.r l,aO.JB HE h0 rfl rfl rfl O.size hsame (fun l hl=>iN hl) (fun h b m' I=>?_) (fun h I=>?_) (fun _=>?_) hos⟩
  ·simp only[if_true]at I |-
   obtain⟨_,h9⟩:=W h _ I;simp only[bQ,Prod.mk.injEq]at h9;obtain⟨rfl,rfl⟩:=h9;right;refine⟨ab,hgl,fun h' m'' hh'=>?_⟩;rw[(W h' _ hh').1,(W h _ I).1]
  ·simp only[if_true]
   refine⟨du,fun x d=>?_⟩;have:=(W h _ d).1;omega
  ·refine⟨b,n,Y,N,(E.X.r 0).length,some (g,m),A.ad,hbk,hp',?_,fun h' q' I=>?_,F,cs,fz,J,h3,h4,h5,h6,h7⟩
   ·simp[XS.re]
   ·exact(W h' q' (by simpa[XS.re]using I)).1
theorem aeX(a b:BY):(a++b).data.toList=a.data.toList++b.data.toList:=by simp[ByteArray.data_append]
theorem aeY(L:Lays.n166 P ρ)(X:Builder.Extra P ρ)(U:xX=false)(d r:LG)(h:Gu d=some r) :
  e_ P (ρ.f 166) (dS (cd [.dK 0 (ρ.t 72) (ρ.t 5)] d) [.s (.ptr 0 0),.s .str] (eo 1 d)) (aF (cX (cd [.dK 0 (ρ.t 72) (ρ.t 5)] d) [.dK 0 (ρ.t 72) (ρ.t 5)] d))
   (dA (dS (cd [.dK 0 (ρ.t 72) (ρ.t 5)] r) [.s .I,.s .any] (eo 1 r))) (aF (cX (cd [.dK 0 (ρ.t 72) (ρ.t 5)] r) [.dK 0 (ρ.t 72) (ρ.t 5)] r)):=by
 have W:d.headD default=gi d 0:=rfl;have Y:d.tail.headD default=gi d 1:=rfl;unfold Gu at h;cases B:bW ((gi d 0).sV.size+(gi d 1).sV.size) 140737488355328 with
 |false=>rw[B]at h; cases h
 |true=>
 rw[B]at h;cases h;have N:=lk B;intro E M hH HE g;simp only[dS,lz,fF,cX,gM,aF,eU,mo,aG.au,eo,fw.sz,Sh.sz,dA,W,Y]at hH g|-;generalize hs:(gi d 0).sV=s at *;generalize hx:(gi d 1).sV=x at *;simp only[nE,AU,G.iV,G.sV]at g|-;obtain⟨cs⟩:=M
 match cs,g with
 |[c0,c1],g=>
 simp only[aq,and_true]at g;obtain⟨h0,F⟩:=g;simp only[ae]at F;subst F;obtain⟨b,n,p,v,k,q,A⟩:=Th HE hH;have hc:=Ti hH A h0;subst hc;have hl:(nI s.data.toList).length=s.size:=by rw[vt]; exact(lS s).symm
 refine(aeU L X b p v (nI s.data.toList) x E.w A.ptr A.wF (by rw[vt]; exact A.bC) A.ne (by rw[hl]; exact N)).mono ?_;rintro e w' ⟨rfl,v',h2,J,h4,h5⟩;have hsl:=lS s;have O:=lS x;obtain⟨r',h6,h7⟩:=Tj (s':=s++x) HE U hH A (.inr rfl) h2 (by
  rw[aeX,List.length_append,show nI (s.data.toList++x.data.toList)=nI s.data.toList++Jr x by simp[nI,Jr]];rw[vt,O]at J;exact J) h4 h5
 exact⟨_,_,_,rfl,⟨rfl,rfl⟩,E.ad,r',by simp[ae,aq],h6,h7⟩
theorem aeZ(L:Lays.n169 P ρ)(X:Builder.Extra P ρ)(M:xX=false)(d r:LG)(h:Tg d=some r) :
  e_ P (ρ.f 169) (dS (cd [.dK 0 (ρ.t 72) (ρ.t 5)] d) [.s (.ptr 0 0)] (eo 1 d)) (aF (cX (cd [.dK 0 (ρ.t 72) (ρ.t 5)] d) [.dK 0 (ρ.t 72) (ρ.t 5)] d))
   (dA (dS (cd [.dK 0 (ρ.t 72) (ρ.t 5)] r) [.s .str] (eo 1 r))) (aF (cX (cd [.dK 0 (ρ.t 72) (ρ.t 5)] r) [.dK 0 (ρ.t 72) (ρ.t 5)] r)):=by
 have N:d.headD default=gi d 0:=rfl;cases h;intro E J hH HE B;simp only[dS,lz,fF,cX,gM,aF,eU,mo,aG.au,eo,fw.sz,Sh.sz,dA,N]at hH B|-;generalize hs:(gi d 0).sV=s at *;simp only[nE,AU,G.iV,G.sV]at B|-;obtain⟨cs⟩:=J
 match cs,B with
 |[c0],B=>
 simp only[aq,and_true]at B;obtain⟨b,n,p,v,k,q,A⟩:=Th HE hH;have hc:=Ti hH A B;subst hc;refine(aeV L X b p v s.data.toList E.w A.wF A.bC A.ne).mono ?_;rintro e w' ⟨rfl,O,U,W⟩;obtain⟨Y,h6,h7⟩:=Tj (s':=s) HE M hH A A.ptr O (by
  rcases Me A.bC with⟨F,I⟩|⟨g,m,cs,fz,F,I,k3,k4,k5,k6,k7⟩
  ·subst F
   rw[I];exact⟨rfl,.inl ⟨rfl,rfl⟩⟩
  ·obtain⟨fz',g1,g2⟩:=W g cs fz (by rw[F]; rfl) I k3
   have:=Tf (l:=s.data.toList) F g1 g2 k4 k5 k6 k7
   rwa [vt]at this) (.inl ⟨rfl,rfl⟩) U
 exact⟨_,_,_,rfl,⟨rfl,rfl⟩,E.ad,Y,by simp[ae],h6,h7⟩
end
end Go.AL

namespace Go.AL
open Go Go.Proofs Go.Shelf Go.RowKit
variable [Dr]
def l6(rZ:LL):List BY:=rZ.map fun r=>(gi r 0).sV
def j0(rZ:LL)(d:BY):BY:=⟨(dZ ((l6 rZ).map (·.data.toList)) d.data.toList).toArray⟩
noncomputable def y5(d:LG):Option LG:=
 bif bW (gi d 0).rZ.length 1048576&&bW (j0 (gi d 0).rZ (gi d 1).sV).size 140737488355328 then some [.s (j0 (gi d 0).rZ (gi d 1).sV)] else none
def y6(s d:BY):LL:=(El d 0 (vu s d) s).map fun b=>[G.s b]
noncomputable def Gv(d:LG):Option LG:=
 bif Nat.beq (gi d 1).sV.size 1&&((gi d 2).iV==0&&((gi d 3).iV==-1&&Nat.blt (gi d 0).sV.size 4294967281)) then some [.l (y6 (gi d 0).sV (gi d 1).sV)] else none
noncomputable def Cx(d:LG):Option LG:=
 bif bW (gi d 0).sV.size 18 then (Lib.atoi (gi d 0).sV.data.toList).map fun n=>[.i n] else none
section
variable {P:ak} {ρ:Go.Shelf.Ren}
theorem ae0{E:af}{rZ:LL}{c:al}(h:ae E (.listF [.str] rZ) c):∃bg cap,c=.slice bg rZ.length cap/\rZ.length<=cap/\(rZ=[]\/∃b o,bg=some ⟨b,o,none⟩/\E.lq b/\∀(i:Nat) x,(l6 rZ)[i]?=some x->E.w.cell? ⟨b,o+i,none⟩=some (.string x)):=by
 simp only[ae,fN]at h;obtain⟨bg,cap,rfl,A,d⟩:=h;refine⟨bg,cap,rfl,A,?_⟩;rcases d with d|⟨b,o,rfl,B,F⟩
 ·exact .inl d
 ·refine .inr ⟨b,o,rfl,B,fun i x hi=>?_⟩
  unfold l6 at hi;rw[dw]at hi;cases g:rZ[i]? with
  |none=>rw[g]at hi; cases hi
  |some r=>
   rw[g]at hi;cases hi;have:=F i r g;simp only[mY,fN,and_true]at this;obtain⟨v,q,_,I⟩:=this;have q:E.w.cell? ⟨b,o+i,none⟩=some v:=by simpa using q
   rw[q,I];cases r<;>rfl
theorem ae1(hd:xX=false)(L:Lays.n156 P ρ)(X:Builder.Extra P ρ)(d r:LG)(h:y5 d=some r) :
  e_ P (ρ.f 156) (dS [] [.s (.list [.str]),.s .str] d) [] (dA (dS [] [.s .str] r)) []:=by
 unfold y5 at h;cases B:(bW (gi d 0).rZ.length 1048576&&bW (j0 (gi d 0).rZ (gi d 1).sV).size 140737488355328)with
 |false=>rw[B]at h; cases h
 |true=>
  rw[B]at h;cases h;simp only[aR,Nat.ble_eq]at B;obtain⟨hb1,W⟩:=B;have e0:d.headD default=gi d 0:=rfl;have e1:d.tail.headD default=gi d 1:=by
   cases d with
   |nil=>rfl
   |cons x l=>cases l<;>rfl
  intro E N hH HE q;simp only[dS,lz,fF,eo,fw.sz,Sh.sz,dA,e0,e1]at q|-;generalize hrows:(gi d 0).rZ=rZ at *;generalize hsep:(gi d 1).sV=g at *;obtain⟨cs⟩:=N
  match cs,q with
  |[c0,c1],q=>
  simp only[aq,and_true]at q;obtain⟨h0,I⟩:=q;simp only[ae]at I;subst I;obtain⟨bg,cap,rfl,hc,O⟩:=ae0 h0;have U:(l6 rZ).length=rZ.length:=by simp[l6]
  have Y:(j0 rZ g).size=(dZ ((l6 rZ).map (·.data.toList)) g.data.toList).length:=by simp[j0,ByteArray.size]
  have key:Calls P (ρ.f 156) #[.slice bg rZ.length cap,.string g] E.w fun e w'=>e=.returned (.string (j0 rZ g))/\Below E.w.heap.size E.w w':=by
   rcases O with rfl|⟨b,o,rfl,aV,M⟩
   ·exact(Any.strings_Join_none L X bg cap g E.w).mono fun e w' ⟨he,hw⟩=>⟨he,hw▸Below.refl _ _⟩
   ·have:=Any.strings_Join L X b o cap (l6 rZ) g E.w M aV.1 ab ab (Nat.le_trans (Nat.le_of_eq Y.symm) W)
    rw[U]at this;exact this
  refine key.mono ?_;rintro e w' ⟨rfl,A⟩;have F:Ext E.w w':=⟨A.size,fun x hx=>A.block x hx,A.os,A.output,A.tape,fun J=>by rw[hd]at J; cases J⟩
  refine⟨_,_,_,rfl,⟨rfl,rfl⟩,E.ad,E.X.r,by simp[ae,G.sV],?_,?_⟩
  ·rw[<-hH]; exact HE.ext F
  ·rw[<-hH]; exact af.jn F
theorem ae2(L:Lays.n221 P ρ) (W:(P.info? (ρ.t 9)).map (fun i=>(i.zero,i.size,i.bytes))=some (some (.string AJ),1,16)) (d r:LG) (h:Gv d=some r) :
    e_ P (ρ.f 221) (dS [] [.s .str,.s .str,.s .I,.s .I] d) [] (dA (dS [] [.s (.list [.str])] r)) []:=by
  unfold Gv at h;cases q:(Nat.beq (gi d 1).sV.size 1&&((gi d 2).iV==0&&((gi d 3).iV==-1&&Nat.blt (gi d 0).sV.size 4294967281)))with
  |false=>rw[q]at h; cases h
  |true=>
    rw[q]at h;cases h;simp only[aR,beq_iff_eq,Nat.blt_eq]at q;obtain⟨B,Y,hb3,hb4⟩:=q;have B:=Nat.eq_of_beq_eq_true B;have e0:d.headD default=gi d 0:=rfl;have e1:d.tail.headD default=gi d 1:=by
      cases d with
      |nil=>rfl
      |cons x l=>cases l<;>rfl
    have F:d.tail.tail.headD default=gi d 2:=by
      match d with
      |[] | [_] | [_,_]|_::_::_::_=>rfl
    have e3:d.tail.tail.tail.headD default=gi d 3:=by
      match d with
      |[] | [_] | [_,_] | [_,_,_]|_::_::_::_::_=>rfl
    intro E U hH HE g;simp only[dS,lz,fF,eo,fw.sz,Sh.sz,dA,e0,e1,F,e3,Y,hb3]at g|-;generalize hs:(gi d 0).sV=s at *;generalize hsep:(gi d 1).sV=sep at *;obtain⟨cs⟩:=U
    match cs,g with
    |[c0,c1,c2,c3],g=>
    simp only[aq,ae,and_true]at g;obtain⟨rfl,rfl,rfl,rfl⟩:=g;obtain⟨c,rfl⟩:=Lib.one_byte sep B;have hle:=Lib.countB_le ⟨#[c]⟩ (bl 1) s.size s (bl _);have A:=Lib.splitB_all ⟨#[c]⟩ (bl 1) 0 _ s rfl;have hc:=Any.strings_genSplit_core L W s ⟨#[c]⟩ 0 (-1) (vu s ⟨#[c]⟩+1) E.w hb4 (bl 1) (lj _)
      (fun x cc N=>(Any.strings_Index_one { L with } x c _).mono fun e w' h=>⟨by
        rw[h.1];show _=Ending.returned (Value.int .i64 (Lib.index x.data.toList [c]))
        rw[Lib.index_one],h.2⟩)
      ((Any.strings_Count_one { L with } s c E.w).mono fun e w' ⟨he,hw⟩=>⟨by
        rw[he];show _=Ending.returned (Value.int .i64 ((Lib.count s.data.toList [c]:Nat):Int))
        rw[Lib.count_one];rfl,hw⟩) cD cD (by rw[iP cD]; omega)
    rw[Nat.add_sub_cancel,A]at hc;have F:Lib.cellsOf (El ⟨#[c]⟩ 0 (vu s ⟨#[c]⟩) s) (vu s ⟨#[c]⟩+1)=((El ⟨#[c]⟩ 0 (vu s ⟨#[c]⟩) s).map Value.string).toArray:=by rw[<-A]; exact Lib.cellsOf_full _
    rw[F]at hc;refine hc.mono ?_;rintro e w' ⟨rfl,rfl⟩;have M:Ext E.w (E.w.alloc (.cells ((El ⟨#[c]⟩ 0 (vu s ⟨#[c]⟩) s).map Value.string).toArray (ρ.t 9))):=Ext.push _ _;have O:(y6 s ⟨#[c]⟩).length=vu s ⟨#[c]⟩+1:=by simp[y6,A]
    refine⟨_,_,_,rfl,⟨rfl,rfl⟩,E.ad,E.X.r,?_,?_,?_⟩
    · simp only[ae,fN,nE,G.rZ]
      refine⟨_,_,by rw[O],by rw[O]; exact bl _,.inr ⟨E.w.heap.size,0,rfl,⟨by show _<(E.w.heap.push _).size; simp,?_,fun N=>?_⟩,fun i x hi=>?_⟩⟩
      · rintro ho
        have:=(HE.x2 ho).1;omega
      · have:=HE.X _ N
        omega
      · unfold y6 at hi
        rw[dw]at hi;cases J:(El ⟨#[c]⟩ 0 (vu s ⟨#[c]⟩) s)[i]? with
        |none=>rw[J]at hi; cases hi
        |some b=>
          rw[J]at hi;cases hi;simp only[mY,fN,nE,and_true,G.sV];refine⟨.string b,?_,rfl,rfl⟩;show s9 { E.w with heap:=E.w.heap.push _ } _=_
          unfold s9;simp[J]
    ·rw[<-hH]; exact HE.ext M
    ·rw[<-hH]; exact af.jn M
theorem ae3(L:Lays.n172 P ρ)(d r:LG)(h:Cx d=some r) :
  e_ P (ρ.f 172) (dS [] [.s .str] d) [] (dA (dS [] [.s .I,.s .BN] r)) []:=by
 unfold Cx at h;cases q:bW (gi d 0).sV.size 18 with
 |false=>rw[q]at h; cases h
 |true=>
  rw[q]at h;simp only[cT]at h;have F:d.headD default=gi d 0:=rfl;cases hn:Lib.atoi (gi d 0).sV.data.toList with
  |none=>rw[hn]at h; cases h
  |some n=>
   rw[hn]at h;cases h;intro E B hH HE g;simp only[dS,lz,fF,eo,fw.sz,Sh.sz,dA,F]at g|-;generalize hs:(gi d 0).sV=s at *;obtain⟨cs⟩:=B
   match cs,g with
   |[J],g=>
   simp only[aq,ae,and_true]at g;subst g;refine(Any.strconv_Atoi L s n (lk q) hn E.w).mono ?_;rintro e w' ⟨rfl,t,rfl⟩;have A:Ext E.w (Lib.bytesWorld E.w (ρ.t 5) t):=
    ⟨by rw[Lib.bytesWorld_size]; omega,fun b q=>Lib.bytesWorld_at_old _ _ _ b q,⟨rfl,rfl,rfl,fun _=>Nat.le_succ _⟩⟩
   refine⟨_,_,_,rfl,⟨rfl,rfl⟩,E.ad,E.X.r,by simp[ae,aq,G.iV],?_,?_⟩
   ·rw[<-hH]; exact HE.ext A
   ·rw[<-hH]; exact af.jn A
end
end Go.AL
