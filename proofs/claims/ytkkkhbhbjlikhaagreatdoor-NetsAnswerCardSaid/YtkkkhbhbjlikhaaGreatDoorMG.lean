/-
 What is proved here: the function that slices.Backward hands back,called with a round's body: the rounds come from the last row to the first one. No program in sight; no condition.
-/
import Derived.Test.YtkkkhbhbjlikhaaGreatDoorMD
import Derived.Test.YtkkkhbhbjlikhaaGreatDoorMC
import Derived.Lib.LaidTab
import Derived.Sort.Grow
import Derived.Deep.Draws
set_option linter.all false
open Array renaming getElem?_push->s_,getElem?_eq_some_iff->fS,ext'->jk
open Bool renaming and_eq_true->aR
open Go renaming Value->al,FuncId->bH,TypeId->aJ,World->be,Program->ak,Oper->aN
open Go.Deferred renaming ofValue->AQ
open Go.Exit renaming inBlock->Ed
open Go.Lib renaming TabIs->Pn
open Go.MapKept renaming heap_set->Eg
open Go.Sort renaming grow->qt
open Go.World renaming putObj_heap_other->Pg,putObj_heap_same->Eh,size_alloc->lR,alloc_heap_new->AX,var?->atF
open List renaming range->jh,getElem?_append_left->fB,getElem?_eq_getElem->bT,getD_eq_getElem?_getD->dj,mem_of_getElem?->jj,all_eq_true->eX,mem_cons->cy,getElem?_of_mem->oW,replicate->dz,range'->ka,range_eq_range'->AS,getElem_mem->nG
open List.Perm renaming refl->xT
open Nat renaming le_refl->bl,le_add_right->gk,lt_of_lt_of_le->fK,beq->aA,zero_le->lj,eq_of_beq_eq_true->cz,ble->bW,blt->fT,blt_eq->jS,le_of_ble_eq_true->lk,lt_irrefl->AW
open Option renaming isSome_iff_exists->rC,bind_some->xS
open Option.some renaming injEq->bQ
open Prod.mk renaming injEq->cr
namespace Go.AL
open Go
variable [Dr]
variable {ah bD bq br cg:Array aN} {o:aN} {s:St} {v:AV} {E E':af} {H:List ay} {X:XS} {a:Act} {f:bH} {fr:List AV} {r0 r1 r2 r3 m l:Nat} {w:be}
theorem sg{P:ak}{pf:bH->Bool}(d:o.guard=none)(hc:ef pf o.op=.read)(h:im P s.eval s.H o.op=some v):Yields P pf ah o s v s.H:=by
 unfold Yields;rw[show dq ah s.fr o=some true from by unfold dq; rw[d]];simp only[hc];exact⟨trivial,h⟩
theorem f_{P:ak}{pf:bH->Bool}(d:o.guard=none)(hc:ef pf o.op=.pure)(h:kN P s.eval o.op=some v):Yields P pf ah o s v s.H:=by
 unfold Yields;rw[show dq ah s.fr o=some true from by unfold dq; rw[d]];simp only[hc];exact⟨trivial,.inl h⟩
structure Cd (S T:aJ) (bq bD br cg:Array aN):Prop where
 r0:∃o1 o2 o3 o4 t t',bq.toList=[o1,o2,o3,o4]/\(o1.guard=none/\o1.op=.load S (.tmp 1)/\o1.dst=some 4)/\(o2.guard=none/\o2.op=.call { callee:=.builtin .len,args:=#[.tmp 4],argTypes:=#[S] }/\o2.dst=some 5) /\
  (o3.guard=none/\o3.op=.binOp .sub t (.tmp 5) (.const (.int .i64 1)) t'/\o3.dst=some 6)/\(o4.guard=none/\o4.op=.assign (.tmp 6)/\o4.dst=some 3)
 r1:∃o1 o2 t t',bD.toList=[o1,o2]/\(o1.guard=none/\o1.op=.move (.tmp 3)/\o1.dst=some 7)/\(o2.guard=none/\o2.op=.binOp .geq t (.tmp 7) (.const (.int .i64 0)) t'/\o2.dst=some 8)
 r2:∃o1 o2 o3 t t',br.toList=[o1,o2,o3]/\(o1.guard=none/\o1.op=.move (.tmp 3)/\o1.dst=some 9)/\(o2.guard=none/\o2.op=.binOp .sub t (.tmp 9) (.const (.int .i64 1)) t'/\o2.dst=some 10)/\(o3.guard=none/\o3.op=.assign (.tmp 10)/\o3.dst=some 3)
 r3:∃o1 o2 o3 o4 o5 o6 o7 o8 t fV,cg.toList=[o1,o2,o3,o4,o5,o6,o7,o8]/\(o1.guard=none/\o1.op=.move (.tmp 0)/\o1.dst=some 11)/\(o2.guard=none/\o2.op=.move (.tmp 3)/\o2.dst=some 12)/\(o3.guard=none/\o3.op=.load S (.tmp 1)/\o3.dst=some 13) /\
  (o4.guard=none/\o4.op=.move (.tmp 3)/\o4.dst=some 14)/\(o5.guard=none/\o5.op=.indexAddr S (.tmp 13) (.tmp 14)/\o5.dst=some 15)/\(o6.guard=none/\o6.op=.load T (.tmp 15)/\o6.dst=some 16) /\
  (o7.guard=none/\o7.op=.call { callee:=.value (.tmp 11),args:=#[.tmp 12,.tmp 16],argTypes:=fV }/\o7.dst=some 17)/\(o8.guard=none/\o8.op=.unOp .not t (.tmp 17)/\o8.dst=some 18)
def Ce(bq bD br cg:Array aN)(r0 r1 r2 r3 d g:Nat):Code:=
 .seq (.region r0 bq false) (.block d (.loop (.seq (.seq (.region r1 bD false) (.cond (.tmp 8) .skip (.exit d))) (.seq (.block g (.seq (.region r3 cg false) (.cond (.tmp 18) .ret .skip))) (.region r2 br false)))))
def nq(y cp:AV)(i:AV):List AV:=[y,cp,.undef,i,.undef,.undef,.undef,.undef,.undef,.undef,.undef,.undef,.undef,.undef,.undef,.undef,.undef,.undef,.undef]
structure Cf (P:ak) (S T:aJ) (sl:AV) (n:Nat) (rv:Nat->AV):Prop where
 load:∀H,iS P S (.cptr [sl]) H=some sl
 len:Bh (cZ P S) sl=some (.lit (.int .i64 (n:Nat)))
 idx:∀i:Int,0<=i->i<n->∃cells,nK (cZ P S) sl (.lit (.int .i64 i))=some (.cptr cells)/\∀H,iS P T (.cptr cells) H=some (rv i.toNat)
 cl:AV.ca [sl]=true
section bw
variable {P:ak} {pf:bH->Bool} {S T:aJ} {sl:AV} {n:Nat} {rv:Nat->AV} {bq bD br cg:Array aN}
theorem F1{E:af}:∀{as d:List AV} {g:List al},aq E as g->as.length=d.length->(∀(i:Nat) (b:AV),d[i]? = some b->b=.undef\/as[i]? = some b)->aq E d g
 |[],[],[],_,_,_=>by simp[aq]
 |[],[],_::_,h,_,_=>by simp[aq]at h
 |_::_,[],_,_,h,_=>by simp at h
 |[],_::_,_,_,h,_=>by simp at h
 |_::_,_::_,[],h,_,_=>by simp[aq]at h
 |a::as,b::d,v::g,h,q,hm=>by
  simp only[aq]at h|-;refine⟨?_,F1 h.2 (by simpa using q) fun i A B=>hm (i+1) A (by simpa using B)⟩;rcases hm 0 b rfl with rfl|e<;>grind[ae]
def af.fb(E:af):af:={ E with X:=⟨E.X.x,fun _=>False,E.X.r⟩ }
theorem wC(h:aO E.fb):iU E.fb E:=⟨rfl,rfl,bl _,fun b _ d=>⟨d,rfl⟩,h.X,rfl⟩
theorem uu{l:List Deferred}(h:lV w X l)(g:∀b,¬ X.z b):l=[]:=by
 cases l with
 |nil=>rfl
 |cons d l=>
  obtain⟨D,_,_,_,q⟩:=h.2 d List.mem_cons_self
  grind
theorem LV{J:af->Prop}(F:∀ E E',J E->E.le E'->aO E'->E'.H=E.H->J E'){id:Nat}{fr':List AV}{Q:Exit->Act->be->Prop}(hs:bM ⟨fr,E.H⟩ E.fb a)(I:J E)
  (h:fW P pf ah ah.toList ⟨fr,E.H⟩ ⟨fr',E.H⟩) (M:∀g E',J E'->bM ⟨fr',E'.H⟩ E'.fb g->Q .normal g E'.w):(Code.region id ah false).wpIn (fz none) 0 P Q a E.w:=
 Kt hs h (fun g w' hc=>by
  obtain⟨A,B,q,d⟩:=hc;exact M g { w:=w',H:=E.H,ad:=A,X:=E.X.re B } (F _ _ I ⟨d.cf,d.size,d.same,d.bC,d.live,⟨rfl,rfl⟩,d.rl,d.env⟩ (q.heap.cG (wC (E:={ w:=w',H:=E.H,ad:=A,X:=E.X.re B }) q.heap)) rfl) q) none
theorem LW{J:af->Prop}(F:∀ E E',J E->E.le E'->aO E'->E'.H=E.H->J E'){l:List aN}{k:Nat}{rest:List Nat}{fr':List AV}{Q:Exit->Act->be->Prop}
  (I:∀(j:Nat) (o:aN),l[j]?=some o->ah[k+j]?=some o) (hs:bM ⟨fr,E.H⟩ E.fb a) (M:J E)
  (h:fW P pf ah l ⟨fr,E.H⟩ ⟨fr',E.H⟩) (N:∀g E',J E'->bM ⟨fr',E'.H⟩ E'.fb g->wpOpsIn (fz none) 0 P ah Q rest g E'.w):wpOpsIn (fz none) 0 P ah Q (ka k l.length++rest) a E.w:=
 qL none l k _ _ E.fb a rest I h hs (fun g w' hc=>by
  obtain⟨A,B,q,d⟩:=hc;exact N g { w:=w',H:=E.H,ad:=A,X:=E.X.re B } (F _ _ M ⟨d.cf,d.size,d.same,d.bC,d.live,⟨rfl,rfl⟩,d.rl,d.env⟩ (q.heap.cG (wC (E:={ w:=w',H:=E.H,ad:=A,X:=E.X.re B }) q.heap)) rfl) q)
theorem LX{E E':af}:∀{fr:List AV} {d:List al},aq E fr d->(∀ b∈fr,b=.undef\/(∃ v,b=.lit v)\/∀ c,ae E b c->ae E' b c)->aq E' fr d
 |[],[],_,_=>by simp[aq]
 |[],_::_,h,_=>by simp[aq]at h
 |_::_,[],h,_=>by simp[aq]at h
 |b::fr,v::d,h,g=>by
  simp only[aq]at h|-;refine⟨?_,LX h.2 fun x q=>g x (List.mem_cons_of_mem _ q)⟩
  grind[ae]
theorem eO{l:List aN}{s':St}{d:Tmp}(h:Yields P pf ah o ⟨fr,H⟩ v H)(g:o.dst=some d)(h':fW P pf ah l ⟨fr.set d v,H⟩ s'):fW P pf ah (o::l) ⟨fr,H⟩ s':=
 ⟨v,H,h,by
  simp only[St.put,lX,g];exact h'⟩
theorem l4:fW P pf ah [] s s:=rfl
theorem Sv{t:aJ}{k:Bool}{a b:Int}(h:aM (a-b)=true):iT P .sub t k (.lit (.int .i64 a)) (.lit (.int .i64 b))=some (.lit (.int .i64 (a-b))):=by
 simp only[iT,km,if_true,nM];rw[tX h]
theorem Sw{t:aJ}{k:Bool}{a b:Int}:iT P .geq t k (.lit (.int .i64 a)) (.lit (.int .i64 b))=some (.lit (.bool (decide (a≥b)))):=by
 simp only[iT,km,if_true,nM]
theorem kC{l:List aN}(h:ah.toList=l)(i:Nat):ah[i]?=l[i]?:=by rw[<-h]; simp
theorem adP(hT:Cf P S T sl n rv){fn:Func}{b0 b1:Nat}(hf:P.funcs[f]? = some fn)(d:fn.body=some (Ce bq bD br cg r0 r1 r2 r3 b0 b1))(hn:fn.ntmps=19)(hr:fn.results=#[])(ho:Cd S T bq bD br cg)
  {l:Nat} (hlen:n<=1048576) (J:Nat->af->Prop) (M:∀k E,J k E->aO E) (F:∀k E E',J k E->E.le E'->aO E'->E'.H=E.H->J k E')
  {c:al}
  (hround:∀k E (cs:Array al),k<n->J k E->aq E [.lit (.int .i64 ((n:Int)-1-k)),rv (n-1-k)] cs.toList->YieldAt (fz none) 0 P l cs E.w fun e W'=>e=.returned (.bool true)/\∃E',E'.w=W'/\J (k+1) E'/\E.cQ E')
  {E0:af} (h0:J 0 E0) (hcp:ae E0 (.cptr [sl]) c):CallsIn (fz none) 0 P f #[.func (.yield l) #[] #[],c] E0.w fun e W'=>(∃v,e=.returned v)/\∃E',E'.w=W'/\J n E':=by
 obtain⟨o1,o2,o3,o4,t1,t2,q0,⟨g1,p1,d1⟩,⟨g2,p2,d2⟩,⟨g3,p3,d3⟩,⟨g4,p4,d4⟩⟩:=ho.r0;refine callsIn_of_wp_marks hf d trivial ?_;have hin:∀j:Int,0<=j->j<=n->aM (j-1)=true:=fun j h1 h2=>vS.2 ⟨ab,ab⟩;obtain⟨y,hy⟩:∃y:AV,y=.lit (.func (.yield l) #[] #[]):=⟨_,rfl⟩
 obtain⟨cp,W⟩:∃cp:AV,cp=.cptr [sl]:=⟨_,rfl⟩
 rw[<-W]at hcp;have hs0:bM ⟨y::cp::dz 17 .undef,E0.H⟩ E0.fb { tmps:=#[.func (.yield l) #[] #[],c]++Array.replicate (fn.ntmps-2) undef,defers:=[] }:=by
  have hE0:aO E0.fb:=(M 0 E0 h0).cG (mw (M 0 E0 h0));refine⟨rfl,?_,mr _ _,hE0⟩;rw[hn];simp only[Array.toList_append,Array.toList_replicate];show aq E0.fb ([y,cp]++dz 17 .undef) ([.func (.yield l) #[] #[],c]++dz 17 undef)
  refine mv (by simp only[aq]; exact⟨by rw[hy]; simp[ae],rY (mw (M 0 E0 h0)) _ hcp,trivial⟩) ?_;exact tQ (dz 17 undef)
 refine wpIn_seq (LV (pf:=fun _=>false) (J:=J 0) (F 0) hs0 h0 (fr':=[y,cp,.undef,.lit (.int .i64 ((n:Int)-1)),sl,.lit (.int .i64 (n:Int)),.lit (.int .i64 ((n:Int)-1)),.undef,.undef,.undef,.undef,.undef,.undef,.undef,.undef,.undef,.undef,.undef,.undef]) ?_ fun a1 E1 hj1 hs1=>?_)
 ·rw[q0]
  refine eO (v:=sl) (sg g1 (by rw[p1]; rfl) ?_) d1 (eO (v:=.lit (.int .i64 (n:Int))) (f_ g2 ?_ ?_) d2 (eO (v:=.lit (.int .i64 ((n:Int)-1))) (f_ g3 (by rw[p3]; rfl) ?_) d3
   (eO (v:=.lit (.int .i64 ((n:Int)-1))) (f_ g4 (by rw[p4]; rfl) ?_) d4 ?_)))
  ·rw[p1]
   show iS P S cp E0.H=_
   rw[W];exact hT.load _
  ·rw[p2]
   rfl
  ·rw[p2]
   show Bh (cZ P S) sl=_
   exact hT.len
  ·rw[p3]
   exact Sv (P:=P) (t:=t1) (k:=kr (Operand.tmp 5)||kr (Operand.const (.int .i64 1))) (hin (n:Int) ab ab)
  ·rw[p4]
   rfl
  ·exact l4
 have B:∀{E:af} {a:Act} {fr:List AV} {i:AV},bM ⟨fr,E.H⟩ E.fb a->fr.length=19->fr[0]?=some y->fr[1]?=some cp->fr[3]?=some i->bM ⟨nq y cp i,E.H⟩ E.fb a:=by
  intro E a fr i h h19 e0 e1 e3;refine⟨rfl,F1 h.fr (by rw[h19]; rfl) fun j b d=>?_,h.defers,h.heap⟩
  match j,d with
  |0,d=>exact .inr (by rw[e0]; exact d)
  |1,d=>exact .inr (by rw[e1]; exact d)
  |3,d=>exact .inr (by rw[e3]; exact d)
  |2,d=>exact .inl (by cases d; rfl)
  |j+4,d=>
   left;have hx:nq y cp i=[y,cp,.undef,i]++dz 15 .undef:=rfl;rw[hx,List.getElem?_append_right ai]at d;have:=jj d;exact(List.mem_replicate.1 this).2
 refine wpIn_block (wpIn_loop (fun a w=>∃ k E,E.w=w/\k<=n/\J k E/\bM ⟨nq y cp (.lit (.int .i64 ((n:Int)-1-k))),E.H⟩ E.fb a)
  (fun a _=>match a.eval (.tmp 3)with | .int _ i=>(i+1).toNat|_=>0) ⟨0,E1,rfl,lj _,hj1,B hs1 rfl rfl rfl ai⟩ ?_)
 rintro a _ ⟨k,E,rfl,hkl,hj,hs⟩;obtain⟨i1,i2,t3,t4,qq1,⟨ga1,pa1,da1⟩,⟨ga2,pa2,da2⟩⟩:=ho.r1;obtain⟨j1,j2,j3,t5,t6,qq2,⟨gb1,pb1,db1⟩,⟨gb2,pb2,db2⟩,⟨gb3,pb3,db3⟩⟩:=ho.r2;obtain⟨u1,u2,u3,u4,u5,u6,N,u8,t7,fV,Y,⟨gc1,pc1,dc1⟩,⟨gc2,pc2,dc2⟩,⟨gc3,pc3,dc3⟩,⟨gc4,pc4,dc4⟩,⟨gc5,pc5,dc5⟩,⟨gc6,pc6,dc6⟩,⟨gc7,pc7,dc7⟩,⟨gc8,pc8,dc8⟩⟩:=ho.r3;obtain⟨i,hi⟩:∃i:Int,i=(n:Int)-1-k:=⟨_,rfl⟩
 rw[<-hi]at hs;have hmu:a.eval (.tmp 3)=.int .i64 i:=by
  have:=hs.eval (.tmp 3);simpa[St.eval,nq,ae]using this
 refine wpIn_seq (wpIn_seq (LV (pf:=fun _=>false) (J:=J k) (F k) hs hj (fr':=((nq y cp (.lit (.int .i64 i))).set 7 (.lit (.int .i64 i))).set 8 (.lit (.bool (decide (i≥0))))) ?_ fun O U hj2 hs2=>?_))
 ·rw[qq1]
  refine eO (v:=.lit (.int .i64 i)) (f_ ga1 (by rw[pa1]; rfl) (by rw[pa1]; rfl)) da1 (eO (v:=.lit (.bool (decide (i≥0)))) (f_ ga2 (by rw[pa2]; rfl) ?_) da2 l4);rw[pa2];exact Sw (P:=P) (t:=t3) (k:=kr (Operand.tmp 7)||kr (Operand.const (.int .i64 0)))
 have h8:O.eval (.tmp 8)=.bool (decide (i≥0)):=by
  have:=hs2.eval (.tmp 8);simpa[St.eval,nq,ae]using this
 by_cases hi0:i≥0
 ·have hkl':k<n :=ab
  refine wpIn_cond_true (by rw[h8]; simp[hi0]) (wpIn_skip ?_);have hs2':=B hs2 rfl rfl rfl rfl;show (Code.seq _ _).wpIn (fz none) 0 P _ _ _
  refine wpIn_seq (wpIn_block (wpIn_seq (wpIn_region ?_)));obtain⟨cells,hcells,hcell2⟩:=hT.idx i hi0 ab;have hsz:cg.size=8:=by
   have:cg.toList.length=8:=by rw[Y]; rfl
   simpa using this
  rw[hsz];show wpOpsIn (fz none) 0 P cg _ (ka 0 6++[6,7]) O U.w
  have hpos:∀(j:Nat) (o:aN),[u1,u2,u3,u4,u5,u6][j]?=some o->cg[0+j]?=some o:=by
   intro j o I;rw[kC Y];have hlt:j<6:=by simpa using bA I
   rw[Nat.zero_add,show [u1,u2,u3,u4,u5,u6,N,u8]=[u1,u2,u3,u4,u5,u6]++[N,u8] from rfl,fB (by simpa using hlt)];exact I
  refine LW (pf:=fun _=>false) (J:=J k) (l:=[u1,u2,u3,u4,u5,u6]) (k:=0) (F k) hpos hs2' hj2
   (fr':=[y,cp,.undef,.lit (.int .i64 i),.undef,.undef,.undef,.undef,.undef,.undef,.undef,y,.lit (.int .i64 i),sl,.lit (.int .i64 i),.cptr (cells),rv i.toNat,.undef,.undef]) ?_ fun A g hj3 q=>?_
  ·refine eO (v:=y) (f_ gc1 (by rw [pc1]; rfl) (by rw [pc1]; rfl)) dc1 (eO (v:=.lit (.int .i64 i)) (f_ gc2 (by rw [pc2]; rfl) (by rw [pc2]; rfl)) dc2 (eO (v:=sl) (sg gc3 (by rw [pc3]; rfl) ?_) dc3
    (eO (v:=.lit (.int .i64 i)) (f_ gc4 (by rw[pc4]; rfl) (by rw[pc4]; rfl)) dc4 (eO (v:=.cptr (cells)) (f_ gc5 (by rw[pc5]; rfl) ?_) dc5 (eO (v:=rv i.toNat) (sg gc6 (by rw[pc6]; rfl) ?_) dc6 l4)))))
   ·rw[pc3]
    show iS P S cp U.H=_
    rw[W];exact hT.load _
   ·rw[pc5]
    exact hcells
   ·rw[pc6]
    exact hcell2 U.H
  ·have h11:A.eval (.tmp 11)=.func (.yield l) #[] #[]:=by
    have:=q.eval (.tmp 11);rw[show St.eval _ (.tmp 11)=y from rfl,hy]at this;simpa only[ae]using this
   have hin2:i.toNat=n-1-k:=ab;have hE3:iU g.fb g:=wC q.heap;have hrel:aq g [.lit (.int .i64 ((n:Int)-1-k)),rv (n-1-k)] (#[A.eval (.tmp 12),A.eval (.tmp 16)]:Array al).toList:=by
    rw[<-hi,<-hin2];simp only[aq];exact⟨rY hE3 _ (q.eval (.tmp 12)),rY hE3 _ (q.eval (.tmp 16)),trivial⟩
   obtain⟨fn',tmps',asg,bod,hy1,hR⟩:=hround k g _ hkl' hj3 hrel;rw[wpOpsIn_cons];unfold wpOpIn;have h6:cg[6]?=some N:=by rw[kC Y]; rfl
   simp only[h6];rw[iP (by simp[Region.wanted,gc7])];refine⟨fun _ _=>trivial,?_⟩;rw[Oper.semAt_eq _ _ _ (fun c e=>by rw[pc7]at e; cases e)];have hrun:(execOp A.eval N).run P g.w=.ok (.round l fn' tmps' asg bod) g.w:=by
    obtain⟨dst,op,type,pos,after,guard⟩:=N;simp only[]at pc7;subst pc7;simp[execOp,resolve,h11,AQ,invoke,hy1]
   rw[hrun,Oper.uponIn_round];refine⟨fun h=>(by cases h),hR.mono ?_⟩;rintro e _ ⟨rfl,E',rfl,hj',hleC⟩;show wpOpsIn (fz none) 0 P cg _ (ka 7 1++[]) _ E'.w
   rw[dc7];have hd3:A.defers=[]:=uu q.defers fun _ h=>h;have hp:=(B q rfl rfl rfl rfl).kU 17 (v:=.lit (.bool true)) (u:=.bool true) (by simp[ae]);have hE':aO E'.fb:=(M (k+1) E' hj').cG (mw (M (k+1) E' hj'));have hs4:bM ⟨(nq y cp (.lit (.int .i64 i))).set 17 (.lit (.bool true)),E'.H⟩ E'.fb (A.put (some 17) (.bool true)):=by
    refine⟨rfl,LX hp.fr fun b d=>?_,?_,hE'⟩
    ·have d:b∈(nq y cp (.lit (.int .i64 i))).set 17 (.lit (.bool true)):=d
     rcases List.mem_or_eq_of_mem_set d with d|rfl
     ·simp only[nq,cy,List.not_mem_nil,or_false]at d
      rcases d with rfl|rfl|rfl|rfl|d
      ·exact .inr (.inl ⟨_,hy⟩)
      ·refine .inr (.inr fun c' h=>?_)
       rw[W]at h|-;exact fD (E:=g.fb) (E':=E'.fb) ⟨fun b d=>hleC.ok b d⟩ _ (by simp[AV.closed]) h
      ·exact .inl rfl
      ·exact .inr (.inl ⟨_,rfl⟩)
      ·left
       rcases d with rfl|rfl|rfl|rfl|rfl|rfl|rfl|rfl|rfl|rfl|rfl|rfl|rfl|rfl|rfl<;>rfl
     ·exact .inr (.inl ⟨_,rfl⟩)
    ·rw[put_defers,hd3]
     exact mr _ _
   refine LW (pf:=fun _=>false) (J:=J (k+1)) (l:=[u8]) (k:=7) (F (k+1)) ?_ hs4 hj' (fr':=((nq y cp (.lit (.int .i64 i))).set 17 (.lit (.bool true))).set 18 (.lit (.bool false))) ?_ fun a5 E5 hj5 hs5=>?_
   ·intro j o I
    have hlt:j<1:=by simpa using bA I
    have:j=0:=ab;subst this;rw[kC Y];exact I
   ·exact eO (v:=.lit (.bool false)) (f_ gc8 (by rw[pc8]; rfl) (by rw[pc8]; rfl)) dc8 l4
   ·show (Code.cond _ _ _).wpIn (fz none) 0 P _ _ _
    have h18:a5.eval (.tmp 18)=.bool false:=by
     have:=hs5.eval (.tmp 18);simpa[St.eval,nq,ae]using this
    refine wpIn_cond_false h18 (wpIn_skip ?_);show (Code.region _ _ _).wpIn (fz none) 0 P _ _ _
    refine LV (pf:=fun _=>false) (J:=J (k+1)) (F (k+1)) (B hs5 rfl rfl rfl rfl) hj5 (fr':=(((nq y cp (.lit (.int .i64 i))).set 9 (.lit (.int .i64 i))).set 10 (.lit (.int .i64 (i-1)))).set 3 (.lit (.int .i64 (i-1)))) ?_ fun a6 E6 hj6 hs6=>?_
    ·rw[qq2]
     refine eO (v:=.lit (.int .i64 i)) (f_ gb1 (by rw[pb1]; rfl) (by rw[pb1]; rfl)) db1 (eO (v:=.lit (.int .i64 (i-1))) (f_ gb2 (by rw[pb2]; rfl) ?_) db2 (eO (v:=.lit (.int .i64 (i-1))) (f_ gb3 (by rw[pb3]; rfl) (by rw[pb3]; rfl)) db3 l4));rw[pb2];exact Sv (P:=P) (t:=t5) (k:=kr (Operand.tmp 9)||kr (Operand.const (.int .i64 1))) (hin i hi0 ab)
    ·have h3:a6.eval (.tmp 3)=.int .i64 (i-1):=by
      have:=hs6.eval (.tmp 3);simpa[St.eval,nq,ae]using this
     have e6:i-1=(n:Int)-1-((k+1:Nat):Int):=ab;refine⟨⟨k+1,E6,rfl,ab,hj6,?_⟩,?_⟩
     ·rw[<- e6]
      exact B hs6 rfl rfl rfl rfl
     ·rw[h3,hmu]
      show (i-1+1).toNat<(i+1).toNat
      omega
 ·refine wpIn_cond_false (by rw[h8]; simp[hi0]) (wpIn_exit ?_)
  simp only[Exit.then,Ed,if_true];have hd:O.defers=[]:=uu hs2.defers fun _ h=>h;have hk:k=n:=ab;subst hk;show LeavesInM (fz none) 0 P fn O.tmps _ O.defers .returning U.w
  rw[hd];refine⟨.tuple #[],?_,⟨_,rfl⟩,U,rfl,hj2⟩;rw[vO,hr];simp
end bw
mutual
def qN(m:Nat):AV->Bool
 |.agg cs=>kY m cs
 |.tuple cs=>kY m cs
 |.clo _ cs=>kY m cs
 |.ptr id ax _ _ _=>fT id m&&aA ax 0
 |.vQ _ id ax _ _=>fT id m&&aA ax 0
 |.map id=>fT id m
 |_=>true
def kY(m:Nat):List AV->Bool
 |[]=>true
 |a::as=>qN m a&&kY m as
end
mutual
theorem Sx{E E':af}{m:Nat}(h:E.dO m E'):∀(a:AV) {c:al},qN m a=true->ae E a c->ae E' a c
 |.undef,_,_,_=>by simp[ae]
 |.lit v,c,_,hr=>by simpa only[ae]using hr
 |.nils,c,_,hr=>by simpa only[ae]using hr
 |.list k rZ,c,_,hr=>fD (wB h) _ (by simp[AV.closed]) hr
 |.listF ks rZ,c,_,hr=>fD (wB h) _ (by simp[AV.closed]) hr
 |.agg cells,c,d,hr=>by
  simp only[ae]at hr|-;obtain⟨cs,e,A,g⟩:=hr;exact⟨cs,e,A,sk h cells (by simpa only[qN]using d) g⟩
 |.tuple cells,c,d,hr=>by
  simp only[ae]at hr|-;obtain⟨cs,e,g⟩:=hr;exact⟨cs,e,sk h cells (by simpa only[qN]using d) g⟩
 |.cptr cells,c,_,hr=>fD (wB h) _ (by simp[AV.closed]) hr
 |.ptr id ax k row N,c,d,hr=>by
  simp only[qN,aR,jS]at d;obtain⟨A,g⟩:=d;have g:=cz g;subst g;simp only[ae]at hr|-;obtain⟨B,q,F⟩:=hr;refine⟨B,h.cf id A q,fun I=>?_⟩;obtain⟨J,M⟩:=h.live id A q I;rw[M];exact F J
 |.vQ k id ax oF n,c,d,hr=>by
  simp only[qN,aR,jS]at d;obtain⟨A,g⟩:=d;have g:=cz g;subst g;simp only[ae]at hr|-;obtain⟨B,q,F⟩:=hr;refine⟨B,h.cf id A q,fun I=>?_⟩;obtain⟨J,M⟩:=h.live id A q I;rw[M];exact F J
 |.map id,c,d,hr=>by
  simp only[qN,jS]at d;simp only[ae]at hr|-;obtain⟨B,q,F⟩:=hr;refine⟨B,h.cf id d q,fun I=>?_⟩;obtain⟨J,M⟩:=h.live id d q I;rw[M];exact F J
 |.clo f caps,c,d,hr=>by
  simp only[ae]at hr|-;obtain⟨cs,e,g⟩:=hr;exact⟨cs,e,sk h caps (by simpa only[qN]using d) g⟩
 |.ifc,c,_,hr=>by simpa only[ae]using hr
 |.emptyS n,c,_,hr=>by simpa only[ae]using hr
theorem sk{E E':af}{m:Nat}(h:E.dO m E'):∀(as:List AV) {d:List al},kY m as=true->aq E as d->aq E' as d
 |[],[],_,_=>by simp[aq]
 |[],_::_,_,hr=>by simp[aq]at hr
 |_::_,[],_,hr=>by simp[aq]at hr
 |a::as,v::d,g,hr=>by
  simp only[kY,aR]at g;simp only[aq]at hr|-;exact⟨Sx h a g.1 hr.1,sk h as g.2 hr.2⟩
end
theorem af.dO.mono{m':Nat}(h:E.dO m' E')(hm:m<=m'):E.dO m E':=
 ⟨fun id hi=>h.cf id ab,h.size,h.same,h.bC,fun id hi=>h.live id ab,h.X,h.rl,h.env⟩
structure af.oq (m l:Nat) (E E':af):Prop where
 cf:∀id,id<m->E.cf id 0->E'.cf id 0
 size:E.w.heap.size<=E'.w.heap.size
 same:∀b,b<E.w.heap.size->¬ E.bC b->b≠l->E'.w.heap[b]?=E.w.heap[b]?
 bC:∀b,b<E.w.heap.size->¬ E.bC b->¬ E'.bC b
 live:∀id,id<m->E.cf id 0->E'.live id 0->E.live id 0/\E'.ad[id]?=E.ad[id]?
 X:∀b,b<E.w.heap.size->(E'.X b↔E.X b)/\(E'.X.z b↔E.X.z b)
 rl:∀l h,h<(E.X.r l).length->h<(E'.X.r l).length/\∀q,(E'.X.r l)[h]?=some (some q)->(E.X.r l)[h]?=some (some q)
 env:eV E.w E'.w
theorem af.dO.toX(h:E.dO m E'):E.oq m l E':=⟨h.cf,h.size,fun b d g _=>h.same b d g,h.bC,h.live,h.X,h.rl,h.env⟩
theorem af.oq.trans{m l:Nat}{E E' M:af}(h:E.oq m l E')(h':E'.oq m l M):E.oq m l M where
 cf:=fun id hi W=>h'.cf id hi (h.cf id hi W)
 size:=Nat.le_trans h.size h'.size
 same:=fun b d g A=>by rw[h'.same b (fK d h.size) (h.bC b d g) A,h.same b d g A]
 bC:=fun b d g=>h'.bC b (fK d h.size) (h.bC b d g)
 live:=fun id hi N A=>by
  obtain⟨B,F⟩:=h'.live id hi (h.cf id hi N) A;obtain⟨I,J⟩:=h.live id hi N B;exact⟨I,by rw[F,J]⟩
 X:=fun b d=>by
  have O:=h'.X b (fK d h.size);have U:=h.X b d;exact⟨O.1.trans U.1,O.2.trans U.2⟩
 rl:=fun l i hi=>by
  obtain⟨B,F⟩:=h.rl l i hi;obtain⟨I,J⟩:=h'.rl l i B;exact⟨I,fun q Y=>F q (J q Y)⟩
 env:=h.env.trans h'.env
theorem af.oq.toM(h:E.oq m l E')(g:l<E.w.heap.size->E'.w.heap[l]?=E.w.heap[l]?):E.dO m E':=
 ⟨h.cf,h.size,fun b d q=>by
  by_cases e:b=l
  ·subst e
   exact g d
  ·exact h.same b d q e,h.bC,h.live,h.X,h.rl,h.env⟩
theorem sn{w:be}{ad:List (Option (Nat × Nat))}{o:Obj}(g:X l)(HE:aO { w:=w,H:=H,ad:=ad,X:=X }):
  iU { w:=w,H:=H,ad:=ad,X:=X } { w:=w.putObj l o,H:=H,ad:=ad,X:=X }:=
 ⟨rfl,rfl,ai,fun b _ d=>⟨d,Pg fun e=>d (by rw[e]; exact g)⟩,fun b q=>by
  have:=HE.X b q
  simp_all,rfl⟩
theorem sq{ad:List (Option (Nat × Nat))}{o:Obj}:({ w:=w,H:=H,ad:=ad,X:=X }:af).oq m l { w:=w.putObj l o,H:=H,ad:=ad,X:=X }:=
 ⟨fun _ _ h=>h,ai,fun b _ _ h=>Pg h,fun _ _ h=>h,fun _ _ _ h=>⟨h,rfl⟩,fun _ _=>⟨Iff.rfl,Iff.rfl⟩,fun _ _ h=>⟨h,fun _ d=>d⟩,⟨rfl,rfl,rfl,by first|exact fun _=>bl _|exact fun _=>gk _ _⟩⟩
theorem yO{r:Loop}{o:Obj}{g:List Deferred}(h:lV w X g)(A:w.heap[l]?=some (.loop r)):lV (w.putObj l o) X g:=
 ⟨h.1,fun d q=>by
  obtain⟨D,e,B,F,I⟩:=h.2 d q
  grind[Pg]⟩
structure Cg (P:ak) (m:Nat) (n:Nat) (rv:Nat->AV) (p0 p1:Tmp) (assign body:Code) (S:Nat->St):Prop where
 na:fk assign=true
 nb:fk body=true
 fix:∀k,k<n->kY m (S k).fr=true
 round:∀k,k<n->∃s1 s2,c_ P m assign ⟨((S k).fr.set p0 (.lit (.int .i64 ((n:Int)-1-k)))).set p1 (rv (n-1-k)),(S k).H⟩ .normal s1/\c_ P m body s1 .normal s2/\cV m ⟨(S k).fr,s2.H⟩ (S (k+1))
section bw
variable {P:ak} {m':Nat} {n:Nat} {rv:Nat->AV} {p0 p1:Tmp} {assign body:Code} {S:Nat->St}
theorem adQ(hr:Cg P m' n rv p0 p1 assign body S){k:Nat}(hk:k<n){fn:bH}{D:Nat}{tmps:Array al}(htm:tmps=a.tmps)(hs:bM (S k) E a)(hX:E.X l)
  (M:E.w.heap[l]?=some (.loop { state:=.ready,pending:=none,fn,tmps,params:=#[p0,p1],assign,body,defers:=D })) {cs:Array al} (hc:aq E [.lit (.int .i64 ((n:Int)-1-k)),rv (n-1-k)] cs.toList) :
  YieldAt (fz none) 0 P l cs E.w fun e W'=>e=.returned (.bool true)/\∃E',E'.w=W'/\bM (S (k+1)) E' a/\E.dO m' E'/\E'.X l /\
   E'.w.heap[l]?=some (.loop { state:=.ready,pending:=none,fn,tmps,params:=#[p0,p1],assign,body,defers:=D }):=by
 obtain⟨s1,s2,hA,hB,hle⟩:=hr.round k hk;obtain⟨g,q,rfl⟩:∃g q,cs=#[g,q]:=by
  have:=il hc
  match h:cs.toList,this with
  |[g,q],_=>exact⟨g,q,jk (by simpa using h)⟩
 simp only[aq]at hc;obtain⟨hc0,hc1,_⟩:=hc;refine⟨_,_,_,_,run_yield M ai,roundIn_of_wpIn (F:=fz none) trivial ?_⟩;have Y:l<E.w.heap.size:=(fS.1 M).1;have hs0:bM ⟨((S k).fr.set p0 (.lit (.int .i64 ((n:Int)-1-k)))).set p1 (rv (n-1-k)),(S k).H⟩ E { tmps:=(a.tmps.setIfInBounds p0 g).setIfInBounds p1 q,defers:=[] }:=by
  refine⟨hs.H,?_,mr _ _,hs.heap⟩;simp only[Array.toList_setIfInBounds];exact yn p1 (yn p0 hs.fr hc0) hc1
 have e0:((#[p0,p1]:Array Tmp).zip #[g,q]).foldl (fun tmps (t,a)=>tmps.setIfInBounds t a) tmps=(a.tmps.setIfInBounds p0 g).setIfInBounds p1 q:=by
  rw[htm];simp[<-Array.foldl_toList]
 rw[e0];refine wpIn_mono (hA (some l) (.inr hr.na) E _ hs0) fun e a1 A ⟨he,loc1,X1,hs1,I⟩=>?_;subst he;have hno:¬ E.bC l:=hs.heap.kh hX;have hl1:A.heap[l]?=some (.loop { state:=.ready,pending:=none,fn,tmps,params:=#[p0,p1],assign,body,defers:=D }):=by rw[I.same l Y hno]; exact M
 have hX1:X1 l:=(I.X l Y).1.2 hX;have U:l<A.heap.size:=(fS.1 hl1).1;refine⟨_,run_beginRound hl1 rfl,?_⟩;have hs1':=hs1.cG (sn (o:=.loop { state:=.busy,pending:=none,fn,tmps,params:=#[p0,p1],assign,body,defers:=D }) hX1 hs1.heap) (yO hs1.defers hl1);refine wpIn_mono (hB (some l) (.inr hr.nb) _ a1 hs1') fun e a2 w3 ⟨he,jY,N,hs2,W⟩=>?_;subst he;have hno1:¬ af.bC { w:=A,H:=s1.H,ad:=loc1,X:=X1 } l:=I.bC l Y hno;have hl3:w3.heap[l]?=some (.loop { state:=.busy,pending:=none,fn,tmps,params:=#[p0,p1],assign,body,defers:=D }):=by
  rw[W.same l (by show l<(A.putObj _ _).heap.size; simpa using U) hno1];exact Eh U
 have hX2:N l:=(W.X l (by show l<(A.putObj _ _).heap.size; simpa using U)).1.2 hX1;have hlt3:l<w3.heap.size:=(fS.1 hl3).1;refine⟨_,_,run_endRound (P:=P) none hl3,rfl,?_⟩;obtain⟨d,J⟩:∃d,w3.putObj l (.loop { state:=.ready,pending:=none,fn,tmps,params:=#[p0,p1],assign,body,defers:=D })=d:=⟨_,rfl⟩
 have hl4:d.heap[l]?=some (.loop { state:=.ready,pending:=none,fn,tmps,params:=#[p0,p1],assign,body,defers:=D }):=by
  rw[<-J];exact Eh hlt3
 have O:E.dO m' { w:=d,H:=s2.H,ad:=jY,X:=N }:=by
  refine af.oq.toM (l:=l) (I.toX.trans (sq.trans (W.toX.trans ?_))) (fun _=>by rw[show af.w _=d from rfl,hl4,M]);rw[<-J];exact sq
 have hR4:aO { w:=d,H:=s2.H,ad:=jY,X:=N }:=by
  rw[<-J];exact hs2.heap.cG (sn hX2 hs2.heap)
 have hsr:bM ⟨(S k).fr,s2.H⟩ { w:=d,H:=s2.H,ad:=jY,X:=N } a:=by
  refine⟨rfl,sk O _ (hr.fix k hk) hs.fr,tv hs.defers (fun b B h2=>?_) (fun b B _=>O.same b (hs.heap.X b B) (hs.heap.kh B)),hR4⟩;have:=O.X b (hs.heap.X b B);exact⟨this.1.2 B,this.2.2 h2⟩
 obtain⟨loc7,X7,hs7,hle7⟩:=hle _ a hsr;refine⟨{ w:=d,H:=(S (k+1)).H,ad:=loc7,X:=X7 },?_,hs7,O.trans hle7,(hle7.X l (by show l<d.heap.size; exact(fS.1 hl4).1)).1.2 hX2,hl4⟩;rw[<-J];rfl
theorem adR{T1 T2:aJ}{sl:AV}(hT:Cf P T1 T2 sl n rv){fd:Func}{b0 b1:Nat}(hf:P.funcs[f]? = some fd)(hbd:eC P f=true)(B:fd.body=some (Ce bq bD br cg r0 r1 r2 r3 b0 b1))(hn:fd.ntmps=19)(hre:fd.results=#[])(U:Cd T1 T2 bq bD br cg)
  (hlen:n<=1048576) (hmm:m<=m') (hr:Cg P m' n rv p0 p1 assign body S) {g:Tmp} {s:St} {id wd:Nat} (hg:s.eval (.tmp g)=.clo f [.ptr id 0 wd 0 0]) (hid:s.H[id]?=some (.box [sl])) (h0:cV m ⟨s.fr,s.H.set id .dead⟩ (S 0))
  (E:af) (a:Act) (hs:bM s E a):(Code.rangeFunc (.tmp g) #[p0,p1] assign body).wpIn (fz none) 0 P (fun e a1 A=>e=.normal/\eG m E (S n) a1 A) a E.w:=by
 have hgv:=hs.eval (.tmp g);rw[hg]at hgv;simp only[ae]at hgv;obtain⟨cs,hgv,hcs⟩:=hgv;obtain⟨c,rfl⟩:∃c,cs=#[c]:=by
  have:=il hcs
  match h:cs.toList,this with
  |[c],_=>exact⟨c,jk (by simpa using h)⟩
 simp only[aq,ae]at hcs;obtain⟨⟨⟨bc,oc,hc0⟩,_,hlive⟩,_⟩:=hcs;have hidE:E.H[id]?=some (.box [sl]):=by rw[hs.H]; exact hid
 obtain⟨bb,nn,Y,hcv⟩:=hlive ⟨_,hidE,rfl⟩;obtain⟨D,hD⟩:∃D,E.w.heap.size=D:=⟨_,rfl⟩
 have hobj:=hs.heap.obj id _ hidE;simp only[bK]at hobj;obtain⟨b',n',hloc',hrow,hcells⟩:=hobj;rw[Y]at hloc';obtain⟨rfl,rfl⟩:bb=b'/\nn=n':=by
  have h:=hloc';simp only[bQ,cr]at h;exact h
 have J:=af.x5 hs.heap id;have hdr:=aO.drop hs.heap id fun o U=>by
  rw[hidE]at U;cases U;rfl
 have hcp0:ae { w:=E.w,H:=E.H.set id .dead,ad:=E.ad.set id none,X:=E.X } (.cptr [sl]) c:=by
  simp only[ae];refine⟨hT.cl,bb,0,by simpa using hcv,⟨(hs.heap.lt id bb nn Y).1,?_,(hs.heap.lt id bb nn Y).2⟩,A2 (E:=E) (fun a c h=>dW J a h) rfl hcells⟩;rintro(⟨j,q,M⟩|⟨l,k,q,M⟩)
  case inr=>exact hs.heap.eY _ _ _ _ _ _ Y M
  simp only[List.getElem?_set]at M;split at M
  ·split at M<;>cases M
  ·rename_i hne
   exact hne (hs.heap.inj _ _ _ _ _ Y M)
 refine wpIn_rangeFunc ?_;intro fn _;obtain⟨rec,O⟩:∃rec:Loop,rec={ state:=.ready,pending:=none,fn,tmps:=a.tmps,params:=#[p0,p1],assign,body,defers:=D }:=⟨_,rfl⟩
 obtain⟨A,hw1⟩:∃A,(E.w.alloc (.deferred (some []))).alloc (.loop rec)=A:=⟨_,rfl⟩
 have hsz:A.heap.size=D+2:=by rw[<-hw1,lR,lR,hD]
 have hl1:A.heap[D+1]?=some (.loop rec):=by
  rw[<-hw1];have:=AX (E.w.alloc (.deferred (some []))) (.loop rec)
  rwa [lR,hD]at this
 have hold2:∀b,b<D+1->A.heap[b]?=(E.w.alloc (.deferred (some []))).heap[b]?:=fun b B=>by
  rw[<-hw1];show ((E.w.alloc (.deferred (some []))).heap.push _)[b]?=_
  rw[s_,iN (by rw[lR,hD]; omega)]
 have hD1:A.heap[D]?=some (.deferred (some [])):=by
  rw[hold2 D ab];have:=AX E.w (.deferred (some []))
  rwa [hD]at this
 have hold:∀b,b<D->A.heap[b]?=E.w.heap[b]?:=fun b B=>by
  rw[hold2 b ab];show (E.w.heap.push _)[b]?=_
  rw[s_,iN ab]
 have hos:eV E.w A:=by rw[<-hw1]; exact⟨rfl,rfl,rfl,by first|exact fun _=>bl _|exact fun _=>gk _ _⟩
 obtain⟨I,F⟩:∃I:XS,I=⟨fun b=>E.X b\/b=D\/b=D+1,fun b=>E.X.z b\/b=D,E.X.r⟩:=⟨_,rfl⟩
 obtain⟨mk,hmk⟩:∃mk:Deferred,mk={ target:=.collected D,args:=#[] }:=⟨_,rfl⟩
 have cG:iU { w:=E.w,H:=E.H.set id .dead,ad:=E.ad.set id none,X:=E.X } { w:=A,H:=E.H.set id .dead,ad:=E.ad.set id none,X:=I }:=
  ⟨rfl,rfl,by show E.w.heap.size<=A.heap.size; omega,fun b B hx=>by
   have B:b<D:=by rw[<-hD]; exact B
   refine⟨fun h=>?_,hold b B⟩;rw[F]at h;rcases h with h|h|h
   ·exact hx h
   ·omega
   ·omega,fun b B=>by
   show b<A.heap.size
   rw[F]at B;rcases B with h|h|h
   ·have:=hs.heap.X b h
    omega
   ·omega
   ·omega,by show I.r=E.X.r; rw[F]⟩
 have hs2:bM ⟨s.fr,s.H.set id .dead⟩ { w:=A,H:=E.H.set id .dead,ad:=E.ad.set id none,X:=I } { a with defers:=mk::a.defers }:=by
  refine⟨by rw[hs.H],nf cG _ (gJ J _ hs.fr),⟨?_,fun d J=>?_⟩,hdr.cG cG⟩
  ·refine List.nodup_cons.2 ⟨fun h=>?_,hs.defers.1⟩
   obtain⟨W,e,h1,h2,_⟩:=hs.defers.2 mk h;have:=hs.heap.X W h2;rw[hmk]at e;have e:D=W:=by
    have e:=congrArg Deferred.target e;simpa using e
   omega
  ·rcases cy.1 J with rfl | J
   ·exact⟨D,hmk,hD1,by rw[F]; exact .inr (.inl rfl),by rw[F]; exact .inr rfl⟩
   ·obtain⟨W,e,h1,h2,h3⟩:=hs.defers.2 d J
    have:=hs.heap.X W h2;exact⟨W,e,by rw[show af.w _=A from rfl,hold W ab]; exact h1,by rw[F]; exact .inl h2,by rw[F]; exact .inl h3⟩
 have hle2:E.dO m { w:=A,H:=E.H.set id .dead,ad:=E.ad.set id none,X:=I }:=by
  refine J.toM.trans ⟨fun _ _ h=>h,by show E.w.heap.size<=A.heap.size; omega,fun b B _=>hold b (by rw[<-hD]; exact B),fun b _ h U=>h ((cG.bC b).1 U),fun _ _ _ h=>⟨h,rfl⟩,fun b B=>?_,fun l h hh=>by show h<(I.r l).length/\_; rw[F]; exact⟨hh,fun _ hq=>hq⟩,hos⟩;have B:b<D:=by rw[<-hD]; exact B
  show (I b↔E.X b)/\(I.z b↔E.X.z b)
  rw[F];exact⟨⟨fun h=>by rcases h with h|h|h; exact h; omega; omega,.inl⟩,⟨fun h=>by rcases h with h|h; exact h; omega,.inl⟩⟩
 obtain⟨oh,X3,hs3,hle3⟩:=h0 _ _ hs2;have hX3:X3 (D+1):=(hle3.X (D+1) (by show D+1<A.heap.size; omega)).1.2 (by show I (D+1); rw[F]; exact .inr (.inr rfl));have hcp3:ae { w:=A,H:=(S 0).H,ad:=oh,X:=X3 } (.cptr [sl]) c:=fD (wB hle3) _ (by simp[AV.closed]) (fD cG.toC _ (by simp[AV.closed]) hcp0);refine⟨D+1,[mk],A,{ target:=.fn (.func f) #[c],args:=#[.func (.yield (D+1)) #[] #[]] },A,f,#[.func (.yield (D+1)) #[] #[],c],A,?_,?_,fun _ _=>trivial,?_,fun h=>(by cases h),?_⟩
 ·rw[<- hw1,O,hmk,<- hD]
  exact run_enterLoop_outer _ _ _ _ _
 ·have hcst:a.eval (.const (.func (.yield (D+1)) #[] #[]))=.func (.yield (D+1)) #[] #[]:=rfl
  simp[resolve,hgv,hcst,AQ]
 ·simp[invoke,vJ hbd]
 ·have hcall:=adP (P:=P) hT hf B hn hre U (l:=D+1) hlen (fun k E'=>bM (S k) E' { a with defers:=mk::a.defers }/\E.dO m E'/\E'.X (D+1)/\E'.w.heap[D+1]? = some (.loop rec)) (fun k E' h=>h.1.heap)
   (fun k E1 E2 h hle hR hH=>?_) (c:=c) (fun k E' cs hk h hc=>?_) (E0:={ w:=A,H:=(S 0).H,ad:=oh,X:=X3 }) ⟨hs3,hle2.trans hle3,hX3,hl1⟩ hcp3
  ·refine hcall.mono fun e w3 ⟨⟨v,hv⟩,E4,hw4,hs4,hle4,hX4,hl4⟩=>?_
   subst hv;subst hw4;obtain⟨w4,H4,loc4,X4⟩:=E4;have hH4:H4=(S n).H:=hs4.H;subst hH4;have hend:=run_endLoop (P:=P) hl4 (by rw[O]; simp);refine⟨_,_,hend,?_⟩;rw[O];refine⟨rfl,loc4,X4,?_,?_⟩
   ·rw[<- O]
    exact hs4.cG (sn hX4 hs4.heap) (yO hs4.defers hl4)
   ·exact(hle4.toX.trans sq).toM (l:=D+1) (fun h=>absurd h ab)
  ·obtain⟨N,g2,g3,g4⟩:=h
   have hlt:D+1<E1.w.heap.size:=(fS.1 g4).1;refine⟨⟨by rw[hH]; exact N.H,gJ hle _ N.fr,x8 N.heap hle N.defers,hR⟩,g2.trans hle.toM,by rw[hle.X.1]; exact g3,?_⟩;rw[hle.same (D+1) hlt (N.heap.kh g3)];exact g4
  ·obtain⟨N,g2,g3,g4⟩:=h
   rw[O]at g4;obtain⟨fn',tm,as,bo,k1,k2⟩:=adQ hr hk rfl N g3 g4 hc;refine⟨fn',tm,as,bo,k1,k2.mono fun e W' ⟨he,E'',hw,q1,q2,q3,q4⟩=>⟨he,E'',hw,⟨q1,g2.trans (q2.mono hmm),q3,by rw[O]; exact q4⟩,wB q2⟩⟩
end bw
variable {P:ak}
theorem Sy{m' n:Nat}{rv:Nat->AV}{p0 p1:Tmp}{assign body:Code}{S:Nat->St}{T1 T2:aJ}{sl:AV}(M:Cf P T1 T2 sl n rv){d:Func}{N O:Nat}(U:P.funcs[f]? = some d)(A:eC P f=true)
  (W:d.body=some (Ce bq bD br cg r0 r1 r2 r3 N O)) (hn:d.ntmps=19) (B:d.results=#[]) (Y:Cd T1 T2 bq bD br cg)
  (q:n<=1048576) (F:m<=m') (hr:Cg P m' n rv p0 p1 assign body S) {g:Tmp} {s:St} {id wd:Nat} (hg:s.eval (.tmp g)=.clo f [.ptr id 0 wd 0 0]) (I:s.H[id]?=some (.box [sl])) (h0:cV m ⟨s.fr,s.H.set id .dead⟩ (S 0)) :
  c_ P m (.rangeFunc (.tmp g) #[p0,p1] assign body) s .normal (S n):=fun ro J E a hs=>by
 obtain rfl:ro=none:=J.resolve_right (by simp[fk]);exact wpIn_mono (adR M U A W hn B Y q F hr hg I h0 E a hs) fun e a1 w1 ⟨he,h⟩=>⟨he,h⟩
structure mI where
 f:bH
 T1:aJ
 T2:aJ
 w:Nat
 pw:Nat
 agg:Bool
def uv(P:ak)(i:mI):Prop:=∃d bq bD br cg r0 r1 r2 r3 g q e b,P.funcs[i.f]?=some d/\eC P i.f=true/\d.body=some (Ce bq bD br cg r0 r1 r2 r3 g q)/\d.ntmps=19/\d.results=#[]/\Cd i.T1 i.T2 bq bD br cg /\
 fj P i.T1=some (1,false)/\cZ P i.T1=.slice e i.w b/\fj P i.T2=some (i.pw,i.agg)
def qO(agg:Bool)(w:Nat)(row:List AV):AV:=(jo agg w row).getD .undef
variable {i:mI}
theorem adS{e b:Nat}{rZ:List (List AV)}(F:fj P i.T1=some (1,false))(g:cZ P i.T1=.slice e i.w b)(I:fj P i.T2=some (i.pw,i.agg)) (hr:(rZ.all fun r=>(jo i.agg i.pw r).isSome)=true):
  Cf P i.T1 i.T2 (.list i.w rZ) rZ.length (fun k=>qO i.agg i.pw (rZ.getD k [])):=by
 refine⟨fun H=>?_,?_,fun k A B=>?_,by simp[AV.ca,AV.closed]⟩
 ·simp[iS,F,jo]
 ·rw[g]
  rfl
 ·have d:k.toNat<rZ.length :=ab
  refine⟨rZ[k.toNat],?_,fun H=>?_⟩
  ·rw[g]
   simp only[nK];rw[iP ⟨trivial,A,B⟩,bT d];rfl
  ·have:=eX.1 hr rZ[k.toNat] (nG d)
   obtain⟨v,q⟩:=rC.1 this;simp only[iS,I,q];unfold qO;rw[dj,bT d,Option.getD_some,q];rfl
def F2(P:ak)(τ:ar)(p0 p1:Tmp)(assign body:Code)(fr:List AV):List (Int × AV)->List aG->(List aG->bB)->bB
 |[],H,k=>k H
 |(i,v)::q,H,k=>db P τ bz assign ⟨(fr.set p0 (.lit (.int .i64 i))).set p1 v,H⟩ fun x s1=>match x with
  |.normal=>db P τ bz body s1 fun x s2=>match x with
   |.normal=>F2 P τ p0 p1 assign body fr q s2.H k
   |_=>.fail
  |_=>.fail
theorem Sz(hm:P.follows .mixedOrders=true){τ:ar}(A:aw P τ){p0 p1:Tmp}{assign body:Code}{fr:List AV}{Q:cu->aH->Prop}{k:List aG->bB}(m:Nat):∀(q:List (Int × AV)) (H:List aG),(F2 P τ p0 p1 assign body fr q H k).holds Q ->
  ∃f:Nat->List aG,f 0=H/\(∀j d,q[j]?=some d->∃s1 s2:aH,c_ P m assign ⟨(fr.set p0 (.lit (.int .i64 d.1))).set p1 d.2,aF (f j)⟩ .normal s1.au/\c_ P m body s1.au .normal s2.au/\f (j+1)=s2.H)/\(k (f q.length)).holds Q
 |[],H,h=>⟨fun _=>H,rfl,fun j d g=>by simp at g,h⟩
 |(i,v)::q,H,h=>by
  simp only[F2]at h;obtain⟨x,s1,I,B⟩:=fo hm A assign _ _ (bN P m assign) h;cases x with
  |normal=>
   obtain⟨x,s2,J,F⟩:=fo hm A body _ _ (bN P m body) B;cases x with
   |normal=>
    obtain⟨f,M,N,O⟩:=Sz hm A m q s2.H F;refine⟨fun j=>match j with|0=>H|j+1=>f j,rfl,fun j d g=>?_,O⟩;cases j with
    |zero=>
     simp only[List.getElem?_cons_zero,bQ]at g;subst g;exact⟨s1,s2,I,J,M⟩
    |succ j=>exact N j d (by simpa using g)
   |exit _=>exact F.elim
   |ret=>exact F.elim
  |exit _=>exact B.elim
  |ret=>exact B.elim
def F3(agg:Bool)(w:Nat)(rZ:List (List AV)):List (Int × AV):=(jh rZ.length).map fun(k:Nat)=>((rZ.length:Int)-1-k,qO agg w (rZ.getD (rZ.length-1-k) []))
def LY(P:ak)(τ:ar)(i:mI)(m:Nat)(c:Code)(s:aH):Option bB:=
 match c with
 |.seq (.seq r3 (.block _ (.rangeFunc (.tmp g) ps assign body))) rest=>match ps.toList,fk assign&&fk body with
  |[p0,p1],true=>some (db P τ bz r3 s fun x s1=>match x with
   |.normal=>match s1.fr.getD g .undef with
    |.clo f [.ptr id 0 _ 0 0]=>match s1.H[id]? with
     |some (.raw (.box [.list w rZ]))=>.side (aA f i.f&&(aA w i.w&&(bW rZ.length 1048576&&((rZ.all fun r=>(jo i.agg i.pw r).isSome)&&(kY s1.H.length s1.fr&&bW m s1.H.length)))))
       (F2 P τ p0 p1 assign body s1.fr (F3 i.agg i.pw rZ) (s1.H.set id (.raw .dead)) fun H=>db P τ bz rest ⟨s1.fr,H⟩ .done)
     |_=>.fail
    |_=>.fail
   |_=>.fail)
  |_,_=>none
 |_=>none
theorem adT(hm:P.follows .mixedOrders=true){τ:ar}(A:aw P τ)(hi:uv P i){c:Code}{s:aH}{t:bB}(h:LY P τ i m c s=some t):Ft P m c s t:=by
 unfold LY at h;split at h
 case h_2=>cases h
 rename_i r3 b g ps assign body rest;split at h
 case h_2=>cases h
 rename_i p0 p1 W q;cases h;intro Q hQ;have O:ps=#[p0,p1]:=jk (by simpa using W);subst O;simp only[aR]at q;obtain⟨x,s1,h1,d⟩:=fo hm A r3 s _ (bN P m r3) hQ;cases x with
 |exit _=>exact d.elim
 |ret=>exact d.elim
 |normal=>
  simp only[]at d;split at d
  case h_2=>exact d.elim
  rename_i f id wd hg;split at d
  case h_2=>exact d.elim
  rename_i w rZ Y;simp only[bB.holds,aR]at d;obtain⟨⟨B,I,J,k4,k5,M⟩,h3⟩:=d;have B:=cz B;have I:=cz I;have J:=lk J;have M:=lk M;subst B;subst I;obtain⟨F,f0,f1,f2⟩:=Sz hm A s1.H.length _ _ h3;obtain⟨x,s',N,h5⟩:=fo hm A rest _ _ (bN P m rest) f2;refine⟨x,s',?_,h5⟩;obtain⟨fd,bq,bD,br,cg,r0,r1,r2,r3',b0,b1,e,bb,q1,q2,q3,q4,q5,q6,q7,q8,q9⟩:=hi;have U:(F3 i.agg i.pw rZ).length=rZ.length:=by simp[F3]
  have hR:Cg P s1.H.length rZ.length (fun k=>qO i.agg i.pw (rZ.getD k [])) p0 p1 assign body (fun k=>⟨s1.fr,aF (F k)⟩):=by
   refine⟨q.1,q.2,fun k _=>k5,fun k hk=>?_⟩;obtain⟨a1,a2,g1,g2,g3⟩:=f1 k ((rZ.length:Int)-1-k,qO i.agg i.pw (rZ.getD (rZ.length-1-k) [])) (by
    simp[F3,hk])
   refine⟨a1.au,a2.au,g1,g2,?_⟩;rw[g3];exact cV.refl _
  have hS:=Sy (m:=m) (m':=s1.H.length) (P:=P) (adS q7 q8 q9 k4) q1 q2 q3 q4 q5 q6 J M hR (g:=g) (s:=s1.au) (id:=id) (wd:=wd) hg (cn Y) (by
   rw[f0,gn];exact cV.refl _)
  have hB:c_ P m (.block b (.rangeFunc (.tmp g) #[p0,p1] assign body)) s1.au .normal ⟨s1.fr,aF (F rZ.length)⟩:=EZ (x:=.normal) hS;rw[U]at N;exact tO (tO h1 hB) N
def LZ(P:ak)(τ:ar)(i:mI)(m key:Nat)(fn:Func):LT:=⟨fun _ _=>none,fun _ s=>(true,s),fun k s=>match aA k key with
 |true=>LY P τ i m (bS fn key) s
 |false=>none⟩
theorem adU(hm:P.follows .mixedOrders=true){τ:ar}(d:aw P τ)(hi:uv P i){key:Nat}{fn:Func} (hn:mF key (cB (bf fn))=true):aQ P m (LZ P τ i m key fn) (bf fn):=
 ⟨fun _ _ _ _ _ h=>(nomatch h),fun _ _ _=>cV.refl _,fun k q g s t h=>by
  simp only[LZ]at h;split at h
  ·rename_i e
   have e:=cz e;subst e;rw[Lx hn g];exact adT hm d hi h
  ·cases h⟩
def SA(P:ak)(i:mI):Bool:=
 (match fj P i.T1 with
 |some (n,a)=>aA n 1 && !a
 |none=>false)&&((match cZ P i.T1 with
 |.slice _ w _=>aA w i.w
 |_=>false)&&(match fj P i.T2 with
 |some (n,a)=>aA n i.pw&&(a==i.agg)
 |none=>false))
theorem SB{P:ak}{d:Func}{J M:Nat}(N:P.funcs[i.f]? = some d)(O:eC P i.f=true)(hc:d.body=some (Ce bq bD br cg r0 r1 r2 r3 J M))(hn:d.ntmps=19)(hr:d.results=#[])(U:Cd i.T1 i.T2 bq bD br cg)
  (B:SA P i=true):uv P i:=by
 unfold SA at B;simp only[aR]at B;obtain⟨q,g,A⟩:=B;split at q
 case h_2=>cases q
 rename_i n a W;split at g
 case h_2=>cases g
 rename_i e w b Y;split at A
 case h_2=>cases A
 rename_i n' a' e3;simp only[aR,Bool.not_eq_true',beq_iff_eq]at q A;obtain⟨F,g2⟩:=q;obtain⟨I,g4⟩:=A;have F:=cz F;have I:=cz I;have g:=cz g;subst F;subst g2;subst I;subst g4;subst g;exact⟨d,bq,bD,br,cg,r0,r1,r2,r3,J,M,e,b,N,O,hc,hn,hr,U,W,Y,e3⟩
def ar.F4(P:ak)(τ:ar)(i:mI)(key:Nat)(f:bH)(fn:Func) (ks:List (Option (List Kd))):ar:=τ.add f fun args=>
 match (Fy P τ (LZ P τ i 0 key fn) fn ks args []).val with
 |some v=>match AV.ca args&&v.closed with
  |true=>some (true,v)
  |false=>none
 |none=>none
theorem aw.F4{P:ak}{τ:ar}(h:aw P τ)(hm:P.follows .mixedOrders=true){i:mI}(hi:uv P i){key:Nat}{f:bH}{fn:Func}(g:P.funcs[f]? = some fn)(q:eC P f=true) (hn:mF key (cB (bf fn))=true) (ks:List (Option (List Kd))) :
  aw P (τ.F4 P i key f fn ks):=h.add q fun args b v hc _=>by
 split at hc
 ·rename_i u A
  split at hc
  ·rename_i d
   simp only[aR]at d;cases hc;exact fZ hm h ks (fun c hc=>by
    have:=adU (m:=0) hm h hi hn;unfold bf at this;rw[hc]at this;exact this) g d.1 d.2 A
  ·cases hc
 ·cases hc
def F5:aG->Bool
 |.vQ _ v _=>aA v 0
 |.map ..=>true
 |.bI ..=>true
 |.raw (.vQ _ v _)=>aA v 0
 |.raw .dead=>false
 |.raw _=>true
theorem adV{H:List aG}(h:H.all F5=true):EX (aF H):=by
 intro o d;obtain⟨t,g,rfl⟩:=List.mem_map.1 d;have:=eX.1 h t g;cases t with
 |vQ ks v rZ=>simp only[F5]at this; rw[cz this]; rfl
 |map=>rfl
 |bI=>rfl
 |raw o=>cases o with
  |vQ k v rZ=>simp only[F5]at this; rw[cz this]; rfl
  |dead=>cases this
  |box=>rfl
  |map=>rfl
  |iter=>rfl
  |dK=>rfl
  |bI=>rfl
def SC(P:ak)(τ:ar)(fn:Func)(args:List AV)(H:List aG):Option (Bool × AV × List aG):=
 match H.all F5 with
 |true=>match (db P τ bz (bf fn) ⟨gD args fn.ntmps,H⟩ .done).gN with
  |some (.normal,s')=>match kO P s'.au fn.results.toList with
   |some d=>some (true,dA d,s'.H)
   |none=>none
  |some (.ret,s')=>match kO P s'.au fn.results.toList with
   |some d=>some (true,dA d,s'.H)
   |none=>none
  |_=>none
 |false=>none
def ar.fx(P:ak)(τ:ar)(f:bH)(fn:Func):ar where
 pf g:=match aA g f with
  |true=>false
  |false=>τ.pf g
 T g as:=match aA g f with
  |true=>none
  |false=>τ.T g as
 W g as H:=match aA g f with
  |true=>SC P τ fn as H
  |false=>τ.W g as H
 C g as H:=match aA g f with
  |true=>jh H.length
  |false=>τ.C g as H
 I:=τ.I
 N g:=match aA g f with
  |true=>false
  |false=>τ.N g
 U g:=match aA g f with
  |true=>true
  |false=>τ.U g
theorem aw.fx{P:ak}{τ:ar}(h:aw P τ)(hm:P.follows .mixedOrders=true){f:bH}{fn:Func}(hf:P.funcs[f]?=some fn)(hb:eC P f=true)(Y:fn.body.isSome=true):aw P (τ.fx P f fn):=by
 refine⟨fun g as b v d M=>?_,fun g as H b v H' d M=>?_,fun g as H b v H' d A B q=>?_,fun g as H t d Q hQ=>?_,?_⟩
 rotate_left 4
 ·refine⟨fun g N as H=>?_,fun g O as H b v H' d id o q J=>?_⟩
  ·simp only[ar.fx]at N |-
   cases e:aA g f with
   |true=>grind
   |false=>
    rw[e]at N;exact h.F.1 g N as H
  ·simp only[ar.fx]at O d J |-
   cases e:aA g f with
   |true=>grind
   |false=>
    rw[e]at O d J;exact h.F.2 g O as H b v H' d id o q J
 rotate_left 3
 ·obtain⟨g1,v,H',g2,g3,g4⟩:=h.I g as H t d Q hQ
  refine⟨g1,v,H',g2,fun A B q=>g3 A (fun hm=>B ?_) q,g4⟩
  grind[ar.fx]
 ·simp only[ar.fx]at d
  split at d
  ·cases d
  ·exact h.T g as b v d M
 ·simp only[ar.fx]at d
  split at d
  ·rename_i e
   have e:=cz e;subst e;refine⟨hb,?_⟩;obtain⟨c,hc⟩:=rC.1 Y;have hbo:bf fn=c:=by unfold bf; rw[hc]
   unfold SC at d;rw[hbo]at d;split at d
   case h_2=>cases d
   rename_i hfr;have key:∀{x:cu} {s':aH} {U:List AV},(db P τ bz c ⟨gD as fn.ntmps,H⟩ .done).gN=some (x,s')->(x=.normal\/x=.ret)->kO P s'.au fn.results.toList=some U->e_ P g as (aF H) (dA U) (aF s'.H):=by
    intro x s' U h1 hx h2;obtain⟨x1,s1,h3,h4⟩:=fo hm h c ⟨gD as fn.ntmps,H⟩ .done (bN P (aF H).length c) (sb h1);obtain⟨rfl,rfl⟩:=h4;exact ab1 hf hc h3 hx h2 (adV hfr)
   grind
  ·exact h.W g as H b v H' d M
 ·simp only[ar.fx]at d B
  split at d
  grind
  ·rename_i e
   rw[e]at B;exact h.C g as H b v H' d A B q
end Go.AL

namespace Go.AL
open Go Go.ChangeMaps
variable [Dr]
def gp.yP(sp:gp)(s:aH)(b:Nat):aH:=⟨s.fr.set sp.it (.lit (.pointer (some ⟨b,0,none⟩))),s.H⟩
section range
variable {P:ak} {τ:ar} {L:LT} {m:Nat} {sp:gp} {bq bD br:Array aN} {body:Code} {ri:LG->LL} {ci:LG->Nat}
def SD(m:Nat)(sp:gp)(ri:LG->LL)(ci:LG->Nat)(E:af)(rZ:LL)(B:LG)(g A F aL:Nat)(a:Act)(w:be):Prop:=
 ∃(d:LG) (ad:List (Option (Nat × Nat))) (X:XS) (seen:Array Nat) (q:Nat) (p:LL),
  dc sp.st sp.bJ p B=some d/\sp.bJ d=g/\(p++rZ.filter fun x => !seen.contains (cP x)).Perm rZ /\
  bM (aX sp.inv d).au { w:=w,H:=(aX sp.inv d).au.H,ad:=ad,X:=X } a/\E.dO m { w:=w,H:=(aX sp.inv d).au.H,ad:=ad,X:=X }/\X g /\
  w.heap[g]?=some (.mapIter (some A) aL seen q)/\aL<=q/\ri d=rZ/\ci d=aL/\ad[sp.id]?=some (some (A,F))
theorem adW(hm:P.follows .mixedOrders=true)(ht:aw P τ)(hL:aQ P m L body)(hr:kW P τ L m sp br body)(ho:sd P sp bq bD br)
  (hu1:∀d,(aX sp.inv d).fr[sp.t1]?=some .undef) (hu2:∀d,(aX sp.inv d).fr[sp.t2]?=some .undef) (hut:∀d,(aX sp.inv d).fr[sp.it]?=some (.lit (.pointer (some ⟨sp.bJ d,0,none⟩))))
  {E:af} {rZ:LL} {d0:LG} {itb mb aL:Nat} {nn:Nat} {r1 b0 b1 r2:Nat}
  (hid2:∀d,(aX sp.inv d).H[sp.id]?=some (.map sp.K sp.V (ri d) (ci d))) (hkeep:∀r d q,sp.st r d=some q->ri q=ri d/\ci q=ci d) (him:sp.id<m) (hsz:E.w.heap.size<=itb) (hn:(rZ.map cP).Nodup) (hlt:∀r∈rZ,cP r<aL)
  (hfold:∀p,p.Perm rZ->(dc sp.st sp.bJ p d0).isSome=true) {a:Act} {w:be} (hI:SD m sp ri ci E rZ d0 itb mb nn aL a w) (A:Option Nat) (hro:gT A body) :
  (Code.loop (.seq (.region r1 bD false) (.seq (.cond (.tmp sp.t2) .skip (.exit b0)) (.block b1 (.seq (.region r2 br false) body))))).wpIn (fz A) 0 P
   (fun e a1 W=>e=.exit b0/\∃p d,p.Perm rZ/\dc sp.st sp.bJ p d0=some d/\eG m E (aX sp.inv d).au a1 W) a w:=by
 obtain⟨o1,o2,e1,g1,p1,q1,g2,p2,q2⟩:=ho.r1;obtain⟨o3,l,e3,g3,p3,q3⟩:=ho.r2;refine wpIn_loop (SD m sp ri ci E rZ d0 itb mb nn aL) (fun _ w=>(rZ.filter fun x => !(w.iterSeen itb).contains (cP x)).length) hI fun a w hI=>?_;obtain⟨d,ad,X,seen,last,p,hf,had,hp,hs,M,hXi,Y,hcl,hriD,hciD,hlo⟩:=hI;have hidd:=hid2 d;rw[hriD,hciD]at hidd;have hob:=hs.heap.obj sp.id _ (cn hidd);simp only[aG.au,bK]at hob;obtain⟨F,nn',B,hlo',hmb,hre⟩:=hob;have hmbe:F=mb:=by
  have h:=hlo';rw[hlo]at h;simp only[bQ,cr]at h;exact h.1.symm
 subst hmbe;have hne:F≠itb:=fun e=>(hs.heap.lt sp.id F nn hlo).2 (by rw[e]; exact hXi);have h10:bD[0]?=some o1:=by
  have:bD.toList[0]?=some o1:=by rw[e1]; rfl
  simpa using this
 have h11:bD[1]?=some o2:=by
  have:bD.toList[1]?=some o2:=by rw[e1]; rfl
  simpa using this
 have hsz1:bD.size=2:=by
  have:bD.toList.length=2:=by rw[e1]; rfl
  simpa using this
 have hiv:a.eval (.tmp sp.it)=.pointer (some ⟨itb,0,none⟩):=by
  have h:=hs.eval (.tmp sp.it);have e:(aX sp.inv d).au.eval (.tmp sp.it)=.lit (.pointer (some ⟨sp.bJ d,0,none⟩)):=by
   show (aX sp.inv d).fr.getD sp.it .undef=_
   rw[dj,hut d];rfl
  rw[e]at h;simp only[ae]at h;rw[h,had]
 obtain⟨hlen,hen⟩:=iG.1 hre;have hl1:(dH sp.K sp.V rZ).length=rZ.length:=by simp[dH]
 have row_of:∀(i:Nat) (e:MapEntry),B.toList[i]?=some e->∃r,rZ[i]?=some r/\e.born=cP r:=by
  intro i e hi;have I:=bA hi;have J:i<rZ.length:=ab;refine⟨rZ[i],bT J,?_⟩;exact(hen i (sp.K.av (gi rZ[i] 0).rV,sp.V.av (gi rZ[i] 1).rV,(gi rZ[i] 2).iV.toNat) e (by simp[dH,J]) hi).2.2.1
 have hold:∀x∈B.toList,x.born<aL:=by
  intro x U;obtain⟨i,hi⟩:=oW U;obtain⟨r,I,J⟩:=row_of i x hi;rw[J];exact hlt r (jj I)
 have hbn:(B.toList.map (·.born)).Nodup:=by
  have:B.toList.map (·.born)=rZ.map cP:=by
   apply List.ext_getElem?;intro i;simp only[List.getElem?_map];cases hi:B.toList[i]? with
   |none=>
    have I:=List.getElem?_eq_none_iff.1 hi;rw[List.getElem?_eq_none ab];rfl
   |some e=>
    obtain⟨r,I,J⟩:=row_of i e hi;rw[I];simp[J]
  rw[this];exact hn
 refine wpIn_seq (wpIn_region ?_);rw[hsz1];show wpOpsIn (fz A) 0 P bD _ [0,1] a w
 rw[wpOpsIn_cons];have hlt1:=yK hs (hu1 d);have hlt2:=yK hs (hu2 d);rcases run_next_at (P:=P) w o1.type itb F aL last seen B aL Y hmb hold hcl with⟨h0,hrun⟩|⟨e,he,W,hw1,hrun⟩
 ·refine kB h10 g1 (yM p1 hiv hrun) (fun c e=>by rw[p1]at e; cases e) A ?_
  rw[q1,wpOpsIn_cons];refine kB h11 g2 (yL p2 (oe hlt1) rfl) (fun c e=>by rw[p2]at e; cases e) A ?_;rw[q2];show (Code.seq _ _).wpIn (fz A) 0 P _ _ w
  refine wpIn_seq (wpIn_cond_false (oe (by simpa[Act.put]using hlt2)) (wpIn_exit ?_));refine⟨rfl,p,d,?_,hf,ad,X,?_,M⟩
  ·have:(rZ.filter fun x => !seen.contains (cP x))=[]:=by
    rw[List.filter_eq_nil_iff];intro x U hc;obtain⟨i,hi⟩:=oW U;have I:=bA hi;have J:i<B.toList.length:=ab;obtain⟨r,h3,h4⟩:=row_of i _ (bT J);rw[hi]at h3;cases h3;have:B.toList[i]∈(leftOf B seen).toList:=by
     unfold leftOf;rw[Array.toList_filter];refine List.mem_filter.2 ⟨nG J,?_⟩;rw[h4];exact hc
    have h5:(leftOf B seen).toList.length=0:=by simpa using h0
    rw[List.length_eq_zero_iff.1 h5]at this;cases this
   rwa [this,List.append_nil]at hp
  ·exact(hs.og (hu1 d) (.tuple #[.bool false])).og (hu2 d) (.bool false)
 ·refine kB h10 g1 (yM p1 hiv hrun) (fun c e=>by rw[p1]at e; cases e) A ?_
  rw[q1,wpOpsIn_cons];refine kB h11 g2 (yL p2 (oe hlt1) rfl) (fun c e=>by rw[p2]at e; cases e) A ?_;rw[q2];show (Code.seq _ _).wpIn (fz A) 0 P _ _ _
  refine wpIn_seq (wpIn_cond_true (oe (by simpa[Act.put]using hlt2)) (wpIn_skip ?_));show (Code.block _ _).wpIn (fz A) 0 P _ _ _
  refine wpIn_block (wpIn_seq (wpIn_region ?_));generalize hw2:setBlock W itb (.mapIter (some F) aL (seen.push e.born) aL)=g;have hw1h:W.heap=w.heap:=by rcases hw1 with rfl|rfl<;>rfl
  have hos:eV w g:=by rw[<-hw2]; rcases hw1 with rfl|rfl<;>exact⟨rfl,rfl,rfl,by first|exact fun _=>bl _|exact fun _=>gk _ _⟩
  have hit2':g.heap[itb]?=some (.mapIter (some F) aL (seen.push e.born) aL):=by
   rw[<-hw2];exact(Eg (by rw[hw1h]; exact Y)).1
  have hother:∀b,b≠itb->g.heap[b]?=w.heap[b]?:=by
   intro b N;rw[<-hw2];show (W.heap.setIfInBounds itb _)[b]?=_
   rw[(Eg (by rw[hw1h]; exact Y)).2 b N,hw1h]
  have hsize:g.heap.size=w.heap.size:=by
   rw[<-hw2];show (W.heap.setIfInBounds itb _).size=_
   simp[hw1h]
  have hmb2:g.heap[F]?=some (.map B aL):=by rw[hother F hne]; exact hmb
  have cG:iU { w:=w,H:=(aX sp.inv d).au.H,ad:=ad,X:=X } { w:=g,H:=(aX sp.inv d).au.H,ad:=ad,X:=X }:=
   ⟨rfl,rfl,by show w.heap.size<=g.heap.size; omega,fun b N U=>⟨U,hother b (fun e=>U (by rw[e]; exact hXi))⟩,fun b N=>by show b<g.heap.size; rw[hsize]; exact hs.heap.X b N,rfl⟩
  have hmk:lV g X a.defers:=⟨hs.defers.1,fun dd hdd=>by
   obtain⟨D,e,I,J,h3⟩:=hs.defers.2 dd hdd;exact⟨D,e,by rw[hother D (fun e=>by rw[e]at I; rw[Y]at I; cases I)]; exact I,J,h3⟩⟩
  have hs1:=((hs.cG cG hmk).og (hu1 d) (.tuple #[.bool true,e.key,e.val])).og (hu2 d) (.bool true);obtain⟨hem,hes⟩:=mem_left he;obtain⟨i,hi⟩:=oW hem;obtain⟨r,hri,hrb⟩:=row_of i e hi;have hrm:=jj hri;have hre2:=pG cG.toC hre;obtain⟨k1,k2,_⟩:=(iG.1 hre2).2 i (sp.K.av (gi r 0).rV,sp.V.av (gi r 1).rV,(gi r 2).iV.toNat) e (by simp[dH,hri]) hi;have hiv1:((a.put (some sp.t1) (.tuple #[.bool true,e.key,e.val])).put (some sp.t2) (.bool true)).eval (.tmp sp.it)=.pointer (some ⟨itb,0,none⟩):=by
   have h:=hs1.eval (.tmp sp.it);have e:(aX sp.inv d).au.eval (.tmp sp.it)=.lit (.pointer (some ⟨sp.bJ d,0,none⟩)):=by
    show (aX sp.inv d).fr.getD sp.it .undef=_
    rw[dj,hut d];rfl
   rw[e]at h;simp only[ae]at h;rw[h,had]
  have h20:br[0]?=some o3:=by
   have:br.toList[0]?=some o3:=by rw[e3]; rfl
   simpa using this
  have hl2:br.toList.drop 1=l:=by rw[e3]; rfl
  have hsz2:br.size=l.length+1:=by
   have:br.toList.length=l.length+1:=by rw[e3]; rfl
   simpa using this
  have hlp:(p++(r::rZ.filter fun x => !(seen.push (cP r)).contains (cP x))).Perm rZ:=
   (List.Perm.append_left p (yJ hn hrm (by rw[<-hrb]; exact hes)).symm).trans hp
  have O:∃q,sp.st r d=some q/\sp.bJ q=sp.bJ d:=by
   have h:=hfold _ hlp;rw[B3,hf]at h;simp only[xS,dc]at h;cases O:sp.st r d with
   |none=>rw[O]at h; cases h
   |some q=>
    rw[O]at h;simp only[]at h;cases N:aA (sp.bJ q) (sp.bJ d)with
    |true=>exact⟨q,rfl,cz N⟩
    |false=>rw[N]at h; cases h
  obtain⟨q,O,had'⟩:=O;have hf':dc sp.st sp.bJ (p++[r]) d0=some q:=by
   rw[B3,hf];simp only[xS,dc,O,had'];simp
  obtain⟨s4,ha4,hsat⟩:=Sr hm ht hL hr O;rw[hsz2,AS,List.range'_succ,wpOpsIn_cons];refine kB h20 g3 (LN p3 hiv1 (run_entry_at (P:=P) g itb F aL seen B aL e hit2' hmb2 hem hbn)) (fun c e=>by rw[p3]at e; cases e) A ?_;rw[q3];have hs3:=hs1.kU sp.t3 (v:=.tuple [sp.K.av (gi r 0).rV,sp.V.av (gi r 1).rV]) (u:=.tuple #[e.key,e.val]) (by simp only[ae]; exact⟨_,rfl,by simp only[aq]; exact⟨k1,k2,trivial⟩⟩);refine ET (pf:=τ.pf) (ah:=br) l (0+1) (sp.rs r d).au s4.au { w:=g,H:=(aX sp.inv d).au.H,ad:=ad,X:=X } _ (by rw[<-hl2]) (by rw[hl2]at ha4; exact ha4) hs3 (fun a3 w3 hc3=>?_) A;obtain⟨oh,r3,hs4,hle3⟩:=hc3;show body.wpIn (fz A) 0 P _ a3 w3
  refine wpIn_mono (hsat A hro { w:=w3,H:=s4.au.H,ad:=oh,X:=X.re r3 } a3 hs4) fun x a4 w4 U=>?_;obtain⟨rfl,loc4,X4,hs5,hle4⟩:=U;have hall:({ w:=g,H:=(aX sp.inv d).au.H,ad:=ad,X:=X }:af).dO m { w:=w4,H:=(aX sp.inv q).au.H,ad:=loc4,X:=X4 }:=hle3.toM.trans hle4;have hXsz:itb<g.heap.size:=se hit2';have hnown:¬ af.bC { w:=g,H:=(aX sp.inv d).au.H,ad:=ad,X:=X } itb:=by
   exact(hs.heap.cG cG).kh hXi
  have hmbsz:F<g.heap.size:=se hmb2;have hit4:w4.heap[itb]?=some (.mapIter (some F) aL (seen.push e.born) aL):=by rw[hall.same itb hXsz hnown]; exact hit2'
  obtain⟨hk1,hk2⟩:=hkeep r d q O;have hidd':=hid2 q;rw[hk1,hk2,hriD,hciD]at hidd';have hlive:=(hall.live sp.id him ⟨_,cn hidd,fun v _=>lj v⟩ ⟨_,cn hidd',rfl⟩).2;refine⟨⟨q,loc4,X4,seen.push e.born,aL,p++[r],hf',by rw[had',had],?_,hs5,?_,(hall.X itb hXsz).1.2 hXi,hit4,bl _,by rw[hk1,hriD],by rw[hk2,hciD],?_⟩,?_⟩
  ·rw[hrb,List.append_assoc]
   exact hlp
  ·refine af.dO.trans (E':={ w:=g,H:=(aX sp.inv d).au.H,ad:=ad,X:=X }) ⟨M.cf,?_,?_,M.bC,M.live,M.X,M.rl,M.env.trans hos⟩ hall
   ·have:=M.size
    show E.w.heap.size<=g.heap.size
    rw[hsize];exact this
   ·intro b N hbo
    show g.heap[b]?=_
    rw[hother b ab];exact M.same b N hbo
  ·rw[show loc4[sp.id]?=ad[sp.id]? from hlive]
   exact hlo
  ·show (rZ.filter fun x => !(w4.iterSeen itb).contains (cP x)).length<(rZ.filter fun x => !(w.iterSeen itb).contains (cP x)).length
   rw[yN hit4,yN Y];have:=(yJ hn hrm (by rw[<-hrb]; exact hes)).length_eq;rw[<-hrb]at this;simp only[List.length_cons]at this;omega
theorem adX(hm:P.follows .mixedOrders=true)(ht:aw P τ)(hL:aQ P m L body)(hr:kW P τ L m sp br body)(ho:sd P sp bq bD br)
  (hu1:∀d,(aX sp.inv d).fr[sp.t1]?=some .undef) (hu2:∀d,(aX sp.inv d).fr[sp.t2]?=some .undef) (hut:∀d,(aX sp.inv d).fr[sp.it]?=some (.lit (.pointer (some ⟨sp.bJ d,0,none⟩))))
  {r1 b0 b1 r2:Nat} (hid2:∀d,(aX sp.inv d).H[sp.id]?=some (.map sp.K sp.V (ri d) (ci d))) (hkeep:∀r d A,sp.st r d=some A->ri A=ri d/\ci A=ci d) (him:sp.id<m)
  {s:aH} {d:LG} {rZ:LL} {aL:Nat} (U:s.eval (.tmp sp.y)=.map sp.id) (hid:s.H[sp.id]?=some (.map sp.K sp.V rZ aL)) (hn:(rZ.map cP).Nodup)
  (hlt:∀r∈rZ,cP r<aL) (hin:∀b,iI m sp.inv sp.ps (iu sp.opens (sp.yP s b))=some (true,sp.init d b)) (hadr:∀b,sp.bJ (sp.init d b)=b) (M:∀b,ri (sp.init d b)=rZ/\ci (sp.init d b)=aL)
  (hfold:∀b p,p.Perm rZ->(dc sp.st sp.bJ p (sp.init d b)).isSome=true) (E:af) (a:Act) (hs:bM s.au E a) (B:Option Nat) (hro:gT B body) {Q:Exit->Act->be->Prop}
  (hQ:∀W Y,(∃b p A,p.Perm rZ/\dc sp.st sp.bJ p (sp.init d b)=some A/\eG m E (aX sp.inv A).au W Y)->Q .normal W Y) :
  wpOpsIn (fz B) 0 P bq (Exit.then ((Code.block b0 (.loop (.seq (.region r1 bD false) (.seq (.cond (.tmp sp.t2) .skip (.exit b0)) (.block b1 (.seq (.region r2 br false) body)))))).wpIn (fz B) 0 P Q) Q) [bq.toList.dropLast.length] a E.w:=by
 obtain⟨o2,ty,e1,g2,p2,q2,O⟩:=ho.r0;have h11:bq[bq.toList.dropLast.length]?=some o2:=by
  have:bq.toList[bq.toList.dropLast.length]?=some o2:=by
   rw[e1];simp
  simpa using this
 have hid':E.H[sp.id]?=some (.map (dH sp.K sp.V rZ) aL):=by
  rw[hs.H];exact cn hid
 have hrx:ae E (.map sp.id) (a.eval (.tmp sp.y)):=by
  have:=hs.eval (.tmp sp.y)
  rwa [aH.qC,U]at this
 obtain⟨F,n,ms,hc,hloc,hmb,hre⟩:=vF hs.heap hid' hrx;obtain⟨⟨kt,et⟩,O⟩:=rC.1 O;have hmbs:F<E.w.heap.size:=se hmb;rw[wpOpsIn_cons];refine kB h11 g2 (LO p2 hc (run_range_map E.w ty kt et F ms aL (lu O) hmb)) (fun c e=>by rw[p2]at e; cases e) B ?_;rw[q2];show (Code.block _ _).wpIn (fz B) 0 P _ _ _
 generalize N:E.w.alloc (.mapIter (some F) aL #[] aL)=g;have hsize:g.heap.size=E.w.heap.size+1:=by rw[<-N]; show (E.w.heap.push _).size=_; simp
 have hold:∀b,b<E.w.heap.size->g.heap[b]?=E.w.heap[b]?:=fun b q=>by rw[<-N]; exact(show (E.w.heap.push _)[b]?=_ by rw[s_,iN ab])
 have hitn:g.heap[E.w.heap.size]?=some (.mapIter (some F) aL #[] aL):=by rw[<-N]; exact(show (E.w.heap.push _)[E.w.heap.size]?=_ by simp)
 have hos:eV E.w g:=by rw[<-N]; exact⟨rfl,rfl,rfl,by first|exact fun _=>bl _|exact fun _=>gk _ _⟩
 have cG:iU { w:=E.w,H:=E.H,ad:=E.ad,X:=E.X } { w:=g,H:=E.H,ad:=E.ad,X:=E.X.or fun b=>b=E.w.heap.size }:=
  ⟨rfl,rfl,by show E.w.heap.size<=g.heap.size; omega,fun b q U=>⟨fun h=>h.elim U (fun e=>absurd q (by rw[e]; exact AW _)),hold b q⟩,fun b q=>by
   show b<g.heap.size
   rcases q with q|q
   ·have:=hs.heap.X b q
    omega
   ·omega,rfl⟩
 have hs3:=(hs.cG cG (tv (X':=E.X.or fun b=>b=E.w.heap.size) (w':=g) hs.defers (fun _ I h2=>⟨.inl I,h2⟩) fun b I _=>hold b (hs.heap.X b I))).kU sp.it (v:=.lit (.pointer (some ⟨E.w.heap.size,0,none⟩))) (u:=.pointer (some ⟨E.w.heap.size,0,none⟩)) (by simp only[ae]);have hs3':bM (sp.yP s E.w.heap.size).au { w:=g,H:=E.H,ad:=E.ad,X:=E.X.or fun b=>b=E.w.heap.size } _:=hs3;obtain⟨ad,X4,hs4,J⟩:=((nl sp.opens _).trans (kS (hin E.w.heap.size))) _ _ hs3';have hidd:=hid2 (sp.init d E.w.heap.size);rw[(M _).1,(M _).2]at hidd;have hlive:=(J.live sp.id him ⟨_,hid',fun v _=>lj v⟩ ⟨_,cn hidd,rfl⟩).2;refine wpIn_block (wpIn_mono (adW hm ht hL hr ho hu1 hu2 hut (ri:=ri) (ci:=ci) (E:=E) (rZ:=rZ) (d0:=sp.init d E.w.heap.size) (itb:=E.w.heap.size) (mb:=F) (nn:=n) (aL:=aL)
  hid2 hkeep him (bl _) hn hlt (hfold _) ?_ B hro) fun e W Y hq=>?_)
 ·refine⟨sp.init d E.w.heap.size,ad,X4,#[],aL,[],rfl,hadr _,?_,hs4,?_,(J.X E.w.heap.size (by show _<g.heap.size; omega)).1.2 (.inr rfl),?_,bl _,(M _).1,(M _).2,?_⟩
  ·have:(rZ.filter fun x => !(#[]:Array Nat).contains (cP x))=rZ:=List.filter_eq_self.2 (fun x _=>by simp)
   rw[List.nil_append,this]
  ·refine af.dO.trans (E':={ w:=g,H:=E.H,ad:=E.ad,X:=E.X.or fun b=>b=E.w.heap.size }) ⟨fun _ _ h=>h,?_,?_,fun b _ h=>h,fun _ _ _ h=>⟨h,rfl⟩,fun b q=>⟨⟨fun h=>h.elim id fun e=>absurd q (by rw[e]; exact AW _),.inl⟩,Iff.rfl⟩,fun _ _ h=>⟨h,fun _ hq=>hq⟩,hos⟩ J
   ·show E.w.heap.size<=g.heap.size
    omega
   ·exact fun b q _=>hold b q
  ·rw[J.same E.w.heap.size (by show _<g.heap.size; omega) ?_]
   ·exact hitn
   ·exact(hs.heap.cG cG).kh (.inr rfl)
  ·rw[show ad[sp.id]?=E.ad[sp.id]? from hlive]
   exact hloc
 ·obtain⟨rfl,p,A,I,h2,h3⟩:=hq
  simp only[Ed,if_true];exact hQ _ _ ⟨_,p,A,I,h2,h3⟩
theorem SE(hm:P.follows .mixedOrders=true)(ht:aw P τ)(hL:aQ P m L body)(hr:kW P τ L m sp br body)(I:sd P sp bq bD br)
  (hu1:∀d,(aX sp.inv d).fr[sp.t1]?=some .undef) (hu2:∀d,(aX sp.inv d).fr[sp.t2]?=some .undef) (hut:∀d,(aX sp.inv d).fr[sp.it]?=some (.lit (.pointer (some ⟨sp.bJ d,0,none⟩))))
  {r0 r1 b0 b1 r2:Nat} (U:∀d,(aX sp.inv d).H[sp.id]?=some (.map sp.K sp.V (ri d) (ci d))) (N:∀r d g,sp.st r d=some g->ri g=ri d/\ci g=ci d) (him:sp.id<m)
  {s s1:aH} {d:LG} {rZ:LL} {aL:Nat} (hp:fW P τ.pf bq bq.toList.dropLast s.au s1.au) (hx:s1.eval (.tmp sp.y)=.map sp.id) (hid:s1.H[sp.id]?=some (.map sp.K sp.V rZ aL)) (hn:(rZ.map cP).Nodup)
  (A:∀r∈rZ,cP r<aL) (hin:∀b,iI m sp.inv sp.ps (iu sp.opens (sp.yP s1 b))=some (true,sp.init d b)) (W:∀b,sp.bJ (sp.init d b)=b) (hri:∀b,ri (sp.init d b)=rZ/\ci (sp.init d b)=aL)
  (O:∀b p,p.Perm rZ->(dc sp.st sp.bJ p (sp.init d b)).isSome=true) (E:af) (a:Act) (hs:bM s.au E a) (q:Option Nat) (hro:gT q body) :
  (kV r0 b0 r1 b1 r2 bq bD br sp.t2 body).wpIn (fz q) 0 P (fun e B F=>e=.normal/\∃b p g,p.Perm rZ/\dc sp.st sp.bJ p (sp.init d b)=some g/\eG m E (aX sp.inv g).au B F) a E.w:=by
 refine wpIn_seq (wpIn_region ?_);obtain⟨o2,ty,J,_⟩:=I.r0;have hsz:bq.size=bq.toList.dropLast.length+1:=by
  have h:=congrArg List.length J;simpa using h
 have hl:jh bq.size=ka 0 bq.toList.dropLast.length++[bq.toList.dropLast.length]:=by
  rw[hsz,List.range_succ,AS]
 rw[hl];refine qL (pf:=τ.pf) q bq.toList.dropLast 0 s.au s1.au E a _ (fun j o M=>?_) hp hs fun B F hc=>?_
 ·have A:=bA M
  have:bq.toList[j]?=some o:=by
   rw[J,fB A];exact M
  simpa using this
 ·obtain⟨Y,r1,h1,h2⟩:=hc
  refine adX hm ht hL hr I hu1 hu2 hut U N him hx hid hn A hin W hri O { w:=F,H:=s1.au.H,ad:=Y,X:=E.X.re r1 } B h1 q hro fun a2 w2 ⟨b,p,g,g1,g2,g3⟩=>?_;exact⟨rfl,b,p,g,g1,g2,eG.after h2.toM g3⟩
theorem adY(hm:P.follows .mixedOrders=true)(ht:aw P τ){rest:Code}{q B:bF}(hL:aQ P m L body)(hr:kW P τ L m sp br body)(ho:sd P sp bq bD br)
  (hu1:∀d,(aX sp.inv d).fr[sp.t1]?=some .undef) (hu2:∀d,(aX sp.inv d).fr[sp.t2]?=some .undef) (hut:∀d,(aX sp.inv d).fr[sp.it]?=some (.lit (.pointer (some ⟨sp.bJ d,0,none⟩))))
  {r0 r1 b0 b1 r2:Nat} (hid2:∀d,(aX sp.inv d).H[sp.id]?=some (.map sp.K sp.V (ri d) (ci d))) (hkeep:∀r d g,sp.st r d=some g->ri g=ri d/\ci g=ci d) (him:sp.id<m)
  {rZ:LG->LL} {aL:LG->Nat} {pre:LG->aH} (hy:∀d,(fY P τ bq bq.toList.dropLast (aX q.inv d) fun s=>.done .normal s).gN=some (.normal,pre d)) (J:∀d,(pre d).eval (.tmp sp.y)=.map sp.id) (hid:∀d,(pre d).H[sp.id]?=some (.map sp.K sp.V (rZ d) (aL d)))
  (hin:∀d b,iI m sp.inv sp.ps (iu sp.opens (sp.yP (pre d) b))=some (sp.side d b,sp.init d b)) (hadr:∀d b,sp.bJ (sp.init d b)=b) (hri:∀d b,ri (sp.init d b)=rZ d/\ci (sp.init d b)=aL d)
  (hinv:B.inv=sp.inv) (houts:B.outs=q.outs) (O:pJ P m rest B) (hst:∀d,q.st d=kX sp B.st (rZ d) (aL d) d) :
  pJ P m (.seq (kV r0 b0 r1 b1 r2 bq bD br sp.t2 body) rest) q:=by
 intro d i g h;rw[hst]at h;unfold kX at h;cases aV:gq (rZ d) (aL d)with
 |false=>rw[aV]at h; cases h
 |true=>
  rw[aV]at h;simp only[cT]at h;have hall:=B4 h;obtain⟨hn,hlt⟩:=B6 aV;have I:∀b p,p.Perm (rZ d)->sp.side d b=true/\∃A,dc sp.st sp.bJ p (sp.init d b)=some A/\B.st A=some (some i,g):=by
   intro b p F;have:=hall b p F;cases W:sp.side d b with
   |false=>rw[W]at this; cases this
   |true=>
    rw[W]at this;simp only[cT]at this;cases M:dc sp.st sp.bJ p (sp.init d b)with
    |none=>rw[M]at this; cases this
    |some A=>
     rw[M]at this;exact⟨rfl,A,rfl,this⟩
  obtain⟨_,A,_,g1⟩:=I 0 (rZ d) (xT _);obtain⟨o,Y,_⟩:=O A i g g1;refine⟨o,by rw[<-houts]; exact Y,fun ro hro E a hs=>wpIn_seq (wpIn_mono (SE hm ht hL hr ho hu1 hu2 hut hid2 hkeep him (Cc ht (hy d)) (J d) (hid d) hn hlt (fun b=>by rw[hin d b,(I b (rZ d) (xT _)).1]) (hadr d) (hri d) (fun b p F=>?_) E a hs ro (LM hro.seq1)) fun e a1 w1 hq=>?_)⟩
  ·obtain⟨_,N,h2,_⟩:=I b p F
   rw[h2];rfl
  ·obtain⟨rfl,b,p,N,F,M,ad,X,hs2,hle⟩:=hq
   obtain⟨_,d3,h3,h4⟩:=I b p F;rw[M]at h3;cases h3;obtain⟨o',ho2,U⟩:=O N i g h4;rw[Y]at ho2;cases ho2;rw[hinv]at U;exact wpIn_mono (U ro hro.Bj { w:=w1,H:=(aX sp.inv N).au.H,ad:=ad,X:=X } a1 hs2) fun x a2 w2 J=>⟨J.1,eG.after hle J.2⟩
theorem aQ.L1(hm:P.follows .mixedOrders=true)(F:aw P τ){fn:Func}{q qr:bF}{r0 b0 r1 b1 r2:Nat}{rZ:LG->LL}{aL:LG->Nat}
  (N:∀d,(aX sp.inv d).H[sp.id]?=some (.map sp.K sp.V (ri d) (ci d))) (I:∀r d A,sp.st r d=some A->ri A=ri d/\ci A=ci d) (W:fT sp.id m=true) (hn:mF q.key (cB (bf fn))=true) (hL:aQ P m L (bf fn))
  (hc:bS fn q.key=.seq (kV r0 b0 r1 b1 r2 (mH (bS fn q.key)) (Ca (bS fn q.key)) (om (bS fn q.key)) sp.t2 (qM (bS fn q.key))) (sf (bS fn q.key)))
  (g:(B8 P sp (mH (bS fn q.key))&&B9 sp (Ca (bS fn q.key))&&B_ sp (om (bS fn q.key)))=true)
  (hr:kW P τ L m sp (om (bS fn q.key)) (qM (bS fn q.key)))
  (Y:∀d,(aX sp.inv d).fr[sp.t1]?=some .undef) (hu2:∀d,(aX sp.inv d).fr[sp.t2]?=some .undef) (hut:∀d,(aX sp.inv d).fr[sp.it]?=some (.lit (.pointer (some ⟨sp.bJ d,0,none⟩))))
  {pre:LG->aH} (hy:∀d,(fY P τ (mH (bS fn q.key)) (mH (bS fn q.key)).toList.dropLast (aX q.inv d) fun s=>.done .normal s).gN=some (.normal,pre d)) (hx:∀d,(pre d).eval (.tmp sp.y)=.map sp.id) (hid:∀d,(pre d).H[sp.id]?=some (.map sp.K sp.V (rZ d) (aL d)))
  (hin:∀d b,iI m sp.inv sp.ps (iu sp.opens (sp.yP (pre d) b))=some (sp.side d b,sp.init d b)) (O:∀d b,sp.bJ (sp.init d b)=b) (hri:∀d b,ri (sp.init d b)=rZ d/\ci (sp.init d b)=aL d)
  (U:qr.inv=sp.inv) (J:qr.outs=q.outs) (M:qI P τ L m (sf (bS fn q.key)) qr) (hst:∀d,q.st d=kX sp qr.st (rZ d) (aL d) d) :
  aQ P m (L.gF m q) (bf fn):=by
 refine aQ.F0 hn hL fun B=>?_;rw[hc]at B;obtain⟨hLb,hLr⟩:=Su B;simp only[aR]at g;rw[hc];exact adY hm F hLb hr (LQ g.1.1 g.1.2 g.2) Y hu2 hut N I (by rw[<-jS]; exact W) hy hx hid hin O hri U J (M.sat hm F hLr) hst
end range
def eG.F6{m m':Nat}{E:af}{s':St}{d:Act}{w':be}(h:eG m' E s' d w')(hm:m<=m'):eG m E s' d w':=by
 obtain⟨g,q,A,B⟩:=h;exact⟨g,q,A,B.mono hm⟩
variable {P:ak}
theorem c_.mono{m m':Nat}{c:Code}{s:St}{x:cu}{s':St}(h:c_ P m' c s x s')(hm:m<=m'):c_ P m c s x s':=
 fun q g E a hs=>wpIn_mono (h q g E a hs) fun _ _ _ d=>⟨d.1,d.2.F6 hm⟩
theorem yq.mono{P:ak}{m m':Nat}{c:Code}(hm:m<=m'){x:cu}{s':St}:∀{n:Nat} {s:St},yq P m' c n s x s'->yq P m c n s x s'
 |0,_,h=>⟨h.1,h.2.mono hm⟩
 |_+1,_,⟨s1,d,g⟩=>⟨s1,d.mono hm,g.mono hm⟩
theorem aQ.mono{P:ak}{m m':Nat}{L:LT}{c:Code}(h:aQ P m' L c)(hm:bW m m'=true):aQ P m L c:=by
 have hm:=lk hm;refine⟨fun k d g s t q Q A=>?_,fun id s I E a hs=>(h.2.1 id s I E a hs).F6 hm,fun k d g s t q Q A=>?_⟩
 ·obtain⟨x,s',⟨n,B⟩,F⟩:=h.1 k d g s t q Q A
  exact⟨x,s',⟨n,B.mono hm⟩,F⟩
 ·obtain⟨x,s',B,F⟩:=h.2.2 k d g s t q Q A
  exact⟨x,s',B.mono hm,F⟩
open Go
theorem SF{a:G}{l:LG}:gi (a::l) 0=a:=rfl
theorem SG{a:G}{l:LG}{n:Nat}:gi (a::l) (n+1)=gi l n:=rfl
theorem adZ{n:Int}:(G.i n).iV=n:=rfl
theorem ad0{n:Nat}:aA n n=true:=Nat.beq_refl n
def L2(sp:gp)(tl:LG->bk)(rZ:LL)(aL:Nat)(d:LG):bk:=
 match rZ with
 |[x]=>bif gq [x] aL then bif sp.side d 0 then (dc sp.st sp.bJ [x] (sp.init d 0)).bind tl else none else none
 |_=>none
theorem ad1{sp:gp}{tl:LG->bk}{rZ:LL}{aL:Nat}{d:LG}{r:Option Nat × LG}
  (hs:∀b,sp.side d b=sp.side d 0) (A:∀x b,(dc sp.st sp.bJ [x] (sp.init d b)).bind tl=(dc sp.st sp.bJ [x] (sp.init d 0)).bind tl)
  (h:L2 sp tl rZ aL d=some r):kX sp tl rZ aL d=some r:=by
 unfold L2 at h;split at h
 case h_2=>cases h
 rename_i x;cases g:gq [x] aL with
 |false=>rw[g]at h; cases h
 |true=>
  cases q:sp.side d 0 with
  |false=>rw[g,q]at h; cases h
  |true=>
   rw[g,q]at h;unfold kX;rw[g];refine B5 fun b p B=>?_;rw[List.perm_singleton.1 B,hs b,q,cT,A x b];exact h
theorem ad2{st:LG->LG->Option LG}{bJ:LG->Nat}{x e:LG}:dc st bJ [x] e=(st x e).bind fun d=>bif aA (bJ d) (bJ e) then some d else none:=by
 simp only[dc];cases st x e<;>rfl
theorem ad3{α β:Type}{c:Bool}{a b:Option α}{f:α->Option β}:(bif c then a else b).bind f=bif c then a.bind f else b.bind f:=by
 cases c<;>rfl
theorem ad4{c:Bool}{X Y:bk}{K:Nat->LG->Option LG}{r:LG}(h:∀v,X=some v->Y=some v)(hr:bp c (fa X) K=some r):bp c (fa Y) K=some r:=by
 cases X with
 |some v=>rw[h v rfl]; exact hr
 |none=>cases c<;>cases hr
theorem eV.pK{w w':be}(h:@eV rK w w'):eV w w':=⟨h.1,h.2.1,h.2.2.1,fun _=>h.2.2.2 rfl⟩
theorem af.le.pK{E E':af}(h:@af.le rK E E'):E.le E':=by
 cases h with
 |mk a b c d e f r g=>exact⟨a,b,c,d,e,f,r,eV.pK g⟩
theorem iH.pK{P:ak}{f:bH}{args:List AV}{H:List ay}{Q:AV->List ay->Prop}(h:@iH rK P f args H Q):iH P f args H Q:=fun E d A B F=>
 (h E d A B F).mono fun _ _ ⟨c,v,H',e,q,g,I,r1,r2,r3⟩=>⟨c,v,H',e,q,g,I,r1,r2,r3.pK⟩
theorem aw.pK{P:ak}{τ:ar}(h:@aw rK P τ):aw P τ:=by
 cases h with
 |mk q A hC B F=>
  refine⟨fun f args b v d g=>⟨(q f args b v d g).1,fun H=>iH.pK ((q f args b v d g).2 H)⟩,fun f args H b v H' d g=>⟨(A f args H b v H' d g).1,iH.pK (A f args H b v H' d g).2⟩,hC,fun f args H t d Q g=>?_,F⟩;obtain⟨I,v,H',J,M,N⟩:=B f args H t d Q g;exact⟨I,v,H',iH.pK J,M,N⟩
theorem ad5(w:be)(q:Nat)(os:Array Obj):Ext w (qt (w.drewN q) os):=
 ⟨by simp[qt,World.drewN],fun b d=>by
  show (w.heap++os)[b]?=w.heap[b]?
  rw[Array.getElem?_append_left d],⟨rfl,rfl,rfl,fun _=>gk _ _⟩⟩
theorem ad6{E:af}(H:rM E){name:String}{g:Nat}{k:IntKind}{d:List Int}(q:P.globalNamed name=some g) (A:(g,(d.map fun z=>Value.int k z).toArray)∈xW):Pn P E.w name k d:=by
 obtain⟨_,t,f,h⟩:=H _ A;unfold Pn atF;rw[q];simp only[xS];rw[h]
theorem ad7{w:be}{name:String}{g:Nat}{k:IntKind}{zs:List Int}(d:P.globalNamed name=some g)(h:Pn P w name k zs):∃t f,w.heap[g]?=some (.cells (zs.map fun z=>Value.int k z).toArray t f):=by
 unfold Pn atF at h;rw[d]at h;simp only[xS]at h;split at h
 ·rename_i cs t f hc
  cases h;exact⟨t,f,hc⟩
 ·cases h
theorem ad8{f:bH}{vs:List al}{u:al}(h:∀E:af,rM E->Calls P f vs.toArray E.w fun e w'=>e=.returned u/\Ext E.w w'):eA P f (vs.map .lit) (.lit u):=by
 intro H E g hH HE A;have e:g=vs.toArray:=by
  have:∀(vs d:List al),aq E (vs.map AV.lit) d->d=vs:=by
   intro vs
   induction vs with
   |nil=>intro d h; cases d with
    |nil=>rfl
    |cons _ _=>simp[aq]at h
   |cons v vs B=>
    intro d h;cases d with
    |nil=>simp[aq]at h
    |cons u d=>
     simp only[List.map_cons,aq,ae]at h;rw[h.1,B d h.2]
  have:=this vs g.toList A;rw[<-this]
 rw[e];refine(h E HE.iD).mono ?_;rintro _ w' ⟨rfl,q⟩;refine⟨u,.lit u,H,rfl,⟨rfl,rfl⟩,E.ad,E.X.r,by simp[ae],?_,?_⟩
 ·rw[<-hH]; exact HE.ext q
 ·rw[<-hH]; exact af.jn q
end Go.AL
