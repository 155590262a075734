/-
 What is proved here: the library's sort of a slice by a function that compares,as a function on data (by the kit's own contracts). No program in sight; what is asked is that the library's text lies in the program.
-/
import Derived.Test.YtkkkhbhbjlikhaaGreatDoorMG
import Derived.Shelf.SlSortCmp.NoneTotal
set_option linter.all false
open Array renaming getElem?_modify->vo,range->j9,getElem?_append_left->Ei,size_range->aae
open Go renaming World->be
open Go.Proofs renaming sortWorldK->Ek
open Go.Sort renaming grow->qt,mapBlock->qu,putRowK->Pp,putRow->vq,ahead->nH
open List renaming range->jh,getElem?_eq_getElem->bT,getD_eq_getElem?_getD->dj,getElem?_map->dw,ext_getElem?->ql
open List.cons renaming injEq->Jk
open Nat renaming zero_le->lj,mul_comm->atI
open Option.some renaming injEq->bQ
namespace Go.AL
open Go Go.Proofs
variable [Dr]
def yQ:∀(ks:List Kd) (r:LG),(fc ks r).length=ks.length
 |[],_=>rfl
 |_::ks,r=>by simp[fc,yQ ks]
def ad9:∀(k:Kd) (g:G),fm (tU k g)=true/\(tU k g).oneCell'=true
 |.int _,_=>⟨rfl,rfl⟩
 |.str,_=>⟨rfl,rfl⟩
 |.bool,_=>⟨rfl,rfl⟩
 |.list _,_=>⟨rfl,rfl⟩
theorem F7:∀(ks:List Kd) (r:LG),∀ v∈fc ks r,fm v=true/\v.oneCell'=true
 |[],_,v,h=>by simp[fc]at h
 |k::ks,r,v,h=>by
  simp only[fc,List.mem_cons]at h;rcases h with rfl|h
  ·exact ad9 _ _
  ·exact F7 ks r.tail v h
def Ch{E:af}:∀{ks:List Kd} {r:LG} {d:List Value},Kd.dM ks=true->(aq E (bh ks r) d↔d=fc ks r)
 |[],r,[],_=>by simp[bh,aq,fc]
 |[],r,_::_,_=>by simp[bh,aq,fc]
 |_::_,r,[],_=>by simp[bh,aq,fc]
 |.list _::_,_,_::_,h=>by simp[Kd.dM]at h
 |.int k::ks,r,v::d,h=>by
  simp only[Kd.dM]at h;simp only[bh,aq,Ch (ks:=ks) h,fc,mX,tU,ae,Jk]
 |.str::ks,r,v::d,h=>by
  simp only[Kd.dM]at h;simp only[bh,aq,Ch (ks:=ks) h,fc,mX,tU,ae,Jk]
 |.bool::ks,r,v::d,h=>by
  simp only[Kd.dM]at h;simp only[bh,aq,Ch (ks:=ks) h,fc,mX,tU,ae,Jk]
variable {E:af} {b:Nat} {rZ:LL} {C:LG->Option LG}
theorem SH{ks:List Kd}(r:LG)(h:Kd.dM ks=true):aq E (bh ks r) (fc ks r):=(Ch h).2 rfl
theorem L3{ks:List Kd}{r:LG}{o:Nat}(hs:Kd.dM ks=true)(h:dL E (bh ks r) b o):∀c,c<ks.length->E.w.cell? ⟨b,o+c,none⟩=some (fc ks r)[c]! := by
 obtain⟨q,d,_,g⟩:=A4 h;have e:=(Ch hs).1 d;subst e;intro c hc;refine g c _ ?_;rw[bT (by rw[yQ]; exact hc),getElem!_pos _ c (by rw[yQ]; exact hc)]
theorem ad_{w w':be}(h:@Ext rK w w'):∃q os,w'=qt (w.drewN q) os:=by
 obtain⟨F,I,g,A,B,d⟩:=h;have d:=d rfl;refine⟨w'.drawn-w.drawn,w'.heap.extract w.heap.size w'.heap.size,?_⟩;cases w with
 |mk W Y dr os ou=>
  cases w' with
  |mk J M N O U=>
   simp only at F I g A B d;subst g A B;simp only[qt,World.drewN,World.mk.injEq,eq_self,true_and,and_true]
   grind
def bare(w:be):af:={ w:=w,H:=[],ad:=[],X:=⟨fun _=>False,fun _=>False,fM⟩ }
theorem ad'(w:be)(g:rM (bare w)):aO (bare w):=⟨rfl,fun i j b m n h=>by simp[bare]at h,fun i b m h=>by simp[bare]at h,fun b h=>h.elim,fun i o h=>by simp[bare]at h,g,fun l k l' A b m n d=>by simp[bare,fM]at d,fun i b m l k n hi=>by simp[bare]at hi,fun l k b m d=>by simp[bare,fM]at d,fun i j o o' l hi=>by simp[bare]at hi,fun l _ k q d=>by simp[bare,fM]at d⟩
theorem aea{P:Program}{g:FuncId}{args:List AV}{n:Int} (h:@e_ rK P g args [] (.lit (.int .i64 n)) []) {cs:Array Value} (w:be) (A:rM (bare w)) (hr:aq (bare w) args cs.toList) :
  Calls P g cs w fun e w'=>e=.returned (.int .i64 n)/\∃q os,w'=qt (w.drewN q) os:=by
 refine(h (bare w) cs rfl (ad' w A) hr).mono ?_;rintro e w' ⟨c,v,H',rfl,⟨rfl,rfl⟩,N,O,d,U,B⟩;simp only[ae]at d;subst d;cases B with
 |mk _ F I _ _ _ _ J=>
 refine⟨rfl,ad_ (@Ext.mk rK _ _ F (fun b M=>I b M ?_) J)⟩;rintro(⟨i,c,hi⟩|⟨l,k,c,W⟩)<;>simp_all[bare,fM]
def Ci(C:LG->Option LG)(r s:LG):Int:=(gi ((C [.l [r],.l [s]]).getD []) 0).iV
def iY(rZ:LL)(i:Nat):LG:=rZ.getD i (rZ.headD [])
theorem Cj(h:rZ≠[])(i:Nat):iY rZ i∈rZ:=by
 unfold iY;rw[dj];cases hi:rZ[i]? with
 |some x=>grind
 |none=>
  cases rZ with
  |nil=>grind
  |cons x l=>simp
abbrev qP(C:LG->Option LG)(rZ:LL)(i j:Nat):Int:=Ci C (iY rZ i) (iY rZ j)
structure wD (C:LG->Option LG) (rZ:LL):Prop where
 ans:∀r∈rZ,∀s∈rZ,∃n,C [.l [r],.l [s]]=some [.i n]
 swo:Go.Sort.SWO (ltOf (qP C rZ))
 small:rZ.length<4611686018427387904
noncomputable def qQ(C:LG->Option LG)(rZ:LL):Array Nat:=Go.Sort.pdq (ltOf (qP C rZ)) (j9 rZ.length) 0 (j9 rZ.length).size (Lib.bitLen (j9 rZ.length).size) true true
noncomputable def wE(C:LG->Option LG)(rZ:LL):LL:=(qQ C rZ).toList.map (iY rZ)
open Classical in
noncomputable def sr(C:LG->Option LG)(d:LG):Option LG:=
 if (gi d 0).rZ=[] then some [.l []] else if wD C (gi d 0).rZ then some [.l (wE C (gi d 0).rZ)] else none
theorem F8(h:wD C rZ):Go.Sort.PermIn 0 (j9 rZ.length).size (j9 rZ.length) (qQ C rZ)/\Go.Sort.SortedIn (ltOf (qP C rZ)) 0 (j9 rZ.length).size (qQ C rZ):=
 Go.Sort.pdq_sorts _ h.swo _ 0 _ _ true true (lj _) (Nat.le_refl _) (Or.inl rfl)
theorem aec(h:wD C rZ):(qQ C rZ).toList.Perm (jh rZ.length):=by
 have:=(F8 h).1.2.2;have e:=(F8 h).1.1;simp only[aae]at this e;rw[show (qQ C rZ).extract 0 rZ.length=qQ C rZ by grind,show (j9 rZ.length).extract 0 rZ.length=j9 rZ.length by simp]at this
 grind
theorem SI(h:wD C rZ):(qQ C rZ).size=rZ.length:=by
 have:=(F8 h).1.1
 grind
theorem aed(rZ:LL):(jh rZ.length).map (iY rZ)=rZ:=by
 apply ql;intro i;rw[dw];by_cases h:i<rZ.length<;>simp_all[iY]
theorem SJ(h:wD C rZ):(wE C rZ).Perm rZ:=by
 have:=(aec h).map (iY rZ);rw[aed]at this;exact this
theorem aee(h:wD C rZ):(wE C rZ).Pairwise fun a b=>¬ Ci C b a<0:=by
 unfold wE;rw[List.pairwise_map,List.pairwise_iff_getElem];intro i j hi d g;have:=(F8 h).2 i j (lj _) g (by rw[aae,<-SI h]; simpa using d);simp only[Array.length_toList]at hi d;rw[getElem!_pos _ i hi,getElem!_pos _ j d]at this;simpa[ltOf,qP]using this
section
variable {P:Program} {ρ:Go.Shelf.Ren}
theorem aef{K:List Kd}{m:Nat}(hs:Kd.dM K=true)(B:isRow E.w b (m*K.length)) (hr:er E K.length (rZ.map (bh K)) b 0) (d:Array Nat) (q:d.size=rZ.length) (hi:∀ i,i<rZ.length->d[i]! = i):
  Go.Sort.HoldsK (fun i=>fc K (iY rZ i)) K.length E.w b 0 d:=by
 intro t g;rw[Go.Sort.size_flatK,q]at g;have F:0<K.length:=by
  rcases Nat.eq_zero_or_pos K.length with h|h
  grind
  ·exact h
 have A:t / K.length<rZ.length:=Nat.div_lt_of_lt_mul (by rw[atI]; exact g);rw[Go.Sort.get_flatK _ _ _ _ (by rw[q]; exact g),hi _ A];have I:(rZ.map (bh K))[t / K.length]?=some (bh K (iY rZ (t / K.length))):=by
  rw[dw,bT A]
  grind[iY]
 have:=L3 hs (pr hr I).2 (t%K.length) (Nat.mod_lt _ F);refine⟨?_,?_⟩
 simp_all[atI,Nat.div_add_mod]
 ·obtain⟨cs,M,J,_⟩:=B
  simp[World.frozen?,J]
theorem SL{w:be}{wF:Nat}{f:Array Value->Array Value}{x:Nat}(h:x≠wF):(qu w wF f).heap[x]?=w.heap[x]?:=by
 simp[qu,vo,Ne.symm h]
theorem L4(HE:aO E){K:List Kd}{rows':LL}{m:Nat}(hs:Kd.dM K=true) (hH:E.H=[.vQ K.length 0 (rZ.map (bh K))]) (d:E.ad[0]? = some (some (b,m))) (hrow:isRow E.w b (m*K.length))
  (hr:er E K.length (rZ.map (bh K)) b 0) (hm:rows'.length<=m) {w':be} (A:E.w.heap.size<=w'.heap.size) (hsame:∀x,x<E.w.heap.size->x≠b->w'.heap[x]?=E.w.heap[x]?) (hrow':isRow w' b (m*K.length))
  (Y:∀i c,i<rows'.length->c<K.length->w'.cell? ⟨b,i*K.length+c,none⟩=some (fc K (rows'.getD i []))[c]!) (B:eV E.w w') :
  e9 E (.tuple []) [.vQ K.length 0 (rows'.map (bh K))] (.tuple #[]) w':=by
 have U:E.H[0]?=some (ay.vQ K.length 0 (rZ.map (bh K))):=by rw[hH]; rfl
 have J:∀x,x<E.w.heap.size->(∀n,E.ad[0]?≠some (some (x,n)))->w'.heap[x]?=E.w.heap[x]?:=fun x g hn=>hsame x g fun e=>hn m (by rw[d,e]);have eset:E.H.set 0 (ay.vQ K.length 0 (rows'.map (bh K)))=[.vQ K.length 0 (rows'.map (bh K))]:=by rw[hH]; rfl
 have F:E.ad.set 0 (some (b,m))=E.ad:=by
  apply ql;intro i;rw[List.getElem?_set];split
  ·rename_i e
   subst e;split
   ·exact d.symm
   ·rename_i h; exact(h (bA d)).elim
  ·rfl
 have I:(∀v,(ay.vQ K.length 0 (rows'.map (bh K))).bt=some v->(ay.vQ K.length 0 (rZ.map (bh K))).bt=some v/\E.ad[0]?=some (some (b,m))):=fun v q=>⟨q,d⟩
 have M:∀v u,(ay.vQ K.length 0 (rows'.map (bh K))).bt=some v->(ay.vQ K.length 0 (rZ.map (bh K))).bt=some u->u<=v:=fun v u q hu=>by
  simp only[ay.bt,bQ]at q hu;omega
 have N:=af.pq (E:=E) (w':=w') (id:=0) (o:=.vQ K.length 0 (rZ.map (bh K))) (o':=.vQ K.length 0 (rows'.map (bh K))) (l:=some (b,m)) U HE.len A J (fun b' n' e=>.inr ⟨m,by cases e; exact d⟩) (.inl I) M (fun h=>by simp[ay.bt]at h) B;have hobj:bK { w:=w',H:=E.H.set 0 (ay.vQ K.length 0 (rows'.map (bh K))),ad:=E.ad.set 0 (some (b,m)),X:=E.X } 0 (.vQ K.length 0 (rows'.map (bh K))):=by
  simp only[bK];refine .inr ⟨b,m,by rw[F]; exact d,hrow',by simpa using hm,?_,?_⟩
  ·intro r hr
   obtain⟨x,_,rfl⟩:=List.mem_map.1 hr;exact jC _ _
  ·rw[qv]
   intro i r hi;rw[dw]at hi;cases g:rows'[i]? with
   |none=>rw[g]at hi; cases hi
   |some x=>
    rw[g]at hi;cases hi;refine⟨vz _ _,?_⟩;rw[mq];intro c a W;have hc:c<K.length:=by have:=bA W; rwa [vz]at this
    have hlt:=bA g;have hget:rows'.getD i []=x:=by rw[dj,g]; rfl
    have q:(fc K x)[c]?=some (fc K x)[c]! := by rw[bT (by rw[yQ]; exact hc),getElem!_pos _ c (by rw[yQ]; exact hc)]
    refine⟨(fc K x)[c]!,?_,(F7 K x _ (List.mem_of_getElem? q)).1,?_⟩
    ·have:=Y i c hlt hc
     rw[hget]at this;rw[show 0+i*K.length+c=i*K.length+c by omega];exact this
    ·exact(rL.1 (SH x hs)).2 c a _ W q
 have O:=aO.rN HE U A J (fun b' n' e=>.inr ⟨m,by cases e; exact d⟩) (.inl I) M (fun h=>by simp[ay.bt]at h) hobj B;rw[eset,F]at N O;exact⟨E.ad,E.X.r,by simp[ae,aq],O,N⟩
theorem F9(L:SlLaysF0.n6 P ρ)(K:List Kd)(hs:Kd.dM K=true) (aE:∀ w,(isAgg (ρ.t 24)).run P w=.ok true w) (zE:∀ w,(Go.sizeOf (ρ.t 24)).run P w=.ok K.length w) (g:FuncId) (hg:eC P g=true)
  (C:LG->Option LG) (hC:∀d r,C d=some r->@e_ rK P g (dS [] [.s (.row K),.s (.row K)] d) [] (dA (dS [] [.s (.int .i64)] r)) []) (d r:LG) (h:sr C d=some r) :
  e_ P (ρ.f 6) (dS (cd [.vQ K 0] d) [.s (.vQ 0 K.length),.s (.fn g)] (eo 1 d)) (aF (cX (cd [.vQ K 0] d) [.vQ K 0] d)) (dA []) (aF (cX (cd [.vQ K 0] r) [.vQ K 0] r)):=by
 have e1:gi d 0=d.headD default:=rfl;intro E cargs hH HE B;simp only[dS,lz,fF,cd,cX,gM,aF,List.map_cons,List.map_nil,aG.au,eM.ax,eM.len,List.getD_cons_zero,<-e1]at hH B;obtain⟨cs⟩:=cargs
 match cs,B with
 |[c0,c1],B=>
 simp only[aq,and_true]at B;obtain⟨h0,F⟩:=B;simp only[ae]at F;obtain⟨I,rfl,O⟩:=F;have O:I=#[]:=by
  obtain⟨I⟩:=I;cases I with
  |nil=>rfl
  |cons x l=>simp[aq]at O
 subst O;simp only[ae]at h0;obtain⟨⟨bg,cap,rfl,hcap,hbase⟩,_,hlive⟩:=h0;have hl0:E.H[0]?=some (ay.vQ K.length 0 ((gi d 0).rZ.map (bh K))):=by rw[hH]; rfl
 obtain⟨hn,U⟩:=hlive ⟨_,hl0,rfl⟩;unfold sr at h;split at h
 ·rename_i q
  cases h;have hH':E.H=[ay.vQ K.length 0 []]:=by rw[hH,q]; rfl
  rw[q];refine(AnyF.slices_SortFunc_none L bg cap _ E.w).mono ?_;rintro e w' ⟨rfl,rfl⟩;refine⟨_,.tuple [],[ay.vQ K.length 0 []],rfl,⟨rfl,rfl⟩,E.ad,E.X.r,by simp[ae,aq],?_,?_⟩
  ·rw[<- hH']
   exact HE
  ·rw[<- hH']
   exact af.le.refl E
 ·rename_i q
  split at h
  case isFalse=>cases h
  rename_i aV;cases h;have hpos:0<(gi d 0).rZ.length:=List.length_pos_iff.2 q;rcases HE.obj 0 _ hl0 with⟨_,e2⟩|⟨b,m,J,M,hm,hcl,hr⟩
  grind
  obtain⟨_,o,W,hc⟩:=U b m J;have hmm:(gi d 0).rZ.length<=m:=ab;have W:o=0:=by have:=W ab; omega
  subst W;generalize hrs:(gi d 0).rZ=rZ at *;rw[hc];have A:(j9 rZ.length).size=rZ.length:=aae;have hdi:∀i,i<rZ.length->(j9 rZ.length)[i]! = i:=fun i hi=>by rw[getElem!_pos _ i (by rw[A]; exact hi)]; simp
  have hH0:=aef hs M hr (j9 rZ.length) A hdi;have N:b<E.w.heap.size:=(HE.lt 0 b m J).1;have hcmp:CmpLays P g #[] (fun i=>fc K (iY rZ i)) K.length (qP C rZ) b 0 (j9 rZ.length).size E.w:=by
   intro mm os dk _ x y;obtain⟨n,hn⟩:=aV.ans _ (Cj q x) _ (Cj q y);have:=hC _ _ hn;simp only[dS,lz,fF,eo,Sh.sz,fw.sz,List.headD_cons,List.tail_cons,dA,G.rV,G.rZ,G.iV]at this;have e:qP C rZ x y=n:=by
    simp only[qP,Ci,hn];rfl
   rw[e];have ht:rM (bare (Ek (fun i=>fc K (iY rZ i)) K.length E.w b 0 mm dk os)):=fun p hp=>by
    obtain⟨F,t,f,h2⟩:=HE.iD p hp;have hne:p.1≠b:=fun e=>F.2.1 (.inl ⟨0,m,by rw[e]; exact J⟩);have Y:(Ek (fun i=>fc K (iY rZ i)) K.length E.w b 0 mm dk os).heap[p.1]?=E.w.heap[p.1]?:=by
     unfold Ek Pp vq qt;simp only[];rw[Ei (by simpa[qu,nH]using F.1),SL hne];rfl
    refine⟨⟨(Array.getElem?_eq_some_iff.1 (Y.trans h2)).1,?_,fun h=>h⟩,t,f,by rw[<-h2]; exact Y⟩;rintro(⟨i,c,hi⟩|⟨l,k,c,hk⟩)<;>simp_all[bare,fM]
   exact aea this _ ht (by
    simp only[aq,ae,and_true,Array.toList_append,List.append_nil]
    grind[F7,SH])
  have:=AnyQ.slices_SortFunc_eq L K.length aE zE (fun i=>fc K (iY rZ i)) (fun x=>yQ _ _) (fun x v U=>(F7 K _ v U).2) (qP C rZ) aV.swo g #[] b 0 (m-0) (j9 rZ.length) E.w
   (fun args w=>vJ hg args w) hcmp hH0 N (by rw[A]; exact aV.small)
  rw[A]at this;refine this.mono ?_;rintro e w' ⟨rfl,n,os,rfl⟩;refine⟨_,.tuple [],_,rfl,⟨rfl,rfl⟩,?_⟩;have eN:Go.Sort.pdq (ltOf (qP C rZ)) (j9 rZ.length) 0 rZ.length (Lib.bitLen rZ.length) true true=qQ C rZ:=by
   unfold qQ;rw[A]
  rw[eN];have hsz:=SI aV;have hlen:(wE C rZ).length=rZ.length:=(SJ aV).length_eq;have hh:=holdsK_sortWorldK_c (fun i=>fc K (iY rZ i)) K.length E.w b 0 (j9 rZ.length) (qQ C rZ) n os hH0 N (by rw[hsz,A]);refine L4 (rows':=wE C rZ) HE hs hH J M hr (by rw[hlen]; exact hmm) ?_ ?_ ?_ ?_ ?_
  simp_all[Ek,Pp]
  grind[Ek,Pp,vq,qt,qu,nH]
  ·obtain⟨cs,el,g1,g2⟩:=M
   unfold Ek Pp vq qt;unfold isRow;simp only[];rw[Ei (by simpa[qu,nH]using N)];simp only[qu,nH,vo,if_true,g1,Option.map_some];exact⟨_,_,rfl,by simp[Go.Sort.putCells,g2]⟩
  ·intro i c hi hc
   rw[hlen]at hi;have:=(hh.cell (i:=i) (c:=c) (by rw[hsz]; exact hi) hc).1;rw[Nat.zero_add]at this
   grind[wE]
  ·exact⟨rfl,rfl,rfl,fun _=>Nat.le_add_right _ _⟩
end
end Go.AL
