/-
 What is proved here: the library's sort of a slice by a function that compares,as a function on data (by the kit's own contracts). No program in sight; what is asked is that the library's text lies in the program.
-/
import Derived.Test.YtpaljghdgljgiaaGreatDoorMG
import Derived.Shelf.SlSortCmp.NoneTotal
set_option linter.all false
open Array renaming getElem?_modify->TP,range->jA,size_range->Ub,getElem?_append_left->Ud
open Go renaming World->ba
open Go.Proofs renaming sortWorldK->Bt
open Go.Sort renaming grow->Br,mapBlock->Bs,putRowK->J5,putRow->Uc,ahead->J6
open List renaming getElem?_map->bW,getElem?_eq_getElem->bY,mem_of_getElem?->eO,getElem?_eq_none->oG,getD_eq_getElem?_getD->cu,ext_getElem?->jz,range->fj
open List.cons renaming injEq->JN
open Nat renaming zero_le->eR,zero_add->cP,mul_comm->akv
open Option.some renaming injEq->be
namespace Go.AL
open Go Go.Proofs
variable [Dr]
theorem wq:∀(ks:List Kd) (r:LG),(er ks r).length=ks.length
 | [],_=>rfl
 |_::ks,r=>by simp[er,wq ks]
theorem Y5:∀(k:Kd) (g:G),dW (rf k g)=true/\(rf k g).oneCell'=true
 |.int _,_=>⟨rfl,rfl⟩
 |.str,_=>⟨rfl,rfl⟩
 |.bool,_=>⟨rfl,rfl⟩
 |.list _,_=>⟨rfl,rfl⟩
theorem zI:∀(ks:List Kd) (r:LG),∀ v∈er ks r,dW v=true/\v.oneCell'=true
 | [],_,v,h=>by simp[er]at h
 | k::ks,r,v,h=>by
  simp only[er,List.mem_cons]at h;rcases h with rfl|h
  ·exact Y5 _ _
  ·exact zI ks r.tail v h
theorem zJ{E:af}:∀{ks:List Kd} {r:LG} {d:List Value},Kd.c7 ks=true->(aw E (aT ks r) d↔d=er ks r)
 | [],r,[],_=>by simp[aT,aw,er]
 | [],r,_::_,_=>by simp[aT,aw,er]
 |_::_,r,[],_=>by simp[aT,aw,er]
 |.list _::_,_,_::_,h=>by simp[Kd.c7]at h
 | .int k::ks,r,v::d,h=>by
  simp only[Kd.c7]at h;simp only[aT,aw,zJ (ks:=ks) h,er,kL,rf,ad,JN]
 | .str::ks,r,v::d,h=>by
  simp only[Kd.c7]at h;simp only[aT,aw,zJ (ks:=ks) h,er,kL,rf,ad,JN]
 | .bool::ks,r,v::d,h=>by
  simp only[Kd.c7]at h;simp only[aT,aw,zJ (ks:=ks) h,er,kL,rf,ad,JN]
theorem H_{E:af}{ks:List Kd}(r:LG)(h:Kd.c7 ks=true):aw E (aT ks r) (er ks r):=(zJ h).2 rfl
theorem Y6{E:af}{ks:List Kd}{r:LG}{b o:Nat}(g:Kd.c7 ks=true)(h:cU E (aT ks r) b o):∀ c,c<ks.length->E.w.cell? ⟨b,o+c,none⟩=some (er ks r)[c]! := by
 obtain⟨q,h1,_,k⟩:=ye h;have e:=(zJ g).1 h1;subst e;intro c d;refine k c _ ?_;rw[bY (by rw[wq]; exact d),getElem!_pos _ c (by rw[wq]; exact d)]
theorem Y7{w w':ba}(h:@Ext x_ w w'):∃ q os,w'=Br (w.drewN q) os:=by
 obtain⟨h1,g,k,v,y,d⟩:=h;have d:=d rfl;refine⟨w'.drawn-w.drawn,w'.heap.extract w.heap.size w'.heap.size,?_⟩;cases w with
 | mk V W dr os ou =>
  cases w' with
  | mk I M N O U =>
   simp only at h1 g k v y d;subst k v y;simp only[Br,World.drewN,World.mk.injEq,eq_self,true_and,and_true];refine⟨?_,by omega⟩;apply Array.ext_getElem?;intro i;rw[Array.getElem?_append];split
   ·exact g i (by assumption)
   ·rw [Array.getElem?_extract]
    split
    ·congr 1
     omega
    ·rw[Array.getElem?_eq_none (by omega)]
def bare(w:ba):af:={ w:=w,H:=[],ae:=[],X:=⟨fun _=>False,fun _=>False,fe⟩ }
theorem Y8(w:ba)(g:sT (bare w)):aI (bare w):=⟨rfl,fun i j b m n h=>by simp[bare]at h,fun i b m h=>by simp[bare]at h,fun b h=>h.elim,fun i o h=>by simp[bare]at h,g,fun l k l' v b m n d=>by simp[bare,fe]at d,fun i b m l k n hi=>by simp[bare]at hi,fun l k b m d=>by simp[bare,fe]at d,fun i j o o' l hi=>by simp[bare]at hi,fun l _ k q d=>by simp[bare,fe]at d⟩
theorem Y9{P:Program}{g:FuncId}{args:List AV}{n:Int} (h:@fN x_ P g args [] (.lit (.int .i64 n)) []) {cs:Array Value} (w:ba) (d:sT (bare w)) (y:aw (bare w) args cs.toList) :
  Calls P g cs w fun e w'=>e=.returned (.int .i64 n)/\∃ q os,w'=Br (w.drewN q) os:=by
 refine(h (bare w) cs rfl (Y8 w d) y).mono ?_;rintro e w' ⟨c,v,H',rfl,⟨rfl,rfl⟩,V,W,h1,h2,I⟩;simp only[ad]at h1;subst h1;cases I with
 |mk _ M N _ _ _ _ O =>
 refine⟨rfl,Y7 (@Ext.mk x_ _ _ M (fun b hb=>N b hb ?_) O)⟩;rintro(⟨i,c,hi⟩|⟨l,k,c,U⟩)
 ·simp[bare]at hi
 ·simp[bare,fe]at U
def zK(C:LG->Option LG)(r s:LG):Int:=(gi ((C [.l [r],.l [s]]).getD []) 0).iV
def im(rZ:LL)(i:Nat):LG:=rZ.getD i (rZ.headD [])
theorem zL{rZ:LL}(h:rZ≠[])(i:Nat):im rZ i∈rZ:=by
 unfold im;rw[cu];cases hi:rZ[i]? with
 |some x=>exact eO hi
 | none =>
  cases rZ with
  |nil=>exact(h rfl).elim
  |cons x l=>simp
abbrev pb(C:LG->Option LG)(rZ:LL)(i j:Nat):Int:=zK C (im rZ i) (im rZ j)
structure tT (C:LG->Option LG) (rZ:LL):Prop where
 Y_:∀ r∈rZ,∀ s∈rZ,∃ n,C [.l [r],.l [s]]=some [.i n]
 swo:Go.Sort.SWO (ltOf (pb C rZ))
 small:rZ.length<4611686018427387904
noncomputable def ow(C:LG->Option LG)(rZ:LL):Array Nat:=Go.Sort.pdq (ltOf (pb C rZ)) (jA rZ.length) 0 (jA rZ.length).size (Lib.bitLen (jA rZ.length).size) true true
noncomputable def tU(C:LG->Option LG)(rZ:LL):LL:=(ow C rZ).toList.map (im rZ)
open Classical in
noncomputable def tV(C:LG->Option LG)(d:LG):Option LG :=
 if (gi d 0).rZ=[] then some [.l []] else if tT C (gi d 0).rZ then some [.l (tU C (gi d 0).rZ)] else none
theorem De{C:LG->Option LG}{rZ:LL}(h:tT C rZ):Go.Sort.PermIn 0 (jA rZ.length).size (jA rZ.length) (ow C rZ)/\Go.Sort.SortedIn (ltOf (pb C rZ)) 0 (jA rZ.length).size (ow C rZ) :=
 Go.Sort.pdq_sorts _ h.swo _ 0 _ _ true true (eR _) (Nat.le_refl _) (Or.inl rfl)
theorem Y'{C:LG->Option LG}{rZ:LL}(h:tT C rZ):(ow C rZ).toList.Perm (fj rZ.length):=by
 have:=(De h).1.2.2;have e:=(De h).1.1;simp only[Ub]at this e;rw[show (ow C rZ).extract 0 rZ.length=ow C rZ by rw[<-e]; simp,show (jA rZ.length).extract 0 rZ.length=jA rZ.length by simp]at this;simpa using this
theorem Ob{C:LG->Option LG}{rZ:LL}(h:tT C rZ):(ow C rZ).size=rZ.length:=by
 have:=(De h).1.1;simpa using this
theorem Za(rZ:LL):(fj rZ.length).map (im rZ)=rZ:=by
 apply jz;intro i;rw[bW];by_cases h:i<rZ.length
 ·rw [List.getElem?_range h, bY h]
  simp[im,cu,h]
 ·rw [oG (by simpa using h), oG (by omega)]
  rfl
theorem Oc{C:LG->Option LG}{rZ:LL}(h:tT C rZ):(tU C rZ).Perm rZ:=by
 have:=(Y' h).map (im rZ);rw[Za]at this;exact this
theorem Zb{C:LG->Option LG}{rZ:LL}(h:tT C rZ):(tU C rZ).Pairwise fun a b=>¬ zK C b a<0:=by
 unfold tU;rw[List.pairwise_map,List.pairwise_iff_getElem];intro i j hi d g;have:=(De h).2 i j (eR _) g (by rw[Ub,<-Ob h]; simpa using d);simp only[Array.length_toList]at hi d;rw[getElem!_pos _ i hi,getElem!_pos _ j d]at this;simpa[ltOf,pb]using this
section
variable {P:Program} {ρ:Go.Shelf.Ren}
theorem Zc{E:af}{K:List Kd}{rZ:LL}{b m:Nat}(y:Kd.c7 K=true)(v:isRow E.w b (m*K.length)) (I:cX E K.length (rZ.map (aT K)) b 0) (d:Array Nat) (q:d.size=rZ.length) (hi:∀ i,i<rZ.length->d[i]! = i) :
  Go.Sort.HoldsK (fun i=>er K (im rZ i)) K.length E.w b 0 d:=by
 intro t g;rw[Go.Sort.size_flatK,q]at g;have M:0<K.length:=by
  rcases Nat.eq_zero_or_pos K.length with h|h
  ·rw[h]at g; simp at g
  ·exact h
 have k:t / K.length<rZ.length:=Nat.div_lt_of_lt_mul (by rw[akv]; exact g);rw[Go.Sort.get_flatK _ _ _ _ (by rw[q]; exact g),hi _ k];have N:(rZ.map (aT K))[t / K.length]? = some (aT K (im rZ (t / K.length))):=by
  rw[bW,bY k];simp[im,cu,k]
 have:=Y6 y (nT I N).2 (t%K.length) (Nat.mod_lt _ M);refine⟨?_,?_⟩
 ·rw [show 0 + t = 0 + t / K.length * K.length + t % K.length by rw [cP, cP, akv, Nat.div_add_mod]]
  exact this
 ·obtain ⟨cs, O, h1, _⟩ := v
  simp[World.frozen?,h1]
theorem Od{w:ba}{d:Nat}{f:Array Value->Array Value}{x:Nat}(h:x≠d):(Bs w d f).heap[x]? = w.heap[x]? := by
 simp[Bs,TP,Ne.symm h]
theorem Zd{E:af}(HE:aI E){K:List Kd}{rZ rows':LL}{b m:Nat}(hs:Kd.c7 K=true) (hH:E.H=[.vQ K.length 0 (rZ.map (aT K))]) (d:E.ae[0]? = some (some (b,m))) (hrow:isRow E.w b (m*K.length))
  (hr:cX E K.length (rZ.map (aT K)) b 0) (hm:rows'.length<=m) {w':ba} (y:E.w.heap.size<=w'.heap.size) (hsame:∀ x,x<E.w.heap.size->x≠b->w'.heap[x]? = E.w.heap[x]?) (hrow':isRow w' b (m*K.length))
  (hcells:∀ i c,i<rows'.length->c<K.length->w'.cell? ⟨b,i*K.length+c,none⟩=some (er K (rows'.getD i []))[c]!) (I:ft E.w w') :
  dh E (.tuple []) [.vQ K.length 0 (rows'.map (aT K))] (.tuple #[]) w':=by
 have h0:E.H[0]? = some (ai.vQ K.length 0 (rZ.map (aT K))):=by rw[hH]; rfl
 have O:∀ x,x<E.w.heap.size->(∀ n,E.ae[0]? ≠ some (some (x,n)))->w'.heap[x]? = E.w.heap[x]? := fun x g hn=>hsame x g fun e=>hn m (by rw[d,e]);have eset:E.H.set 0 (ai.vQ K.length 0 (rows'.map (aT K)))=[.vQ K.length 0 (rows'.map (aT K))]:=by rw[hH]; rfl
 have M:E.ae.set 0 (some (b,m))=E.ae:=by
  apply jz;intro i;rw[List.getElem?_set];split
  ·rename_i e
   subst e;split
   ·exact d.symm
   ·rename_i h; exact(h (aV d)).elim
  ·rfl
 have N:(∀ v,(ai.vQ K.length 0 (rows'.map (aT K))).aU = some v->(ai.vQ K.length 0 (rZ.map (aT K))).aU = some v/\E.ae[0]? = some (some (b,m))):=fun v k=>⟨k,d⟩
 have U:∀ v u,(ai.vQ K.length 0 (rows'.map (aT K))).aU = some v->(ai.vQ K.length 0 (rZ.map (aT K))).aU = some u->u<=v:=fun v u k hu=>by
  simp only[ai.aU,be]at k hu;omega
 have V:=af.me (E:=E) (w':=w') (id:=0) (o:=.vQ K.length 0 (rZ.map (aT K))) (o':=.vQ K.length 0 (rows'.map (aT K))) (l:=some (b,m)) h0 HE.len y O (fun b' n' e=>.inr ⟨m,by cases e; exact d⟩) (.inl N) U (fun _ h=>by simp[ai.aU]at h) I;have hobj:aY { w:=w',H:=E.H.set 0 (ai.vQ K.length 0 (rows'.map (aT K))),ae:=E.ae.set 0 (some (b,m)),X:=E.X } 0 (.vQ K.length 0 (rows'.map (aT K))):=by
  simp only[aY];refine .inr ⟨b,m,by rw[M]; exact d,hrow',by simpa using hm,?_,?_⟩
  ·intro r hr
   obtain⟨x,_,rfl⟩:=List.mem_map.1 hr;exact gJ _ _
  ·rw [nR]
   intro i r hi;rw[bW]at hi;cases g:rows'[i]? with
   |none=>rw[g]at hi; cases hi
   | some x =>
    rw[g]at hi;cases hi;refine⟨sS _ _,?_⟩;rw[ke];intro c a ha;have q:c<K.length:=by have:=aV ha; rwa [sS]at this
    have hlt:=aV g;have hget:rows'.getD i []=x:=by rw[cu,g]; rfl
    have k:(er K x)[c]? = some (er K x)[c]! := by rw[bY (by rw[wq]; exact q),getElem!_pos _ c (by rw[wq]; exact q)]
    refine⟨(er K x)[c]!,?_,(zI K x _ (eO k)).1,?_⟩
    ·have := hcells i c hlt q
     rw[hget]at this;rw[show 0+i*K.length+c=i*K.length+c by omega];exact this
    ·exact(pO.1 (H_ x hs)).2 c a _ ha k
 have W:=aI.nS HE h0 y O (fun b' n' e=>.inr ⟨m,by cases e; exact d⟩) (.inl N) U (fun _ h=>by simp[ai.aU]at h) hobj I;rw[eset,M]at V W;exact⟨E.ae,E.X.r,by simp[ad,aw],W,V⟩
theorem Oe(L:SlLaysF0.n6 P ρ)(K:List Kd)(U:Kd.c7 K=true) (aE:∀ w,(isAgg (ρ.t 24)).run P w=.ok true w) (zE:∀ w,(Go.sizeOf (ρ.t 24)).run P w=.ok K.length w) (g:FuncId) (hg:iD P g=true)
  (C:LG->Option LG) (hC:∀ d r,C d=some r->@fN x_ P g (ij [] [.s (.row K),.s (.row K)] d) [] (fE (ij [] [.s (.int .i64)] r)) []) (d r:LG) (h:tV C d=some r) :
  fN P (ρ.f 6) (ij (dB [.vQ K 0] d) [.s (.vQ 0 K.length),.s (.fn g)] (fx 1 d)) (az (dA (dB [.vQ K 0] d) [.vQ K 0] d)) (fE []) (az (dA (dB [.vQ K 0] r) [.vQ K 0] r)):=by
 have e1:gi d 0=d.headD default:=rfl;intro E cargs hH HE N;simp only[ij,tJ,fQ,dB,dA,gp,az,List.map_cons,List.map_nil,au.ao,dY.ak,dY.len,List.getD_cons_zero,<-e1]at hH N;obtain⟨cs⟩:=cargs
 match cs,N with
 | [c0,c1],N =>
 simp only[aw,and_true]at N;obtain⟨h0,h1⟩:=N;simp only[ad,aw]at h1;obtain⟨V,rfl,hcb⟩:=h1;have hcb:V=#[]:=by
  obtain⟨V⟩:=V;cases V with
  |nil=>rfl
  |cons x l=>simp[aw]at hcb
 subst hcb;simp only[ad]at h0;obtain⟨⟨aN,cap,rfl,hcap,hbase⟩,_,hlive⟩:=h0;have hl0:E.H[0]? = some (ai.vQ K.length 0 ((gi d 0).rZ.map (aT K))):=by rw[hH]; rfl
 obtain⟨hn,q⟩:=hlive ⟨_,hl0,rfl⟩;unfold tV at h;split at h
 ·rename_i I
  cases h;have hH':E.H=[ai.vQ K.length 0 []]:=by rw[hH,I]; rfl
  rw[I];refine(AnyF.slices_SortFunc_none L aN cap _ E.w).mono ?_;rintro e w' ⟨rfl,rfl⟩;refine⟨_,.tuple [],[ai.vQ K.length 0 []],rfl,⟨rfl,rfl⟩,E.ae,E.X.r,by simp[ad,aw],?_,?_⟩
  ·rw [<- hH']
   exact HE
  ·rw [<- hH']
   exact af.le.refl E
 ·rename_i I
  split at h
  case isFalse=>cases h
  rename_i O;cases h;have hpos:0<(gi d 0).rZ.length:=List.length_pos_iff.2 I;rcases HE.obj 0 _ hl0 with⟨_,e2⟩|⟨b,m,W,hrow,hm,hcl,hr⟩
  ·exact(I (by simpa using e2)).elim
  obtain⟨_,o,ho,hc⟩:=q b m W;have hmm:(gi d 0).rZ.length<=m:=by simpa using hm
  have ho:o=0:=by have:=ho (by omega); omega
  subst ho;generalize hrs:(gi d 0).rZ=rZ at *;rw[hc];have M:(jA rZ.length).size=rZ.length:=Ub;have hdi:∀ i,i<rZ.length->(jA rZ.length)[i]! = i:=fun i hi=>by rw[getElem!_pos _ i (by rw[M]; exact hi)]; simp
  have hH0:=Zc U hrow hr (jA rZ.length) M hdi;have hblk:b<E.w.heap.size:=(HE.lt 0 b m W).1;have hcmp:CmpLays P g #[] (fun i=>er K (im rZ i)) K.length (pb C rZ) b 0 (jA rZ.length).size E.w:=by
   intro mm os dk _ x y;obtain⟨n,hn⟩:=O.Y_ _ (zL I x) _ (zL I y);have:=hC _ _ hn;simp only[ij,tJ,fQ,fx,Sh.sz,fP.sz,List.headD_cons,List.tail_cons,fE,G.rV,G.rZ,G.iV]at this;have e:pb C rZ x y=n:=by
    simp only[pb,zK,hn];rfl
   rw[e];have ht:sT (bare (Bt (fun i=>er K (im rZ i)) K.length E.w b 0 mm dk os)):=fun p hp=>by
    obtain⟨h1,t,f,h2⟩:=HE.gL p hp;have hne:p.1≠b:=fun e=>h1.2.1 (.inl ⟨0,m,by rw[e]; exact W⟩);have hsame:(Bt (fun i=>er K (im rZ i)) K.length E.w b 0 mm dk os).heap[p.1]? = E.w.heap[p.1]? := by
     unfold Bt J5 Uc Br;simp only[];rw[Ud (by simpa[Bs,J6]using h1.1),Od hne];rfl
    refine⟨⟨(Array.getElem?_eq_some_iff.1 (hsame.trans h2)).1,?_,fun h=>h⟩,t,f,by rw[<-h2]; exact hsame⟩;rintro(⟨i,c,hi⟩|⟨l,k,c,hk⟩)
    ·simp[bare]at hi
    ·simp[bare,fe]at hk
   exact Y9 this _ ht (by
    simp only[aw,ad,and_true,Array.toList_append,List.append_nil];exact⟨⟨_,rfl,fun v q=>(zI K _ v q).1,H_ _ U⟩,⟨_,rfl,fun v q=>(zI K _ v q).1,H_ _ U⟩⟩)
  have:=AnyQ.slices_SortFunc_eq L K.length aE zE (fun i=>er K (im rZ i)) (fun x=>wq _ _) (fun x v q=>(zI K _ v q).2) (pb C rZ) O.swo g #[] b 0 (m-0) (jA rZ.length) E.w
   (fun args w=>Lv hg args w) hcmp hH0 hblk (by rw[M]; exact O.small)
  rw[M]at this;refine this.mono ?_;rintro e w' ⟨rfl,n,os,rfl⟩;refine⟨_,.tuple [],_,rfl,⟨rfl,rfl⟩,?_⟩;have eN:Go.Sort.pdq (ltOf (pb C rZ)) (jA rZ.length) 0 rZ.length (Lib.bitLen rZ.length) true true=ow C rZ:=by
   unfold ow;rw[M]
  rw[eN];have hsz:=Ob O;have hlen:(tU C rZ).length=rZ.length:=(Oc O).length_eq;have hh:=holdsK_sortWorldK_c (fun i=>er K (im rZ i)) K.length E.w b 0 (jA rZ.length) (ow C rZ) n os hH0 hblk (by rw[hsz,M]);refine Zd (rows':=tU C rZ) HE U hH W hrow hr (by rw[hlen]; exact hmm) ?_ ?_ ?_ ?_ ?_
  ·unfold Bt J5
   rw[Go.Sort.size_grow,Go.Sort.size_putRow];show E.w.heap.size<=E.w.heap.size+_
   omega
  ·intro x hx hxb
   unfold Bt J5 Uc Br;simp only[];rw[Ud (by simpa[Bs,J6]using hx),Od hxb];rfl
  ·obtain ⟨cs, el, g1, g2⟩ := hrow
   unfold Bt J5 Uc Br;unfold isRow;simp only[];rw[Ud (by simpa[Bs,J6]using hblk)];simp only[Bs,J6,TP,if_true,g1,Option.map_some];exact⟨_,_,rfl,by simp[Go.Sort.putCells,g2]⟩
  ·intro i c hi hc
   rw[hlen]at hi;have:=(hh.cell (i:=i) (c:=c) (by rw[hsz]; exact hi) hc).1;rw[cP]at this;rw[this];congr 2;have hi':i<(ow C rZ).size:=by rw[hsz]; exact hi
   simp only[tU,cu,bW,Array.getElem?_toList];rw[Array.getElem?_eq_getElem hi',getElem!_pos _ i hi'];rfl
  ·exact⟨rfl,rfl,rfl,fun _=>Nat.le_add_right _ _⟩
end
end Go.AL
