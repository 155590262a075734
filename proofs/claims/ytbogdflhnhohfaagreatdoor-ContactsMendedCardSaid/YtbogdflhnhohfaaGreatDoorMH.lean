/-
 What is proved here: the library's sort of a slice by a function that compares,as a function on data (by the kit's own contracts). No program in sight; what is asked is that the library's text lies in the program.
-/
import Derived.Test.YtbogdflhnhohfaaGreatDoorMG
import Derived.Shelf.SlSortCmp.NoneTotal
set_option linter.all false
open Array renaming getElem?_modify->Vb,range->jH,size_range->Vy,getElem?_append_left->VA
open Go renaming World->a_
open Go.Proofs renaming sortWorldK->BZ
open Go.Sort renaming grow->BW,mapBlock->BX,putRowK->K6,putRow->Vz,ahead->K7
open List renaming getElem?_map->bY,getElem?_eq_getElem->bZ,mem_of_getElem?->eS,getElem?_eq_none->oX,getD_eq_getElem?_getD->cd,ext_getElem?->jG,range->fo
open List.cons renaming injEq->KL
open Nat renaming zero_le->eV,zero_add->cP,mul_comm->amz
open Option.some renaming injEq->bf
namespace Go.AL
open Go Go.Proofs
variable [Dr]
def wP:∀(ks:List Kd) (r:LG),(eE ks r).length=ks.length
 | [],_=>rfl
 |_::ks,r=>by simp[eE,wP ks]
def aan:∀(k:Kd) (g:G),dZ (rB k g)=true/\(rB k g).oneCell'=true
 |.int _,_=>⟨rfl,rfl⟩
 |.str,_=>⟨rfl,rfl⟩
 |.bool,_=>⟨rfl,rfl⟩
 |.list _,_=>⟨rfl,rfl⟩
def Ao:∀(ks:List Kd) (r:LG),∀ v∈eE ks r,dZ v=true/\v.oneCell'=true
 | [],_,v,h=>by simp[eE]at h
 | k::ks,r,v,h=>by
  simp only[eE,List.mem_cons]at h;rcases h with rfl|h
  ·exact aan _ _
  ·exact Ao ks r.tail v h
def Ap{E:af}:∀{ks:List Kd} {r:LG} {d:List Value},Kd.c6 ks=true->(ax E (aX ks r) d↔d=eE ks r)
 | [],r,[],_=>by simp[aX,ax,eE]
 | [],r,_::_,_=>by simp[aX,ax,eE]
 |_::_,r,[],_=>by simp[aX,ax,eE]
 |.list _::_,_,_::_,h=>by simp[Kd.c6]at h
 | .int k::ks,r,v::d,h=>by
  simp only[Kd.c6]at h;simp only[aX,ax,Ap (ks:=ks) h,eE,kU,rB,ad,KL]
 | .str::ks,r,v::d,h=>by
  simp only[Kd.c6]at h;simp only[aX,ax,Ap (ks:=ks) h,eE,kU,rB,ad,KL]
 | .bool::ks,r,v::d,h=>by
  simp only[Kd.c6]at h;simp only[aX,ax,Ap (ks:=ks) h,eE,kU,rB,ad,KL]
def IS{E:af}{ks:List Kd}(r:LG)(h:Kd.c6 ks=true):ax E (aX ks r) (eE ks r):=(Ap h).2 rfl
def aao{E:af}{ks:List Kd}{r:LG}{b o:Nat}(g:Kd.c6 ks=true)(h:cV E (aX ks r) b o):∀ c,c<ks.length->E.w.cell? ⟨b,o+c,none⟩=some (eE ks r)[c]! := by
 obtain⟨q,h1,_,k⟩:=yG h;have e:=(Ap g).1 h1;subst e;intro c d;refine k c _ ?_;rw[bZ (by rw[wP]; exact d),getElem!_pos _ c (by rw[wP]; exact d)]
def aap{w w':a_}(h:@Ext yB w w'):∃ q os,w'=BW (w.drewN q) os:=by
 obtain⟨h1,g,k,v,y,d⟩:=h;have d:=d rfl;refine⟨w'.drawn-w.drawn,w'.heap.extract w.heap.size w'.heap.size,?_⟩;cases w with
 | mk V W dr os ou =>
  cases w' with
  | mk I M N O U =>
   simp only at h1 g k v y d;subst k v y;simp only[BW,World.drewN,World.mk.injEq,eq_self,true_and,and_true];refine⟨?_,by omega⟩;apply Array.ext_getElem?;intro i;rw[Array.getElem?_append];split
   ·exact g i (by assumption)
   ·rw [Array.getElem?_extract]
    split
    ·congr 1
     omega
    ·rw[Array.getElem?_eq_none (by omega)]
def bare(w:a_):af:={ w:=w,H:=[],ae:=[],X:=⟨fun _=>False,fun _=>False,fh⟩ }
def aaq(w:a_)(g:tc (bare w)):aJ (bare w):=⟨rfl,fun i j b m n h=>by simp[bare]at h,fun i b m h=>by simp[bare]at h,fun b h=>h.elim,fun i o h=>by simp[bare]at h,g,fun l k l' v b m n d=>by simp[bare,fh]at d,fun i b m l k n hi=>by simp[bare]at hi,fun l k b m d=>by simp[bare,fh]at d,fun i j o o' l hi=>by simp[bare]at hi,fun l _ k q d=>by simp[bare,fh]at d⟩
def aar{P:Program}{g:FuncId}{args:List AV}{n:Int} (h:@fO yB P g args [] (.lit (.int .i64 n)) []) {cs:Array Value} (w:a_) (d:tc (bare w)) (y:ax (bare w) args cs.toList) :
  Calls P g cs w fun e w'=>e=.returned (.int .i64 n)/\∃ q os,w'=BW (w.drewN q) os:=by
 refine(h (bare w) cs rfl (aaq w d) y).mono ?_;rintro e w' ⟨c,v,H',rfl,⟨rfl,rfl⟩,V,W,h1,h2,I⟩;simp only[ad]at h1;subst h1;cases I with
 |mk _ M N _ _ _ _ O =>
 refine⟨rfl,aap (@Ext.mk yB _ _ M (fun b hb=>N b hb ?_) O)⟩;rintro(⟨i,c,hi⟩|⟨l,k,c,U⟩)
 ·simp[bare]at hi
 ·simp[bare,fh]at U
def Aq(C:LG->Option LG)(r s:LG):Int:=(gi ((C [.l [r],.l [s]]).getD []) 0).iV
def ir(rZ:LL)(i:Nat):LG:=rZ.getD i (rZ.headD [])
def Ar{rZ:LL}(h:rZ≠[])(i:Nat):ir rZ i∈rZ:=by
 unfold ir;rw[cd];cases hi:rZ[i]? with
 |some x=>exact eS hi
 | none =>
  cases rZ with
  |nil=>exact(h rfl).elim
  |cons x l=>simp
abbrev pz(C:LG->Option LG)(rZ:LL)(i j:Nat):Int:=Aq C (ir rZ i) (ir rZ j)
structure uf (C:LG->Option LG) (rZ:LL):Prop where
 ans:∀ r∈rZ,∀ s∈rZ,∃ n,C [.l [r],.l [s]]=some [.i n]
 swo:Go.Sort.SWO (ltOf (pz C rZ))
 small:rZ.length<4611686018427387904
noncomputable def oO(C:LG->Option LG)(rZ:LL):Array Nat:=Go.Sort.pdq (ltOf (pz C rZ)) (jH rZ.length) 0 (jH rZ.length).size (Lib.bitLen (jH rZ.length).size) true true
noncomputable def ug(C:LG->Option LG)(rZ:LL):LL:=(oO C rZ).toList.map (ir rZ)
open Classical in
noncomputable def uh(C:LG->Option LG)(d:LG):Option LG :=
 if (gi d 0).rZ=[] then some [.l []] else if uf C (gi d 0).rZ then some [.l (ug C (gi d 0).rZ)] else none
def DL{C:LG->Option LG}{rZ:LL}(h:uf C rZ):Go.Sort.PermIn 0 (jH rZ.length).size (jH rZ.length) (oO C rZ)/\Go.Sort.SortedIn (ltOf (pz C rZ)) 0 (jH rZ.length).size (oO C rZ) :=
 Go.Sort.pdq_sorts _ h.swo _ 0 _ _ true true (eV _) (Nat.le_refl _) (Or.inl rfl)
def aat{C:LG->Option LG}{rZ:LL}(h:uf C rZ):(oO C rZ).toList.Perm (fo rZ.length):=by
 have:=(DL h).1.2.2;have e:=(DL h).1.1;simp only[Vy]at this e;rw[show (oO C rZ).extract 0 rZ.length=oO C rZ by rw[<-e]; simp,show (jH rZ.length).extract 0 rZ.length=jH rZ.length by simp]at this;simpa using this
def O_{C:LG->Option LG}{rZ:LL}(h:uf C rZ):(oO C rZ).size=rZ.length:=by
 have:=(DL h).1.1;simpa using this
def aau(rZ:LL):(fo rZ.length).map (ir rZ)=rZ:=by
 apply jG;intro i;rw[bY];by_cases h:i<rZ.length
 ·rw [List.getElem?_range h, bZ h]
  simp[ir,cd,h]
 ·rw [oX (by simpa using h), oX (by omega)]
  rfl
def O'{C:LG->Option LG}{rZ:LL}(h:uf C rZ):(ug C rZ).Perm rZ:=by
 have:=(aat h).map (ir rZ);rw[aau]at this;exact this
def aav{C:LG->Option LG}{rZ:LL}(h:uf C rZ):(ug C rZ).Pairwise fun a b=>¬ Aq C b a<0:=by
 unfold ug;rw[List.pairwise_map,List.pairwise_iff_getElem];intro i j hi d g;have:=(DL h).2 i j (eV _) g (by rw[Vy,<-O_ h]; simpa using d);simp only[Array.length_toList]at hi d;rw[getElem!_pos _ i hi,getElem!_pos _ j d]at this;simpa[ltOf,pz]using this
section
variable {P:Program} {ρ:Go.Shelf.Ren}
def aaw{E:af}{K:List Kd}{rZ:LL}{b m:Nat}(y:Kd.c6 K=true)(v:isRow E.w b (m*K.length)) (I:cY E K.length (rZ.map (aX K)) b 0) (d:Array Nat) (q:d.size=rZ.length) (hi:∀ i,i<rZ.length->d[i]! = i) :
  Go.Sort.HoldsK (fun i=>eE K (ir rZ i)) K.length E.w b 0 d:=by
 intro t g;rw[Go.Sort.size_flatK,q]at g;have M:0<K.length:=by
  rcases Nat.eq_zero_or_pos K.length with h|h
  ·rw[h]at g; simp at g
  ·exact h
 have k:t / K.length<rZ.length:=Nat.div_lt_of_lt_mul (by rw[amz]; exact g);rw[Go.Sort.get_flatK _ _ _ _ (by rw[q]; exact g),hi _ k];have N:(rZ.map (aX K))[t / K.length]? = some (aX K (ir rZ (t / K.length))):=by
  rw[bY,bZ k];simp[ir,cd,k]
 have:=aao y (oq I N).2 (t%K.length) (Nat.mod_lt _ M);refine⟨?_,?_⟩
 ·rw [show 0 + t = 0 + t / K.length * K.length + t % K.length by rw [cP, cP, amz, Nat.div_add_mod]]
  exact this
 ·obtain ⟨cs, O, h1, _⟩ := v
  simp[World.frozen?,h1]
def Pa{w:a_}{d:Nat}{f:Array Value->Array Value}{x:Nat}(h:x≠d):(BX w d f).heap[x]? = w.heap[x]? := by
 simp[BX,Vb,Ne.symm h]
def aax{E:af}(HE:aJ E){K:List Kd}{rZ rows':LL}{b m:Nat}(hs:Kd.c6 K=true) (hH:E.H=[.vQ K.length 0 (rZ.map (aX K))]) (d:E.ae[0]? = some (some (b,m))) (hrow:isRow E.w b (m*K.length))
  (hr:cY E K.length (rZ.map (aX K)) b 0) (hm:rows'.length<=m) {w':a_} (y:E.w.heap.size<=w'.heap.size) (hsame:∀ x,x<E.w.heap.size->x≠b->w'.heap[x]? = E.w.heap[x]?) (hrow':isRow w' b (m*K.length))
  (hcells:∀ i c,i<rows'.length->c<K.length->w'.cell? ⟨b,i*K.length+c,none⟩=some (eE K (rows'.getD i []))[c]!) (I:fw E.w w') :
  dc E (.tuple []) [.vQ K.length 0 (rows'.map (aX K))] (.tuple #[]) w':=by
 have h0:E.H[0]? = some (ai.vQ K.length 0 (rZ.map (aX K))):=by rw[hH]; rfl
 have O:∀ x,x<E.w.heap.size->(∀ n,E.ae[0]? ≠ some (some (x,n)))->w'.heap[x]? = E.w.heap[x]? := fun x g hn=>hsame x g fun e=>hn m (by rw[d,e]);have eset:E.H.set 0 (ai.vQ K.length 0 (rows'.map (aX K)))=[.vQ K.length 0 (rows'.map (aX K))]:=by rw[hH]; rfl
 have M:E.ae.set 0 (some (b,m))=E.ae:=by
  apply jG;intro i;rw[List.getElem?_set];split
  ·rename_i e
   subst e;split
   ·exact d.symm
   ·rename_i h; exact(h (aY d)).elim
  ·rfl
 have N:(∀ v,(ai.vQ K.length 0 (rows'.map (aX K))).aV = some v->(ai.vQ K.length 0 (rZ.map (aX K))).aV = some v/\E.ae[0]? = some (some (b,m))):=fun v k=>⟨k,d⟩
 have U:∀ v u,(ai.vQ K.length 0 (rows'.map (aX K))).aV = some v->(ai.vQ K.length 0 (rZ.map (aX K))).aV = some u->u<=v:=fun v u k hu=>by
  simp only[ai.aV,bf]at k hu;omega
 have V:=af.lJ (E:=E) (w':=w') (id:=0) (o:=.vQ K.length 0 (rZ.map (aX K))) (o':=.vQ K.length 0 (rows'.map (aX K))) (l:=some (b,m)) h0 HE.len y O (fun b' n' e=>.inr ⟨m,by cases e; exact d⟩) (.inl N) U (fun _ h=>by simp[ai.aV]at h) I;have hobj:aZ { w:=w',H:=E.H.set 0 (ai.vQ K.length 0 (rows'.map (aX K))),ae:=E.ae.set 0 (some (b,m)),X:=E.X } 0 (.vQ K.length 0 (rows'.map (aX K))):=by
  simp only[aZ];refine .inr ⟨b,m,by rw[M]; exact d,hrow',by simpa using hm,?_,?_⟩
  ·intro r hr
   obtain⟨x,_,rfl⟩:=List.mem_map.1 hr;exact gJ _ _
  ·rw [om]
   intro i r hi;rw[bY]at hi;cases g:rows'[i]? with
   |none=>rw[g]at hi; cases hi
   | some x =>
    rw[g]at hi;cases hi;refine⟨tb _ _,?_⟩;rw[kn];intro c a ha;have q:c<K.length:=by have:=aY ha; rwa [tb]at this
    have hlt:=aY g;have hget:rows'.getD i []=x:=by rw[cd,g]; rfl
    have k:(eE K x)[c]? = some (eE K x)[c]! := by rw[bZ (by rw[wP]; exact q),getElem!_pos _ c (by rw[wP]; exact q)]
    refine⟨(eE K x)[c]!,?_,(Ao K x _ (eS k)).1,?_⟩
    ·have := hcells i c hlt q
     rw[hget]at this;rw[show 0+i*K.length+c=i*K.length+c by omega];exact this
    ·exact(pZ.1 (IS x hs)).2 c a _ ha k
 have W:=aJ.nk HE h0 y O (fun b' n' e=>.inr ⟨m,by cases e; exact d⟩) (.inl N) U (fun _ h=>by simp[ai.aV]at h) hobj I;rw[eset,M]at V W;exact⟨E.ae,E.X.r,by simp[ad,ax],W,V⟩
def Pb(L:SlLaysF0.n6 P ρ)(K:List Kd)(U:Kd.c6 K=true) (aE:∀ w,(isAgg (ρ.t 24)).run P w=.ok true w) (zE:∀ w,(Go.sizeOf (ρ.t 24)).run P w=.ok K.length w) (g:FuncId) (hg:iJ P g=true)
  (C:LG->Option LG) (hC:∀ d r,C d=some r->@fO yB P g (im [] [.s (.row K),.s (.row K)] d) [] (fH (im [] [.s (.int .i64)] r)) []) (d r:LG) (h:uh C d=some r) :
  fO P (ρ.f 6) (im (dJ [.vQ K 0] d) [.s (.vQ 0 K.length),.s (.fn g)] (fB 1 d)) (az (dI (dJ [.vQ K 0] d) [.vQ K 0] d)) (fH []) (az (dI (dJ [.vQ K 0] r) [.vQ K 0] r)):=by
 have e1:gi d 0=d.headD default:=rfl;intro E cargs hH HE N;simp only[im,tY,fS,dJ,dI,gq,az,List.map_cons,List.map_nil,aw.ar,eo.al,eo.len,List.getD_cons_zero,<-e1]at hH N;obtain⟨cs⟩:=cargs
 match cs,N with
 | [c0,c1],N =>
 simp only[ax,and_true]at N;obtain⟨h0,h1⟩:=N;simp only[ad,ax]at h1;obtain⟨V,rfl,hcb⟩:=h1;have hcb:V=#[]:=by
  obtain⟨V⟩:=V;cases V with
  |nil=>rfl
  |cons x l=>simp[ax]at hcb
 subst hcb;simp only[ad]at h0;obtain⟨⟨aN,cap,rfl,hcap,hbase⟩,_,hlive⟩:=h0;have hl0:E.H[0]? = some (ai.vQ K.length 0 ((gi d 0).rZ.map (aX K))):=by rw[hH]; rfl
 obtain⟨hn,q⟩:=hlive ⟨_,hl0,rfl⟩;unfold uh at h;split at h
 ·rename_i I
  cases h;have hH':E.H=[ai.vQ K.length 0 []]:=by rw[hH,I]; rfl
  rw[I];refine(AnyF.slices_SortFunc_none L aN cap _ E.w).mono ?_;rintro e w' ⟨rfl,rfl⟩;refine⟨_,.tuple [],[ai.vQ K.length 0 []],rfl,⟨rfl,rfl⟩,E.ae,E.X.r,by simp[ad,ax],?_,?_⟩
  ·rw [<- hH']
   exact HE
  ·rw [<- hH']
   exact af.le.refl E
 ·rename_i I
  split at h
  case isFalse=>cases h
  rename_i O;cases h;have hpos:0<(gi d 0).rZ.length:=List.length_pos_iff.2 I;rcases HE.obj 0 _ hl0 with⟨_,e2⟩|⟨b,m,W,hrow,hm,hcl,hr⟩
  ·exact(I (by simpa using e2)).elim
  obtain⟨_,o,ho,hc⟩:=q b m W;have hmm:(gi d 0).rZ.length<=m:=by simpa using hm
  have ho:o=0:=by have:=ho (by omega); omega
  subst ho;generalize hrs:(gi d 0).rZ=rZ at *;rw[hc];have M:(jH rZ.length).size=rZ.length:=Vy;have hdi:∀ i,i<rZ.length->(jH rZ.length)[i]! = i:=fun i hi=>by rw[getElem!_pos _ i (by rw[M]; exact hi)]; simp
  have hH0:=aaw U hrow hr (jH rZ.length) M hdi;have hblk:b<E.w.heap.size:=(HE.lt 0 b m W).1;have hcmp:CmpLays P g #[] (fun i=>eE K (ir rZ i)) K.length (pz C rZ) b 0 (jH rZ.length).size E.w:=by
   intro mm os dk _ x y;obtain⟨n,hn⟩:=O.ans _ (Ar I x) _ (Ar I y);have:=hC _ _ hn;simp only[im,tY,fS,fB,Sh.sz,fQ.sz,List.headD_cons,List.tail_cons,fH,G.rV,G.rZ,G.iV]at this;have e:pz C rZ x y=n:=by
    simp only[pz,Aq,hn];rfl
   rw[e];have ht:tc (bare (BZ (fun i=>eE K (ir rZ i)) K.length E.w b 0 mm dk os)):=fun p hp=>by
    obtain⟨h1,t,f,h2⟩:=HE.gL p hp;have hne:p.1≠b:=fun e=>h1.2.1 (.inl ⟨0,m,by rw[e]; exact W⟩);have hsame:(BZ (fun i=>eE K (ir rZ i)) K.length E.w b 0 mm dk os).heap[p.1]? = E.w.heap[p.1]? := by
     unfold BZ K6 Vz BW;simp only[];rw[VA (by simpa[BX,K7]using h1.1),Pa hne];rfl
    refine⟨⟨(Array.getElem?_eq_some_iff.1 (hsame.trans h2)).1,?_,fun h=>h⟩,t,f,by rw[<-h2]; exact hsame⟩;rintro(⟨i,c,hi⟩|⟨l,k,c,hk⟩)
    ·simp[bare]at hi
    ·simp[bare,fh]at hk
   exact aar this _ ht (by
    simp only[ax,ad,and_true,Array.toList_append,List.append_nil];exact⟨⟨_,rfl,fun v q=>(Ao K _ v q).1,IS _ U⟩,⟨_,rfl,fun v q=>(Ao K _ v q).1,IS _ U⟩⟩)
  have:=AnyQ.slices_SortFunc_eq L K.length aE zE (fun i=>eE K (ir rZ i)) (fun x=>wP _ _) (fun x v q=>(Ao K _ v q).2) (pz C rZ) O.swo g #[] b 0 (m-0) (jH rZ.length) E.w
   (fun args w=>Mw hg args w) hcmp hH0 hblk (by rw[M]; exact O.small)
  rw[M]at this;refine this.mono ?_;rintro e w' ⟨rfl,n,os,rfl⟩;refine⟨_,.tuple [],_,rfl,⟨rfl,rfl⟩,?_⟩;have eN:Go.Sort.pdq (ltOf (pz C rZ)) (jH rZ.length) 0 rZ.length (Lib.bitLen rZ.length) true true=oO C rZ:=by
   unfold oO;rw[M]
  rw[eN];have hsz:=O_ O;have hlen:(ug C rZ).length=rZ.length:=(O' O).length_eq;have hh:=holdsK_sortWorldK_c (fun i=>eE K (ir rZ i)) K.length E.w b 0 (jH rZ.length) (oO C rZ) n os hH0 hblk (by rw[hsz,M]);refine aax (rows':=ug C rZ) HE U hH W hrow hr (by rw[hlen]; exact hmm) ?_ ?_ ?_ ?_ ?_
  ·unfold BZ K6
   rw[Go.Sort.size_grow,Go.Sort.size_putRow];show E.w.heap.size<=E.w.heap.size+_
   omega
  ·intro x hx hxb
   unfold BZ K6 Vz BW;simp only[];rw[VA (by simpa[BX,K7]using hx),Pa hxb];rfl
  ·obtain ⟨cs, el, g1, g2⟩ := hrow
   unfold BZ K6 Vz BW;unfold isRow;simp only[];rw[VA (by simpa[BX,K7]using hblk)];simp only[BX,K7,Vb,if_true,g1,Option.map_some];exact⟨_,_,rfl,by simp[Go.Sort.putCells,g2]⟩
  ·intro i c hi hc
   rw[hlen]at hi;have:=(hh.cell (i:=i) (c:=c) (by rw[hsz]; exact hi) hc).1;rw[cP]at this;rw[this];congr 2;have hi':i<(oO C rZ).size:=by rw[hsz]; exact hi
   simp only[ug,cd,bY,Array.getElem?_toList];rw[Array.getElem?_eq_getElem hi',getElem!_pos _ i hi'];rfl
  ·exact⟨rfl,rfl,rfl,fun _=>Nat.le_add_right _ _⟩
end
end Go.AL
