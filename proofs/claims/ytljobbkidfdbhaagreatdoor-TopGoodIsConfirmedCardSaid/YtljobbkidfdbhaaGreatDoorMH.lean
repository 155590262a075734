/-
 What is proved here: the library's sort of a slice by a function that compares,as a function on data (by the kit's own contracts). No program in sight; what is asked is that the library's text lies in the program.
-/
import Derived.Test.YtljobbkidfdbhaaGreatDoorMG
import Derived.Shelf.SlSortCmp.NoneTotal
set_option linter.all false
open Array renaming getElem?_modify→QI,range→gd,size_range→Q0,getElem?_append_left→Q3
open Go.Proofs renaming sortWorldK→wS
open Go.Sort renaming grow→wP,mapBlock→wR,putRowK→Hs,putRow→Q2,ahead→Ht
open List renaming getElem?_map→bZ,getElem?_eq_getElem→bI,mem_of_getElem?→eT,getElem?_eq_none→lW,getD_eq_getElem?_getD→cf,ext_getElem?→jR,range→dv
open List.cons renaming injEq→G3
open Nat renaming zero_le→er,zero_add→cP,mul_comm→ae4
open Option.some renaming injEq→aV
namespace Go.AL
open Go Go.Proofs
variable [Dr]
theorem rQ:∀(ks:List Kd) (r:List G),(db ks r).length=ks.length
 | [],_=>rfl
 |_::ks,r=>by simp[db,rQ ks]
theorem VD:∀(k:Kd) (g:G),di (nI k g)=true∧(nI k g).oneCell'=true
 |.int _,_=>⟨rfl,rfl⟩
 |.str,_=>⟨rfl,rfl⟩
 |.bool,_=>⟨rfl,rfl⟩
 |.list _,_=>⟨rfl,rfl⟩
theorem vd:∀(ks:List Kd) (r:List G),∀ v∈db ks r,di v=true∧v.oneCell'=true
 | [],_,v,h=>by simp[db]at h
 | k::ks,r,v,h=>by
  simp only[db,List.mem_cons]at h;rcases h with rfl|h
  ·exact VD _ _
  ·exact vd ks r.tail v h
theorem ve{E:Env}:∀{ks:List Kd} {r:List G} {vs:List Value},Kd.ct ks=true→(af E (aK ks r) vs↔vs=db ks r)
 | [],r,[],_=>by simp[aK,af,db]
 | [],r,_::_,_=>by simp[aK,af,db]
 |_::_,r,[],_=>by simp[aK,af,db]
 |.list _::_,_,_::_,h=>by simp[Kd.ct]at h
 | .int k::ks,r,v::vs,h=>by
  simp only[Kd.ct]at h;simp only[aK,af,ve (ks:=ks) h,db,iB,nI,rel,G3]
 | .str::ks,r,v::vs,h=>by
  simp only[Kd.ct]at h;simp only[aK,af,ve (ks:=ks) h,db,iB,nI,rel,G3]
 | .bool::ks,r,v::vs,h=>by
  simp only[Kd.ct]at h;simp only[aK,af,ve (ks:=ks) h,db,iB,nI,rel,G3]
theorem Dk{E:Env}{ks:List Kd}(r:List G)(h:Kd.ct ks=true):af E (aK ks r) (db ks r):=(ve h).2 rfl
theorem VE{E:Env}{ks:List Kd}{r:List G}{b o:Nat}(g:Kd.ct ks=true)(h:ch E (aK ks r) b o):∀ c,c<ks.length→E.w.cell? ⟨b,o+c,none⟩=some (db ks r)[c]! := by
 obtain⟨vs,h1,_,k⟩:=tC h;have e:=(ve g).1 h1;subst e;intro c d;refine k c _ ?_;rw[bI (by rw[rQ]; exact d),getElem!_pos _ c (by rw[rQ]; exact d)]
theorem VF{w w':World}(h:@Ext tw w w'):∃ q os,w'=wP (w.drewN q) os:=by
 obtain⟨h1,g,k,u,v,d⟩:=h;have d:=d rfl;refine⟨w'.drawn-w.drawn,w'.heap.extract w.heap.size w'.heap.size,?_⟩;cases w with
 | mk N O U os V =>
  cases w' with
  | mk y B I J M =>
   simp only at h1 g k u v d;subst k u v;simp only[wP,World.drewN,World.mk.injEq,eq_self,true_and,and_true];refine⟨?_,by omega⟩;apply Array.ext_getElem?;intro i;rw[Array.getElem?_append];split
   ·exact g i (by assumption)
   ·rw [Array.getElem?_extract]
    split
    ·congr 1
     omega
    ·rw[Array.getElem?_eq_none (by omega)]
def bare(w:World):Env:={ w:=w,H:=[],loc:=[],X:=⟨fun _=>False,fun _=>False,dE⟩ }
theorem VG(w:World)(d:oP (bare w)):aq (bare w):=⟨rfl,fun i j b m n h=>by simp[bare]at h,fun i b m h=>by simp[bare]at h,fun b h=>h.elim,fun i o h=>by simp[bare]at h,d,fun l k l' k' b m n hk=>by simp[bare,dE]at hk,fun i b m l k n hi=>by simp[bare]at hi,fun l k b m hk=>by simp[bare,dE]at hk,fun i j o o' l hi=>by simp[bare]at hi,fun l _ k q hk=>by simp[bare,dE]at hk⟩
theorem VH{P:Program}{g:FuncId}{args:List AV}{n:Int} (h:@dG tw P g args [] (.lit (.int .i64 n)) []) {cs:Array Value} (w:World) (d:oP (bare w)) (u:af (bare w) args cs.toList) :
  Calls P g cs w fun e w'=>e=.returned (.int .i64 n)∧∃ q os,w'=wP (w.drewN q) os:=by
 refine(h (bare w) cs rfl (VG w d) u).mono ?_;rintro e w' ⟨c,v,H',rfl,⟨rfl,rfl⟩,M,r',h1,N,y⟩;simp only[rel]at h1;subst h1;cases y with
 |mk _ B I _ _ _ _ J =>
 refine⟨rfl,VF (@Ext.mk tw _ _ B (fun b hb=>I b hb ?_) J)⟩;rintro(⟨i,c,hi⟩|⟨l,k,c,hk⟩)
 ·simp[bare]at hi
 ·simp[bare,dE]at hk
def vf(C:List G→Option (List G))(r s:List G):Int:=(gi ((C [.l [r],.l [s]]).getD []) 0).int
def fl(rows:List (List G))(i:Nat):List G:=rows.getD i (rows.headD [])
theorem vg{rows:List (List G)}(h:rows≠[])(i:Nat):fl rows i∈rows:=by
 unfold fl;rw[cf];cases hi:rows[i]? with
 |some x=>exact eT hi
 | none =>
  cases rows with
  |nil=>exact(h rfl).elim
  |cons x l=>simp
abbrev lE(C:List G→Option (List G))(rows:List (List G))(i j:Nat):Int:=vf C (fl rows i) (fl rows j)
structure pI (C:List G→Option (List G)) (rows:List (List G)):Prop where
 VJ:∀ r∈rows,∀ s∈rows,∃ n,C [.l [r],.l [s]]=some [.i n]
 swo:Go.Sort.SWO (ltOf (lE C rows))
 small:rows.length<4611686018427387904
noncomputable def kX(C:List G→Option (List G))(rows:List (List G)):Array Nat:=Go.Sort.pdq (ltOf (lE C rows)) (gd rows.length) 0 (gd rows.length).size (Lib.bitLen (gd rows.length).size) true true
noncomputable def pJ(C:List G→Option (List G))(rows:List (List G)):List (List G):=(kX C rows).toList.map (fl rows)
open Classical in
noncomputable def rR(C:List G→Option (List G))(d:List G):Option (List G) :=
 if (gi d 0).rows=[] then some [.l []] else if pI C (gi d 0).rows then some [.l (pJ C (gi d 0).rows)] else none
theorem y_{C:List G→Option (List G)}{rows:List (List G)}(h:pI C rows):Go.Sort.PermIn 0 (gd rows.length).size (gd rows.length) (kX C rows)∧Go.Sort.SortedIn (ltOf (lE C rows)) 0 (gd rows.length).size (kX C rows) :=
 Go.Sort.pdq_sorts _ h.swo _ 0 _ _ true true (er _) (Nat.le_refl _) (Or.inl rfl)
theorem VK{C:List G→Option (List G)}{rows:List (List G)}(h:pI C rows):(kX C rows).toList.Perm (dv rows.length):=by
 have:=(y_ h).1.2.2;have e:=(y_ h).1.1;simp only[Q0]at this e;rw[show (kX C rows).extract 0 rows.length=kX C rows by rw[←e]; simp,show (gd rows.length).extract 0 rows.length=gd rows.length by simp]at this;simpa using this
theorem Lh{C:List G→Option (List G)}{rows:List (List G)}(h:pI C rows):(kX C rows).size=rows.length:=by
 have:=(y_ h).1.1;simpa using this
theorem VL(rows:List (List G)):(dv rows.length).map (fl rows)=rows:=by
 apply jR;intro i;rw[bZ];by_cases h:i<rows.length
 ·rw [List.getElem?_range h, bI h]
  simp[fl,cf,h]
 ·rw [lW (by simpa using h), lW (by omega)]
  rfl
theorem Li{C:List G→Option (List G)}{rows:List (List G)}(h:pI C rows):(pJ C rows).Perm rows:=by
 have:=(VK h).map (fl rows);rw[VL]at this;exact this
theorem VM{C:List G→Option (List G)}{rows:List (List G)}(h:pI C rows):(pJ C rows).Pairwise fun a b=>¬ vf C b a<0:=by
 unfold pJ;rw[List.pairwise_map,List.pairwise_iff_getElem];intro i j hi d g;have:=(y_ h).2 i j (er _) g (by rw[Q0,←Lh h]; simpa using d);simp only[Array.length_toList]at hi d;rw[getElem!_pos _ i hi,getElem!_pos _ j d]at this;simpa[ltOf,lE]using this
section
variable {P:Program} {ρ:Go.Shelf.Ren}
theorem VN{E:Env}{K:List Kd}{rows:List (List G)}{b m:Nat}(v:Kd.ct K=true)(u:isRow E.w b (m*K.length)) (y:cy E K.length (rows.map (aK K)) b 0) (d:Array Nat) (q:d.size=rows.length) (hi:∀ i,i<rows.length→d[i]! = i) :
  Go.Sort.HoldsK (fun i=>db K (fl rows i)) K.length E.w b 0 d:=by
 intro t g;rw[Go.Sort.size_flatK,q]at g;have hk:0<K.length:=by
  rcases Nat.eq_zero_or_pos K.length with h|h
  ·rw[h]at g; simp at g
  ·exact h
 have k:t / K.length<rows.length:=Nat.div_lt_of_lt_mul (by rw[ae4]; exact g);rw[Go.Sort.get_flatK _ _ _ _ (by rw[q]; exact g),hi _ k];have B:(rows.map (aK K))[t / K.length]? = some (aK K (fl rows (t / K.length))):=by
  rw[bZ,bI k];simp[fl,cf,k]
 have:=VE v (mf y B).2 (t%K.length) (Nat.mod_lt _ hk);refine⟨?_,?_⟩
 ·rw [show 0 + t = 0 + t / K.length * K.length + t % K.length by rw [cP, cP, ae4, Nat.div_add_mod]]
  exact this
 ·obtain ⟨cs, el, h1, _⟩ := u
  simp[World.frozen?,h1]
theorem Lj{w:World}{d:Nat}{f:Array Value→Array Value}{x:Nat}(h:x≠d):(wR w d f).heap[x]? = w.heap[x]? := by
 simp[wR,QI,Ne.symm h]
theorem VO{E:Env}(HE:aq E){K:List Kd}{rows rows':List (List G)}{b m:Nat}(hs:Kd.ct K=true) (hH:E.H=[.vec K.length 0 (rows.map (aK K))]) (d:E.loc[0]? = some (some (b,m))) (hrow:isRow E.w b (m*K.length))
  (U:cy E K.length (rows.map (aK K)) b 0) (hm:rows'.length≤m) {w':World} (y:E.w.heap.size≤w'.heap.size) (W:∀ x,x<E.w.heap.size→x≠b→w'.heap[x]? = E.w.heap[x]?) (hrow':isRow w' b (m*K.length))
  (V:∀ i c,i<rows'.length→c<K.length→w'.cell? ⟨b,i*K.length+c,none⟩=some (db K (rows'.getD i []))[c]!) (B:dL E.w w') :
  cJ E (.tuple []) [.vec K.length 0 (rows'.map (aK K))] (.tuple #[]) w':=by
 have h0:E.H[0]? = some (ab.vec K.length 0 (rows.map (aK K))):=by rw[hH]; rfl
 have M:∀ x,x<E.w.heap.size→(∀ n,E.loc[0]? ≠ some (some (x,n)))→w'.heap[x]? = E.w.heap[x]? := fun x g hn=>W x g fun e=>hn m (by rw[d,e]);have eset:E.H.set 0 (ab.vec K.length 0 (rows'.map (aK K)))=[.vec K.length 0 (rows'.map (aK K))]:=by rw[hH]; rfl
 have I:E.loc.set 0 (some (b,m))=E.loc:=by
  apply jR;intro i;rw[List.getElem?_set];split
  ·rename_i e
   subst e;split
   ·exact d.symm
   ·rename_i h; exact(h (aL d)).elim
  ·rfl
 have J:(∀ v,(ab.vec K.length 0 (rows'.map (aK K))).aD = some v→(ab.vec K.length 0 (rows.map (aK K))).aD = some v∧E.loc[0]? = some (some (b,m))):=fun v k=>⟨k,d⟩
 have N:∀ v u,(ab.vec K.length 0 (rows'.map (aK K))).aD = some v→(ab.vec K.length 0 (rows.map (aK K))).aD = some u→u≤v:=fun v u k hu=>by
  simp only[ab.aD,aV]at k hu;omega
 have hle:=Env.jv (E:=E) (w':=w') (id:=0) (o:=.vec K.length 0 (rows.map (aK K))) (o':=.vec K.length 0 (rows'.map (aK K))) (l:=some (b,m)) h0 HE.len y M (fun b' n' e=>.inr ⟨m,by cases e; exact d⟩) (.inl J) N (fun _ h=>by simp[ab.aD]at h) B;have hobj:aM { w:=w',H:=E.H.set 0 (ab.vec K.length 0 (rows'.map (aK K))),loc:=E.loc.set 0 (some (b,m)),X:=E.X } 0 (.vec K.length 0 (rows'.map (aK K))):=by
  simp only[aM];refine .inr ⟨b,m,by rw[I]; exact d,hrow',by simpa using hm,?_,?_⟩
  ·intro r U
   obtain⟨x,_,rfl⟩:=List.mem_map.1 U;exact fE _ _
  ·rw [lf]
   intro i r hi;rw[bZ]at hi;cases g:rows'[i]? with
   |none=>rw[g]at hi; cases hi
   | some x =>
    rw[g]at hi;cases hi;refine⟨qp _ _,?_⟩;rw[iD];intro c a ha;have q:c<K.length:=by have:=aL ha; rwa [qp]at this
    have hlt:=aL g;have hget:rows'.getD i []=x:=by rw[cf,g]; rfl
    have k:(db K x)[c]? = some (db K x)[c]! := by rw[bI (by rw[rQ]; exact q),getElem!_pos _ c (by rw[rQ]; exact q)]
    refine⟨(db K x)[c]!,?_,(vd K x _ (eT k)).1,?_⟩
    ·have := V i c hlt q
     rw[hget]at this;rw[show 0+i*K.length+c=i*K.length+c by omega];exact this
    ·exact(me.1 (Dk x hs)).2 c a _ ha k
 have O:=aq.kH HE h0 y M (fun b' n' e=>.inr ⟨m,by cases e; exact d⟩) (.inl J) N (fun _ h=>by simp[ab.aD]at h) hobj B;rw[eset,I]at hle O;exact⟨E.loc,E.X.r,by simp[rel,af],O,hle⟩
theorem VP(L:SlLaysF0.n6 P ρ)(K:List Kd)(M:Kd.ct K=true) (aE:∀ w,(isAgg (ρ.t 24)).run P w=.ok true w) (zE:∀ w,(Go.sizeOf (ρ.t 24)).run P w=.ok K.length w) (g:FuncId) (hg:eX P g=true)
  (C:List G→Option (List G)) (hC:∀ d r,C d=some r→@dG tw P g (fj [] [.s (.row K),.s (.row K)] d) [] (c6 (fj [] [.s (.int .i64)] r)) []) (d r:List G) (h:rR C d=some r) :
  dG P (ρ.f 6) (fj (cD [.vec K 0] d) [.s (.vec 0 K.length),.s (.fn g)] (en 1 d)) (ak (cK (cD [.vec K 0] d) [.vec K 0] d)) (c6 []) (ak (cK (cD [.vec K 0] r) [.vec K 0] r)):=by
 have e1:gi d 0=d.headD default:=rfl;intro E cargs hH HE I;simp only[fj,pB,eI,cD,cK,eP,ak,List.map_cons,List.map_nil,ah.den,cY.ae,cY.len,List.getD_cons_zero,←e1]at hH I;obtain⟨cs⟩:=cargs
 match cs,I with
 | [c0,c1],I =>
 simp only[af,and_true]at I;obtain⟨h0,h1⟩:=I;simp only[rel,af]at h1;obtain⟨N,rfl,V⟩:=h1;have V:N=#[]:=by
  obtain⟨N⟩:=N;cases N with
  |nil=>rfl
  |cons x l=>simp[af]at V
 subst V;simp only[rel]at h0;obtain⟨⟨base,cap,rfl,hcap,hbase⟩,_,hlive⟩:=h0;have hl0:E.H[0]? = some (ab.vec K.length 0 ((gi d 0).rows.map (aK K))):=by rw[hH]; rfl
 obtain⟨hn,q⟩:=hlive ⟨_,hl0,rfl⟩;unfold rR at h;split at h
 ·rename_i u
  cases h;have hH':E.H=[ab.vec K.length 0 []]:=by rw[hH,u]; rfl
  rw[u];refine(AnyF.slices_SortFunc_none L base cap _ E.w).mono ?_;rintro e w' ⟨rfl,rfl⟩;refine⟨_,.tuple [],[ab.vec K.length 0 []],rfl,⟨rfl,rfl⟩,E.loc,E.X.r,by simp[rel,af],?_,?_⟩
  ·rw [← hH']
   exact HE
  ·rw [← hH']
   exact Env.le.refl E
 ·rename_i u
  split at h
  case isFalse=>cases h
  rename_i J;cases h;have hpos:0<(gi d 0).rows.length:=List.length_pos_iff.2 u;rcases HE.obj 0 _ hl0 with⟨_,e2⟩|⟨b,m,O,U,hm,hcl,hr⟩
  ·exact(u (by simpa using e2)).elim
  obtain⟨_,o,ho,hc⟩:=q b m O;have hmm:(gi d 0).rows.length≤m:=by simpa using hm
  have ho:o=0:=by have:=ho (by omega); omega
  subst ho;generalize hrs:(gi d 0).rows=rows at *;rw[hc];have B:(gd rows.length).size=rows.length:=Q0;have hdi:∀ i,i<rows.length→(gd rows.length)[i]! = i:=fun i hi=>by rw[getElem!_pos _ i (by rw[B]; exact hi)]; simp
  have hH0:=VN M U hr (gd rows.length) B hdi;have hblk:b<E.w.heap.size:=(HE.lt 0 b m O).1;have hcmp:CmpLays P g #[] (fun i=>db K (fl rows i)) K.length (lE C rows) b 0 (gd rows.length).size E.w:=by
   intro mm os dk _ x y;obtain⟨n,hn⟩:=J.VJ _ (vg u x) _ (vg u y);have:=hC _ _ hn;simp only[fj,pB,eI,en,Sh.sz,eH.sz,List.headD_cons,List.tail_cons,c6,G.row,G.rows,G.int]at this;have e:lE C rows x y=n:=by
    simp only[lE,vf,hn];rfl
   rw[e];have ht:oP (bare (wS (fun i=>db K (fl rows i)) K.length E.w b 0 mm dk os)):=fun p hp=>by
    obtain⟨h1,t,f,h2⟩:=HE.eW p hp;have hne:p.1≠b:=fun e=>h1.2.1 (.inl ⟨0,m,by rw[e]; exact O⟩);have hsame:(wS (fun i=>db K (fl rows i)) K.length E.w b 0 mm dk os).heap[p.1]? = E.w.heap[p.1]? := by
     unfold wS Hs Q2 wP;simp only[];rw[Q3 (by simpa[wR,Ht]using h1.1),Lj hne];rfl
    refine⟨⟨(Array.getElem?_eq_some_iff.1 (hsame.trans h2)).1,?_,fun h=>h⟩,t,f,by rw[←h2]; exact hsame⟩;rintro(⟨i,c,hi⟩|⟨l,k,c,hk⟩)
    ·simp[bare]at hi
    ·simp[bare,dE]at hk
   exact VH this _ ht (by
    simp only[af,rel,and_true,Array.toList_append,List.append_nil];exact⟨⟨_,rfl,fun v q=>(vd K _ v q).1,Dk _ M⟩,⟨_,rfl,fun v q=>(vd K _ v q).1,Dk _ M⟩⟩)
  have:=AnyQ.slices_SortFunc_eq L K.length aE zE (fun i=>db K (fl rows i)) (fun x=>rQ _ _) (fun x v q=>(vd K _ v q).2) (lE C rows) J.swo g #[] b 0 (m-0) (gd rows.length) E.w
   (fun args w=>BQ hg args w) hcmp hH0 hblk (by rw[B]; exact J.small)
  rw[B]at this;refine this.mono ?_;rintro e w' ⟨rfl,n,os,rfl⟩;refine⟨_,.tuple [],_,rfl,⟨rfl,rfl⟩,?_⟩;have eN:Go.Sort.pdq (ltOf (lE C rows)) (gd rows.length) 0 rows.length (Lib.bitLen rows.length) true true=kX C rows:=by
   unfold kX;rw[B]
  rw[eN];have W:=Lh J;have hlen:(pJ C rows).length=rows.length:=(Li J).length_eq;have hh:=holdsK_sortWorldK_c (fun i=>db K (fl rows i)) K.length E.w b 0 (gd rows.length) (kX C rows) n os hH0 hblk (by rw[W,B]);refine VO (rows':=pJ C rows) HE M hH O U hr (by rw[hlen]; exact hmm) ?_ ?_ ?_ ?_ ?_
  ·unfold wS Hs
   rw[Go.Sort.size_grow,Go.Sort.size_putRow];show E.w.heap.size≤E.w.heap.size+_
   omega
  ·intro x hx hxb
   unfold wS Hs Q2 wP;simp only[];rw[Q3 (by simpa[wR,Ht]using hx),Lj hxb];rfl
  ·obtain ⟨cs, el, g1, g2⟩ := U
   unfold wS Hs Q2 wP;unfold isRow;simp only[];rw[Q3 (by simpa[wR,Ht]using hblk)];simp only[wR,Ht,QI,if_true,g1,Option.map_some];exact⟨_,_,rfl,by simp[Go.Sort.putCells,g2]⟩
  ·intro i c hi hc
   rw[hlen]at hi;have:=(hh.cell (i:=i) (c:=c) (by rw[W]; exact hi) hc).1;rw[cP]at this;rw[this];congr 2;have hi':i<(kX C rows).size:=by rw[W]; exact hi
   simp only[pJ,cf,bZ,Array.getElem?_toList];rw[Array.getElem?_eq_getElem hi',getElem!_pos _ i hi'];rfl
  ·exact⟨rfl,rfl,rfl,fun _=>Nat.le_add_right _ _⟩
end
end Go.AL
