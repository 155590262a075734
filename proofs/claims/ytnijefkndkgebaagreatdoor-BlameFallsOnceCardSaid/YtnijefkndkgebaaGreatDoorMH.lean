/-
 What is proved here: the library's sort of a slice by a function that compares,as a function on data (by the kit's own contracts). No program in sight; what is asked is that the library's text lies in the program.
-/
import Derived.Test.YtnijefkndkgebaaGreatDoorMG
import Derived.Shelf.SlSortCmp.NoneTotal
set_option linter.all false
open Array renaming getElem?_modify→Rr,range→fU,size_range→RJ,getElem?_append_left→RN
open Go.Proofs renaming sortWorldK→vX
open Go.Sort renaming grow→vU,mapBlock→vW,putRowK→G6,putRow→RM,ahead→G7
open List renaming getElem?_map→bZ,getElem?_eq_getElem→bI,mem_of_getElem?→eM,getElem?_eq_none→ly,getD_eq_getElem?_getD→ch,ext_getElem?→jx,range→dG
open List.cons renaming injEq→Gz
open Nat renaming zero_le→ef,zero_add→cP,mul_comm→agR
open Option.some renaming injEq→aZ
namespace Go.AL
open Go Go.Proofs
variable [Dr]
theorem q_:∀(ks:List Kd) (r:List G),(c_ ks r).length=ks.length
 | [],_=>rfl
 |_::ks,r=>by simp[c_,q_ ks]
theorem Wn:∀(k:Kd) (g:G),dh (m_ k g)=true∧(m_ k g).oneCell'=true
 |.int _,_=>⟨rfl,rfl⟩
 |.str,_=>⟨rfl,rfl⟩
 |.bool,_=>⟨rfl,rfl⟩
 |.list _,_=>⟨rfl,rfl⟩
theorem uz:∀(ks:List Kd) (r:List G),∀ v∈c_ ks r,dh v=true∧v.oneCell'=true
 | [],_,v,h=>by simp[c_]at h
 | k::ks,r,v,h=>by
  simp only[c_,List.mem_cons]at h;rcases h with rfl|h
  ·exact Wn _ _
  ·exact uz ks r.tail v h
theorem uA{E:Env}:∀{ks:List Kd} {r:List G} {vs:List Value},Kd.cy ks=true→(af E (aJ ks r) vs↔vs=c_ ks r)
 | [],r,[],_=>by simp[aJ,af,c_]
 | [],r,_::_,_=>by simp[aJ,af,c_]
 |_::_,r,[],_=>by simp[aJ,af,c_]
 |.list _::_,_,_::_,h=>by simp[Kd.cy]at h
 | .int k::ks,r,v::vs,h=>by
  simp only[Kd.cy]at h;simp only[aJ,af,uA (ks:=ks) h,c_,ic,m_,rel,Gz]
 | .str::ks,r,v::vs,h=>by
  simp only[Kd.cy]at h;simp only[aJ,af,uA (ks:=ks) h,c_,ic,m_,rel,Gz]
 | .bool::ks,r,v::vs,h=>by
  simp only[Kd.cy]at h;simp only[aJ,af,uA (ks:=ks) h,c_,ic,m_,rel,Gz]
theorem CF{E:Env}{ks:List Kd}(r:List G)(h:Kd.cy ks=true):af E (aJ ks r) (c_ ks r):=(uA h).2 rfl
theorem Wo{E:Env}{ks:List Kd}{r:List G}{b o:Nat}(g:Kd.cy ks=true)(h:cn E (aJ ks r) b o):∀ c,c<ks.length→E.w.cell? ⟨b,o+c,none⟩=some (c_ ks r)[c]! := by
 obtain⟨vs,h1,_,k⟩:=sQ h;have e:=(uA g).1 h1;subst e;intro c d;refine k c _ ?_;rw[bI (by rw[q_]; exact d),getElem!_pos _ c (by rw[q_]; exact d)]
theorem Wp{w w':World}(h:@Ext sM w w'):∃ q os,w'=vU (w.drewN q) os:=by
 obtain⟨h1,g,k,u,v,d⟩:=h;have d:=d rfl;refine⟨w'.drawn-w.drawn,w'.heap.extract w.heap.size w'.heap.size,?_⟩;cases w with
 | mk N O U os V =>
  cases w' with
  | mk y B I J M =>
   simp only at h1 g k u v d;subst k u v;simp only[vU,World.drewN,World.mk.injEq,eq_self,true_and,and_true];refine⟨?_,by omega⟩;apply Array.ext_getElem?;intro i;rw[Array.getElem?_append];split
   ·exact g i (by assumption)
   ·rw [Array.getElem?_extract]
    split
    ·congr 1
     omega
    ·rw[Array.getElem?_eq_none (by omega)]
def bare(w:World):Env:={ w:=w,H:=[],loc:=[],X:=⟨fun _=>False,fun _=>False,dA⟩ }
theorem Wq(w:World)(d:og (bare w)):au (bare w):=⟨rfl,fun i j b m n h=>by simp[bare]at h,fun i b m h=>by simp[bare]at h,fun b h=>h.elim,fun i o h=>by simp[bare]at h,d,fun l k l' k' b m n hk=>by simp[bare,dA]at hk,fun i b m l k n hi=>by simp[bare]at hi,fun l k b m hk=>by simp[bare,dA]at hk,fun i j o o' l hi=>by simp[bare]at hi,fun l _ k q hk=>by simp[bare,dA]at hk⟩
theorem Wr{P:Program}{g:FuncId}{args:List AV}{n:Int} (h:@dv sM P g args [] (.lit (.int .i64 n)) []) {cs:Array Value} (w:World) (d:og (bare w)) (u:af (bare w) args cs.toList) :
  Calls P g cs w fun e w'=>e=.returned (.int .i64 n)∧∃ q os,w'=vU (w.drewN q) os:=by
 refine(h (bare w) cs rfl (Wq w d) u).mono ?_;rintro e w' ⟨c,v,H',rfl,⟨rfl,rfl⟩,M,r',h1,N,y⟩;simp only[rel]at h1;subst h1;cases y with
 |mk _ B I _ _ _ _ J =>
 refine⟨rfl,Wp (@Ext.mk sM _ _ B (fun b hb=>I b hb ?_) J)⟩;rintro(⟨i,c,hi⟩|⟨l,k,c,hk⟩)
 ·simp[bare]at hi
 ·simp[bare,dA]at hk
def uB(C:List G→Option (List G))(r s:List G):Int:=(gi ((C [.l [r],.l [s]]).getD []) 0).int
def ff(rows:List (List G))(i:Nat):List G:=rows.getD i (rows.headD [])
theorem uC{rows:List (List G)}(h:rows≠[])(i:Nat):ff rows i∈rows:=by
 unfold ff;rw[ch];cases hi:rows[i]? with
 |some x=>exact eM hi
 | none =>
  cases rows with
  |nil=>exact(h rfl).elim
  |cons x l=>simp
abbrev lh(C:List G→Option (List G))(rows:List (List G))(i j:Nat):Int:=uB C (ff rows i) (ff rows j)
structure pb (C:List G→Option (List G)) (rows:List (List G)):Prop where
 Ws:∀ r∈rows,∀ s∈rows,∃ n,C [.l [r],.l [s]]=some [.i n]
 swo:Go.Sort.SWO (ltOf (lh C rows))
 small:rows.length<4611686018427387904
noncomputable def kE(C:List G→Option (List G))(rows:List (List G)):Array Nat:=Go.Sort.pdq (ltOf (lh C rows)) (fU rows.length) 0 (fU rows.length).size (Lib.bitLen (fU rows.length).size) true true
noncomputable def pc(C:List G→Option (List G))(rows:List (List G)):List (List G):=(kE C rows).toList.map (ff rows)
open Classical in
noncomputable def ra(C:List G→Option (List G))(d:List G):Option (List G) :=
 if (gi d 0).rows=[] then some [.l []] else if pb C (gi d 0).rows then some [.l (pc C (gi d 0).rows)] else none
theorem yp{C:List G→Option (List G)}{rows:List (List G)}(h:pb C rows):Go.Sort.PermIn 0 (fU rows.length).size (fU rows.length) (kE C rows)∧Go.Sort.SortedIn (ltOf (lh C rows)) 0 (fU rows.length).size (kE C rows) :=
 Go.Sort.pdq_sorts _ h.swo _ 0 _ _ true true (ef _) (Nat.le_refl _) (Or.inl rfl)
theorem Wt{C:List G→Option (List G)}{rows:List (List G)}(h:pb C rows):(kE C rows).toList.Perm (dG rows.length):=by
 have:=(yp h).1.2.2;have e:=(yp h).1.1;simp only[RJ]at this e;rw[show (kE C rows).extract 0 rows.length=kE C rows by rw[←e]; simp,show (fU rows.length).extract 0 rows.length=fU rows.length by simp]at this;simpa using this
theorem KT{C:List G→Option (List G)}{rows:List (List G)}(h:pb C rows):(kE C rows).size=rows.length:=by
 have:=(yp h).1.1;simpa using this
theorem Wu(rows:List (List G)):(dG rows.length).map (ff rows)=rows:=by
 apply jx;intro i;rw[bZ];by_cases h:i<rows.length
 ·rw [List.getElem?_range h, bI h]
  simp[ff,ch,h]
 ·rw [ly (by simpa using h), ly (by omega)]
  rfl
theorem KU{C:List G→Option (List G)}{rows:List (List G)}(h:pb C rows):(pc C rows).Perm rows:=by
 have:=(Wt h).map (ff rows);rw[Wu]at this;exact this
theorem Wv{C:List G→Option (List G)}{rows:List (List G)}(h:pb C rows):(pc C rows).Pairwise fun a b=>¬ uB C b a<0:=by
 unfold pc;rw[List.pairwise_map,List.pairwise_iff_getElem];intro i j hi d g;have:=(yp h).2 i j (ef _) g (by rw[RJ,←KT h]; simpa using d);simp only[Array.length_toList]at hi d;rw[getElem!_pos _ i hi,getElem!_pos _ j d]at this;simpa[ltOf,lh]using this
section
variable {P:Program} {ρ:Go.Shelf.Ren}
theorem Ww{E:Env}{K:List Kd}{rows:List (List G)}{b m:Nat}(v:Kd.cy K=true)(u:isRow E.w b (m*K.length)) (y:cz E K.length (rows.map (aJ K)) b 0) (d:Array Nat) (q:d.size=rows.length) (hi:∀ i,i<rows.length→d[i]! = i) :
  Go.Sort.HoldsK (fun i=>c_ K (ff rows i)) K.length E.w b 0 d:=by
 intro t g;rw[Go.Sort.size_flatK,q]at g;have hk:0<K.length:=by
  rcases Nat.eq_zero_or_pos K.length with h|h
  ·rw[h]at g; simp at g
  ·exact h
 have k:t / K.length<rows.length:=Nat.div_lt_of_lt_mul (by rw[agR]; exact g);rw[Go.Sort.get_flatK _ _ _ _ (by rw[q]; exact g),hi _ k];have B:(rows.map (aJ K))[t / K.length]? = some (aJ K (ff rows (t / K.length))):=by
  rw[bZ,bI k];simp[ff,ch,k]
 have:=Wo v (lM y B).2 (t%K.length) (Nat.mod_lt _ hk);refine⟨?_,?_⟩
 ·rw [show 0 + t = 0 + t / K.length * K.length + t % K.length by rw [cP, cP, agR, Nat.div_add_mod]]
  exact this
 ·obtain ⟨cs, el, h1, _⟩ := u
  simp[World.frozen?,h1]
theorem KV{w:World}{d:Nat}{f:Array Value→Array Value}{x:Nat}(h:x≠d):(vW w d f).heap[x]? = w.heap[x]? := by
 simp[vW,Rr,Ne.symm h]
theorem Wx{E:Env}(HE:au E){K:List Kd}{rows rows':List (List G)}{b m:Nat}(hs:Kd.cy K=true) (hH:E.H=[.vec K.length 0 (rows.map (aJ K))]) (d:E.loc[0]? = some (some (b,m))) (hrow:isRow E.w b (m*K.length))
  (U:cz E K.length (rows.map (aJ K)) b 0) (hm:rows'.length≤m) {w':World} (y:E.w.heap.size≤w'.heap.size) (W:∀ x,x<E.w.heap.size→x≠b→w'.heap[x]? = E.w.heap[x]?) (hrow':isRow w' b (m*K.length))
  (V:∀ i c,i<rows'.length→c<K.length→w'.cell? ⟨b,i*K.length+c,none⟩=some (c_ K (rows'.getD i []))[c]!) (B:dJ E.w w') :
  cL E (.tuple []) [.vec K.length 0 (rows'.map (aJ K))] (.tuple #[]) w':=by
 have h0:E.H[0]? = some (ab.vec K.length 0 (rows.map (aJ K))):=by rw[hH]; rfl
 have M:∀ x,x<E.w.heap.size→(∀ n,E.loc[0]? ≠ some (some (x,n)))→w'.heap[x]? = E.w.heap[x]? := fun x g hn=>W x g fun e=>hn m (by rw[d,e]);have eset:E.H.set 0 (ab.vec K.length 0 (rows'.map (aJ K)))=[.vec K.length 0 (rows'.map (aJ K))]:=by rw[hH]; rfl
 have I:E.loc.set 0 (some (b,m))=E.loc:=by
  apply jx;intro i;rw[List.getElem?_set];split
  ·rename_i e
   subst e;split
   ·exact d.symm
   ·rename_i h; exact(h (aK d)).elim
  ·rfl
 have J:(∀ v,(ab.vec K.length 0 (rows'.map (aJ K))).aF = some v→(ab.vec K.length 0 (rows.map (aJ K))).aF = some v∧E.loc[0]? = some (some (b,m))):=fun v k=>⟨k,d⟩
 have N:∀ v u,(ab.vec K.length 0 (rows'.map (aJ K))).aF = some v→(ab.vec K.length 0 (rows.map (aJ K))).aF = some u→u≤v:=fun v u k hu=>by
  simp only[ab.aF,aZ]at k hu;omega
 have hle:=Env.iZ (E:=E) (w':=w') (id:=0) (o:=.vec K.length 0 (rows.map (aJ K))) (o':=.vec K.length 0 (rows'.map (aJ K))) (l:=some (b,m)) h0 HE.len y M (fun b' n' e=>.inr ⟨m,by cases e; exact d⟩) (.inl J) N (fun _ h=>by simp[ab.aF]at h) B;have hobj:aN { w:=w',H:=E.H.set 0 (ab.vec K.length 0 (rows'.map (aJ K))),loc:=E.loc.set 0 (some (b,m)),X:=E.X } 0 (.vec K.length 0 (rows'.map (aJ K))):=by
  simp only[aN];refine .inr ⟨b,m,by rw[I]; exact d,hrow',by simpa using hm,?_,?_⟩
  ·intro r U
   obtain⟨x,_,rfl⟩:=List.mem_map.1 U;exact fy _ _
  ·rw [kO]
   intro i r hi;rw[bZ]at hi;cases g:rows'[i]? with
   |none=>rw[g]at hi; cases hi
   | some x =>
    rw[g]at hi;cases hi;refine⟨pS _ _,?_⟩;rw[ij];intro c a ha;have q:c<K.length:=by have:=aK ha; rwa [pS]at this
    have hlt:=aK g;have hget:rows'.getD i []=x:=by rw[ch,g]; rfl
    have k:(c_ K x)[c]? = some (c_ K x)[c]! := by rw[bI (by rw[q_]; exact q),getElem!_pos _ c (by rw[q_]; exact q)]
    refine⟨(c_ K x)[c]!,?_,(uz K x _ (eM k)).1,?_⟩
    ·have := V i c hlt q
     rw[hget]at this;rw[show 0+i*K.length+c=i*K.length+c by omega];exact this
    ·exact(lL.1 (CF x hs)).2 c a _ ha k
 have O:=au.kf HE h0 y M (fun b' n' e=>.inr ⟨m,by cases e; exact d⟩) (.inl J) N (fun _ h=>by simp[ab.aF]at h) hobj B;rw[eset,I]at hle O;exact⟨E.loc,E.X.r,by simp[rel,af],O,hle⟩
theorem Wy(L:SlLaysF0.n6 P ρ)(K:List Kd)(M:Kd.cy K=true) (aE:∀ w,(isAgg (ρ.t 24)).run P w=.ok true w) (zE:∀ w,(Go.sizeOf (ρ.t 24)).run P w=.ok K.length w) (g:FuncId) (hg:eS P g=true)
  (C:List G→Option (List G)) (hC:∀ d r,C d=some r→@dv sM P g (fc [] [.s (.row K),.s (.row K)] d) [] (c6 (fc [] [.s (.int .i64)] r)) []) (d r:List G) (h:ra C d=some r) :
  dv P (ρ.f 6) (fc (cF [.vec K 0] d) [.s (.vec 0 K.length),.s (.fn g)] (eb 1 d)) (ao (cM (cF [.vec K 0] d) [.vec K 0] d)) (c6 []) (ao (cM (cF [.vec K 0] r) [.vec K 0] r)):=by
 have e1:gi d 0=d.headD default:=rfl;intro E cargs hH HE I;simp only[fc,oU,eB,cF,cM,eJ,ao,List.map_cons,List.map_nil,ai.den,cX.ae,cX.len,List.getD_cons_zero,←e1]at hH I;obtain⟨cs⟩:=cargs
 match cs,I with
 | [c0,c1],I =>
 simp only[af,and_true]at I;obtain⟨h0,h1⟩:=I;simp only[rel,af]at h1;obtain⟨N,rfl,V⟩:=h1;have V:N=#[]:=by
  obtain⟨N⟩:=N;cases N with
  |nil=>rfl
  |cons x l=>simp[af]at V
 subst V;simp only[rel]at h0;obtain⟨⟨base,cap,rfl,hcap,hbase⟩,_,hlive⟩:=h0;have hl0:E.H[0]? = some (ab.vec K.length 0 ((gi d 0).rows.map (aJ K))):=by rw[hH]; rfl
 obtain⟨hn,q⟩:=hlive ⟨_,hl0,rfl⟩;unfold ra at h;split at h
 ·rename_i u
  cases h;have hH':E.H=[ab.vec K.length 0 []]:=by rw[hH,u]; rfl
  rw[u];refine(AnyF.slices_SortFunc_none L base cap _ E.w).mono ?_;rintro e w' ⟨rfl,rfl⟩;refine⟨_,.tuple [],[ab.vec K.length 0 []],rfl,⟨rfl,rfl⟩,E.loc,E.X.r,by simp[rel,af],?_,?_⟩
  ·rw [← hH']
   exact HE
  ·rw [← hH']
   exact Env.le.refl E
 ·rename_i u
  split at h
  case isFalse=>cases h
  rename_i J;cases h;have hpos:0<(gi d 0).rows.length:=List.length_pos_iff.2 u;rcases HE.obj 0 _ hl0 with⟨_,e2⟩|⟨b,m,O,U,hm,hcl,hr⟩
  ·exact(u (by simpa using e2)).elim
  obtain⟨_,o,ho,hc⟩:=q b m O;have hmm:(gi d 0).rows.length≤m:=by simpa using hm
  have ho:o=0:=by have:=ho (by omega); omega
  subst ho;generalize hrs:(gi d 0).rows=rows at *;rw[hc];have B:(fU rows.length).size=rows.length:=RJ;have hdi:∀ i,i<rows.length→(fU rows.length)[i]! = i:=fun i hi=>by rw[getElem!_pos _ i (by rw[B]; exact hi)]; simp
  have hH0:=Ww M U hr (fU rows.length) B hdi;have hblk:b<E.w.heap.size:=(HE.lt 0 b m O).1;have hcmp:CmpLays P g #[] (fun i=>c_ K (ff rows i)) K.length (lh C rows) b 0 (fU rows.length).size E.w:=by
   intro mm os dk _ x y;obtain⟨n,hn⟩:=J.Ws _ (uC u x) _ (uC u y);have:=hC _ _ hn;simp only[fc,oU,eB,eb,Sh.sz,eA.sz,List.headD_cons,List.tail_cons,c6,G.row,G.rows,G.int]at this;have e:lh C rows x y=n:=by
    simp only[lh,uB,hn];rfl
   rw[e];have ht:og (bare (vX (fun i=>c_ K (ff rows i)) K.length E.w b 0 mm dk os)):=fun p hp=>by
    obtain⟨h1,t,f,h2⟩:=HE.eR p hp;have hne:p.1≠b:=fun e=>h1.2.1 (.inl ⟨0,m,by rw[e]; exact O⟩);have hsame:(vX (fun i=>c_ K (ff rows i)) K.length E.w b 0 mm dk os).heap[p.1]? = E.w.heap[p.1]? := by
     unfold vX G6 RM vU;simp only[];rw[RN (by simpa[vW,G7]using h1.1),KV hne];rfl
    refine⟨⟨(Array.getElem?_eq_some_iff.1 (hsame.trans h2)).1,?_,fun h=>h⟩,t,f,by rw[←h2]; exact hsame⟩;rintro(⟨i,c,hi⟩|⟨l,k,c,hk⟩)
    ·simp[bare]at hi
    ·simp[bare,dA]at hk
   exact Wr this _ ht (by
    simp only[af,rel,and_true,Array.toList_append,List.append_nil];exact⟨⟨_,rfl,fun v q=>(uz K _ v q).1,CF _ M⟩,⟨_,rfl,fun v q=>(uz K _ v q).1,CF _ M⟩⟩)
  have:=AnyQ.slices_SortFunc_eq L K.length aE zE (fun i=>c_ K (ff rows i)) (fun x=>q_ _ _) (fun x v q=>(uz K _ v q).2) (lh C rows) J.swo g #[] b 0 (m-0) (fU rows.length) E.w
   (fun args w=>Ba hg args w) hcmp hH0 hblk (by rw[B]; exact J.small)
  rw[B]at this;refine this.mono ?_;rintro e w' ⟨rfl,n,os,rfl⟩;refine⟨_,.tuple [],_,rfl,⟨rfl,rfl⟩,?_⟩;have eN:Go.Sort.pdq (ltOf (lh C rows)) (fU rows.length) 0 rows.length (Lib.bitLen rows.length) true true=kE C rows:=by
   unfold kE;rw[B]
  rw[eN];have W:=KT J;have hlen:(pc C rows).length=rows.length:=(KU J).length_eq;have hh:=holdsK_sortWorldK_c (fun i=>c_ K (ff rows i)) K.length E.w b 0 (fU rows.length) (kE C rows) n os hH0 hblk (by rw[W,B]);refine Wx (rows':=pc C rows) HE M hH O U hr (by rw[hlen]; exact hmm) ?_ ?_ ?_ ?_ ?_
  ·unfold vX G6
   rw[Go.Sort.size_grow,Go.Sort.size_putRow];show E.w.heap.size≤E.w.heap.size+_
   omega
  ·intro x hx hxb
   unfold vX G6 RM vU;simp only[];rw[RN (by simpa[vW,G7]using hx),KV hxb];rfl
  ·obtain ⟨cs, el, g1, g2⟩ := U
   unfold vX G6 RM vU;unfold isRow;simp only[];rw[RN (by simpa[vW,G7]using hblk)];simp only[vW,G7,Rr,if_true,g1,Option.map_some];exact⟨_,_,rfl,by simp[Go.Sort.putCells,g2]⟩
  ·intro i c hi hc
   rw[hlen]at hi;have:=(hh.cell (i:=i) (c:=c) (by rw[W]; exact hi) hc).1;rw[cP]at this;rw[this];congr 2;have hi':i<(kE C rows).size:=by rw[W]; exact hi
   simp only[pc,ch,bZ,Array.getElem?_toList];rw[Array.getElem?_eq_getElem hi',getElem!_pos _ i hi'];rfl
  ·exact⟨rfl,rfl,rfl,fun _=>Nat.le_add_right _ _⟩
end
end Go.AL
