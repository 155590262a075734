/-
 What is proved here: the library's sort of a slice by a function that compares,as a function on data (by the kit's own contracts). No program in sight; what is asked is that the library's text lies in the program.
-/
import Derived.Test.YtjmnkdlhpemooaaGreatDoorMG
import Derived.Shelf.SlSortCmp.NoneTotal
set_option linter.all false
open Array renaming getElem?_modify→Hg,range→gu,size_range→Sf,getElem?_append_left→A2
open Go.Proofs renaming sortWorldK→wU
open Go.Sort renaming grow→qA,mapBlock→o9,putRowK→HG,putRow→wV,ahead→o_
open List renaming getElem?_map→bT,getElem?_eq_getElem→bt,mem_of_getElem?→eB,getElem?_eq_none→me,getD_eq_getElem?_getD→bG,ext_getElem?→jU,range→dP
open List.cons renaming injEq→AM
open Nat renaming zero_le→eI,zero_add→cW,mul_comm→ag8
open Option.some renaming injEq→aQ
namespace Go.AL
open Go Go.Proofs
variable [Dr]
theorem sb:∀(ks:List Kd) (r:List G),(dj ks r).length=ks.length
 | [],_=>rfl
 |_::ks,r=>by simp[dj,sb ks]
theorem W1:∀(k:Kd) (g:G),dv (nN k g)=true∧(nN k g).oneCell'=true
 |.int _,_=>⟨rfl,rfl⟩
 |.str,_=>⟨rfl,rfl⟩
 |.bool,_=>⟨rfl,rfl⟩
 |.list _,_=>⟨rfl,rfl⟩
theorem vg:∀(ks:List Kd) (r:List G),∀ v∈dj ks r,dv v=true∧v.oneCell'=true
 | [],_,v,h=>by simp[dj]at h
 | k::ks,r,v,h=>by
  simp only[dj,List.mem_cons]at h;rcases h with rfl|h
  ·exact W1 _ _
  ·exact vg ks r.tail v h
theorem vh{E:Env}:∀{ks:List Kd} {r:List G} {vs:List Value},Kd.cw ks=true→(af E (aH ks r) vs↔vs=dj ks r)
 | [],r,[],_=>by simp[aH,af,dj]
 | [],r,_::_,_=>by simp[aH,af,dj]
 |_::_,r,[],_=>by simp[aH,af,dj]
 |.list _::_,_,_::_,h=>by simp[Kd.cw]at h
 | .int k::ks,r,v::vs,h=>by
  simp only[Kd.cw]at h;simp only[aH,af,vh (ks:=ks) h,dj,iK,nN,rel,AM]
 | .str::ks,r,v::vs,h=>by
  simp only[Kd.cw]at h;simp only[aH,af,vh (ks:=ks) h,dj,iK,nN,rel,AM]
 | .bool::ks,r,v::vs,h=>by
  simp only[Kd.cw]at h;simp only[aH,af,vh (ks:=ks) h,dj,iK,nN,rel,AM]
theorem Dw{E:Env}{ks:List Kd}(r:List G)(h:Kd.cw ks=true):af E (aH ks r) (dj ks r):=(vh h).2 rfl
theorem Lx{E:Env}{ks:List Kd}{r:List G}{b o:Nat}(k:Kd.cw ks=true)(h:cn E (aH ks r) b o):∀ c,c<ks.length→E.w.cell? ⟨b,o+c,none⟩=some (dj ks r)[c]! := by
 obtain⟨vs,h1,_,q⟩:=tK h;have e:=(vh k).1 h1;subst e;intro c d;refine q c _ ?_;rw[bt (by rw[sb]; exact d),getElem!_pos _ c (by rw[sb]; exact d)]
theorem W2{w w':World}(h:@Ext tF w w'):∃ q os,w'=qA (w.drewN q) os:=by
 obtain⟨h1,k,u,v,y,d⟩:=h;have d:=d rfl;refine⟨w'.drawn-w.drawn,w'.heap.extract w.heap.size w'.heap.size,?_⟩;cases w with
 | mk O U V os W =>
  cases w' with
  | mk B I J M N =>
   simp only at h1 k u v y d;subst u v y;simp only[qA,World.drewN,World.mk.injEq,eq_self,true_and,and_true];refine⟨?_,by omega⟩;apply Array.ext_getElem?;intro i;rw[Array.getElem?_append];split
   ·exact k i (by assumption)
   ·rw [Array.getElem?_extract]
    split
    ·congr 1
     omega
    ·rw[Array.getElem?_eq_none (by omega)]
def bare(w:World):Env:={ w:=w,H:=[],loc:=[],X:=⟨fun _=>False,fun _=>False,dK⟩ }
theorem W3(w:World)(d:pb (bare w)):ar (bare w):=⟨rfl,fun i j b m n h=>by simp[bare]at h,fun i b m h=>by simp[bare]at h,fun b h=>h.elim,fun i o h=>by simp[bare]at h,d,fun l k l' k' b m n hk=>by simp[bare,dK]at hk,fun i b m l k n hi=>by simp[bare]at hi,fun l k b m hk=>by simp[bare,dK]at hk,fun i j o o' l hi=>by simp[bare]at hi,fun l _ k q hk=>by simp[bare,dK]at hk⟩
theorem W4{P:Program}{g:FuncId}{args:List AV}{n:Int} (h:@dB tF P g args [] (.lit (.int .i64 n)) []) {cs:Array Value} (w:World) (d:pb (bare w)) (hr:af (bare w) args cs.toList) :
  Calls P g cs w fun e w'=>e=.returned (.int .i64 n)∧∃ q os,w'=qA (w.drewN q) os:=by
 refine(h (bare w) cs rfl (W3 w d) hr).mono ?_;rintro e w' ⟨c,v,H',rfl,⟨rfl,rfl⟩,J,r',h1,M,u⟩;simp only[rel]at h1;subst h1;cases u with
 |mk _ y B _ _ _ _ I =>
 refine⟨rfl,W2 (@Ext.mk tF _ _ y (fun b hb=>B b hb ?_) I)⟩;rintro(⟨i,c,hi⟩|⟨l,k,c,hk⟩)
 ·simp[bare]at hi
 ·simp[bare,dK]at hk
def vj(C:List G→Option (List G))(r s:List G):Int:=(gi ((C [.l [r],.l [s]]).getD []) 0).int
def fy(rows:List (List G))(i:Nat):List G:=rows.getD i (rows.headD [])
theorem vk{rows:List (List G)}(h:rows≠[])(i:Nat):fy rows i∈rows:=by
 unfold fy;rw[bG];cases hi:rows[i]? with
 |some x=>exact eB hi
 | none =>
  cases rows with
  |nil=>exact(h rfl).elim
  |cons x l=>simp
abbrev lS(C:List G→Option (List G))(rows:List (List G))(i j:Nat):Int:=vj C (fy rows i) (fy rows j)
structure pY (C:List G→Option (List G)) (rows:List (List G)):Prop where
 W5:∀ r∈rows,∀ s∈rows,∃ n,C [.l [r],.l [s]]=some [.i n]
 swo:Go.Sort.SWO (ltOf (lS C rows))
 small:rows.length<4611686018427387904
noncomputable def lf(C:List G→Option (List G))(rows:List (List G)):Array Nat:=Go.Sort.pdq (ltOf (lS C rows)) (gu rows.length) 0 (gu rows.length).size (Lib.bitLen (gu rows.length).size) true true
noncomputable def pZ(C:List G→Option (List G))(rows:List (List G)):List (List G):=(lf C rows).toList.map (fy rows)
open Classical in
noncomputable def sc(C:List G→Option (List G))(d:List G):Option (List G) :=
 if (gi d 0).rows=[] then some [.l []] else if pY C (gi d 0).rows then some [.l (pZ C (gi d 0).rows)] else none
theorem y7{C:List G→Option (List G)}{rows:List (List G)}(h:pY C rows):Go.Sort.PermIn 0 (gu rows.length).size (gu rows.length) (lf C rows)∧Go.Sort.SortedIn (ltOf (lS C rows)) 0 (gu rows.length).size (lf C rows) :=
 Go.Sort.pdq_sorts _ h.swo _ 0 _ _ true true (eI _) (Nat.le_refl _) (Or.inl rfl)
theorem W6{C:List G→Option (List G)}{rows:List (List G)}(h:pY C rows):(lf C rows).toList.Perm (dP rows.length):=by
 have:=(y7 h).1.2.2;have e:=(y7 h).1.1;simp only[Sf]at this e;rw[show (lf C rows).extract 0 rows.length=lf C rows by rw[←e]; simp,show (gu rows.length).extract 0 rows.length=gu rows.length by simp]at this;simpa using this
theorem Ly{C:List G→Option (List G)}{rows:List (List G)}(h:pY C rows):(lf C rows).size=rows.length:=by
 have:=(y7 h).1.1;simpa using this
theorem W7(rows:List (List G)):(dP rows.length).map (fy rows)=rows:=by
 apply jU;intro i;rw[bT];by_cases h:i<rows.length
 ·rw [List.getElem?_range h, bt h]
  simp[fy,bG,h]
 ·rw [me (by simpa using h), me (by omega)]
  rfl
theorem Lz{C:List G→Option (List G)}{rows:List (List G)}(h:pY C rows):(pZ C rows).Perm rows:=by
 have:=(W6 h).map (fy rows);rw[W7]at this;exact this
theorem W8{C:List G→Option (List G)}{rows:List (List G)}(h:pY C rows):(pZ C rows).Pairwise fun a b=>¬ vj C b a<0:=by
 unfold pZ;rw[List.pairwise_map,List.pairwise_iff_getElem];intro i j hi d k;have:=(y7 h).2 i j (eI _) k (by rw[Sf,←Ly h]; simpa using d);simp only[Array.length_toList]at hi d;rw[getElem!_pos _ i hi,getElem!_pos _ j d]at this;simpa[ltOf,lS]using this
section
variable {P:Program} {ρ:Go.Shelf.Ren}
theorem W9{E:Env}{K:List Kd}{rows:List (List G)}{b m:Nat}(y:Kd.cw K=true)(v:isRow E.w b (m*K.length)) (hr:cA E K.length (rows.map (aH K)) b 0) (d:Array Nat) (u:d.size=rows.length) (hi:∀ i,i<rows.length→d[i]! = i) :
  Go.Sort.HoldsK (fun i=>dj K (fy rows i)) K.length E.w b 0 d:=by
 intro t k;rw[Go.Sort.size_flatK,u]at k;have hk:0<K.length:=by
  rcases Nat.eq_zero_or_pos K.length with h|h
  ·rw[h]at k; simp at k
  ·exact h
 have q:t / K.length<rows.length:=Nat.div_lt_of_lt_mul (by rw[ag8]; exact k);rw[Go.Sort.get_flatK _ _ _ _ (by rw[u]; exact k),hi _ q];have B:(rows.map (aH K))[t / K.length]? = some (aH K (fy rows (t / K.length))):=by
  rw[bT,bt q];simp[fy,bG,q]
 have:=Lx y (lC hr B).2 (t%K.length) (Nat.mod_lt _ hk);refine⟨?_,?_⟩
 ·rw [show 0 + t = 0 + t / K.length * K.length + t % K.length by rw [cW, cW, ag8, Nat.div_add_mod]]
  exact this
 ·obtain ⟨cs, el, h1, _⟩ := v
  simp[World.frozen?,h1]
theorem Dx{w:World}{d:Nat}{f:Array Value→Array Value}{x:Nat}(h:x≠d):(o9 w d f).heap[x]? = w.heap[x]? := by
 simp[o9,Hg,Ne.symm h]
theorem LA{E:Env}(HE:ar E){K:List Kd}{rows rows':List (List G)}{b m:Nat}(hs:Kd.cw K=true) (hH:E.H=[.vec K.length 0 (rows.map (aH K))]) (d:E.loc[0]? = some (some (b,m))) (hrow:isRow E.w b (m*K.length))
  (hr:cA E K.length (rows.map (aH K)) b 0) (hm:rows'.length≤m) {w':World} (B:E.w.heap.size≤w'.heap.size) (V:∀ x,x<E.w.heap.size→x≠b→w'.heap[x]? = E.w.heap[x]?) (W:isRow w' b (m*K.length))
  (U:∀ i c,i<rows'.length→c<K.length→w'.cell? ⟨b,i*K.length+c,none⟩=some (dj K (rows'.getD i []))[c]!) (I:dR E.w w') :
  cQ E (.tuple []) [.vec K.length 0 (rows'.map (aH K))] (.tuple #[]) w':=by
 have h0:E.H[0]? = some (ab.vec K.length 0 (rows.map (aH K))):=by rw[hH]; rfl
 have aw:∀ x,x<E.w.heap.size→(∀ n,E.loc[0]? ≠ some (some (x,n)))→w'.heap[x]? = E.w.heap[x]? := fun x k hn=>V x k fun e=>hn m (by rw[d,e]);have eset:E.H.set 0 (ab.vec K.length 0 (rows'.map (aH K)))=[.vec K.length 0 (rows'.map (aH K))]:=by rw[hH]; rfl
 have J:E.loc.set 0 (some (b,m))=E.loc:=by
  apply jU;intro i;rw[List.getElem?_set];split
  ·rename_i e
   subst e;split
   ·exact d.symm
   ·rename_i h; exact(h (aI d)).elim
  ·rfl
 have M:(∀ v,(ab.vec K.length 0 (rows'.map (aH K))).aF = some v→(ab.vec K.length 0 (rows.map (aH K))).aF = some v∧E.loc[0]? = some (some (b,m))):=fun v q=>⟨q,d⟩
 have N:∀ v u,(ab.vec K.length 0 (rows'.map (aH K))).aF = some v→(ab.vec K.length 0 (rows.map (aH K))).aF = some u→u≤v:=fun v u q hu=>by
  simp only[ab.aF,aQ]at q hu;omega
 have hle:=Env.jD (E:=E) (w':=w') (id:=0) (o:=.vec K.length 0 (rows.map (aH K))) (o':=.vec K.length 0 (rows'.map (aH K))) (l:=some (b,m)) h0 HE.len B aw (fun b' n' e=>.inr ⟨m,by cases e; exact d⟩) (.inl M) N (fun _ h=>by simp[ab.aF]at h) I;have hobj:aJ { w:=w',H:=E.H.set 0 (ab.vec K.length 0 (rows'.map (aH K))),loc:=E.loc.set 0 (some (b,m)),X:=E.X } 0 (.vec K.length 0 (rows'.map (aH K))):=by
  simp only[aJ];refine .inr ⟨b,m,by rw[J]; exact d,W,by simpa using hm,?_,?_⟩
  ·intro r hr
   obtain⟨x,_,rfl⟩:=List.mem_map.1 hr;exact fG _ _
  ·rw [lz]
   intro i r hi;rw[bT]at hi;cases k:rows'[i]? with
   |none=>rw[k]at hi; cases hi
   | some x =>
    rw[k]at hi;cases hi;refine⟨qE _ _,?_⟩;rw[iM];intro c a ha;have y:c<K.length:=by have:=aI ha; rwa [qE]at this
    have hlt:=aI k;have hget:rows'.getD i []=x:=by rw[bG,k]; rfl
    have q:(dj K x)[c]? = some (dj K x)[c]! := by rw[bt (by rw[sb]; exact y),getElem!_pos _ c (by rw[sb]; exact y)]
    refine⟨(dj K x)[c]!,?_,(vg K x _ (eB q)).1,?_⟩
    ·have := U i c hlt y
     rw[hget]at this;rw[show 0+i*K.length+c=i*K.length+c by omega];exact this
    ·exact(mv.1 (Dw x hs)).2 c a _ ha q
 have O:=ar.kP HE h0 B aw (fun b' n' e=>.inr ⟨m,by cases e; exact d⟩) (.inl M) N (fun _ h=>by simp[ab.aF]at h) hobj I;rw[eset,J]at hle O;exact⟨E.loc,E.X.r,by simp[rel,af],O,hle⟩
theorem W_(L:SlLaysF0.n6 P ρ)(K:List Kd)(J:Kd.cw K=true) (aE:∀ w,(isAgg (ρ.t 24)).run P w=.ok true w) (zE:∀ w,(Go.sizeOf (ρ.t 24)).run P w=.ok K.length w) (g:FuncId) (hg:fc P g=true)
  (C:List G→Option (List G)) (hC:∀ d r,C d=some r→@dB tF P g (eY [] [.s (.row K),.s (.row K)] d) [] (df (eY [] [.s (.int .i64)] r)) []) (d r:List G) (h:sc C d=some r) :
  dB P (ρ.f 6) (eY (ct [.vec K 0] d) [.s (.vec 0 K.length),.s (.fn g)] (eg 1 d)) (aj (cF (ct [.vec K 0] d) [.vec K 0] d)) (df []) (aj (cF (ct [.vec K 0] r) [.vec K 0] r)):=by
 have e1:gi d 0=d.headD default:=rfl;intro E cargs hH HE I;simp only[eY,n3,eF,ct,cF,eZ,aj,List.map_cons,List.map_nil,ah.den,c6.ad,c6.len,List.getD_cons_zero,←e1]at hH I;obtain⟨cs⟩:=cargs
 match cs,I with
 | [c0,c1],I =>
 simp only[af,and_true]at I;obtain⟨h0,h1⟩:=I;simp only[rel,af]at h1;obtain⟨M,rfl,U⟩:=h1;have U:M=#[]:=by
  obtain⟨M⟩:=M;cases M with
  |nil=>rfl
  |cons x l=>simp[af]at U
 subst U;simp only[rel]at h0;obtain⟨⟨base,cap,rfl,hcap,hbase⟩,_,hlive⟩:=h0;have hl0:E.H[0]? = some (ab.vec K.length 0 ((gi d 0).rows.map (aH K))):=by rw[hH]; rfl
 obtain⟨W,q⟩:=hlive ⟨_,hl0,rfl⟩;unfold sc at h;split at h
 ·rename_i u
  cases h;have hH':E.H=[ab.vec K.length 0 []]:=by rw[hH,u]; rfl
  rw[u];refine(AnyF.slices_SortFunc_none L base cap _ E.w).mono ?_;rintro e w' ⟨rfl,rfl⟩;refine⟨_,.tuple [],[ab.vec K.length 0 []],rfl,⟨rfl,rfl⟩,E.loc,E.X.r,by simp[rel,af],?_,?_⟩
  ·rw [← hH']
   exact HE
  ·rw [← hH']
   exact Env.le.refl E
 ·rename_i u
  split at h
  case isFalse=>cases h
  rename_i bY;cases h;have hpos:0<(gi d 0).rows.length:=List.length_pos_iff.2 u;rcases HE.obj 0 _ hl0 with⟨_,e2⟩|⟨b,m,N,O,hm,hcl,hr⟩
  ·exact(u (by simpa using e2)).elim
  obtain⟨_,o,ho,hc⟩:=q b m N;have hmm:(gi d 0).rows.length≤m:=by simpa using hm
  have ho:o=0:=by have:=ho (by omega); omega
  subst ho;generalize hrs:(gi d 0).rows=rows at *;rw[hc];have B:(gu rows.length).size=rows.length:=Sf;have hdi:∀ i,i<rows.length→(gu rows.length)[i]! = i:=fun i hi=>by rw[getElem!_pos _ i (by rw[B]; exact hi)]; simp
  have hH0:=W9 J O hr (gu rows.length) B hdi;have hblk:b<E.w.heap.size:=(HE.lt 0 b m N).1;have hcmp:CmpLays P g #[] (fun i=>dj K (fy rows i)) K.length (lS C rows) b 0 (gu rows.length).size E.w:=by
   intro mm os dk _ x y;obtain⟨n,W⟩:=bY.W5 _ (vk u x) _ (vk u y);have:=hC _ _ W;simp only[eY,n3,eF,eg,Sh.sz,eP.sz,List.headD_cons,List.tail_cons,df,G.row,G.rows,G.int]at this;have e:lS C rows x y=n:=by
    simp only[lS,vj,W];rfl
   rw[e];have ht:pb (bare (wU (fun i=>dj K (fy rows i)) K.length E.w b 0 mm dk os)):=fun p hp=>by
    obtain⟨h1,t,f,h2⟩:=HE.fb p hp;have aw:p.1≠b:=fun e=>h1.2.1 (.inl ⟨0,m,by rw[e]; exact N⟩);have hsame:(wU (fun i=>dj K (fy rows i)) K.length E.w b 0 mm dk os).heap[p.1]? = E.w.heap[p.1]? := by
     unfold wU HG wV qA;simp only[];rw[A2 (by simpa[o9,o_]using h1.1),Dx aw];rfl
    refine⟨⟨(Array.getElem?_eq_some_iff.1 (hsame.trans h2)).1,?_,fun h=>h⟩,t,f,by rw[←h2]; exact hsame⟩;rintro(⟨i,c,hi⟩|⟨l,k,c,hk⟩)
    ·simp[bare]at hi
    ·simp[bare,dK]at hk
   exact W4 this _ ht (by
    simp only[af,rel,and_true,Array.toList_append,List.append_nil];exact⟨⟨_,rfl,fun v q=>(vg K _ v q).1,Dw _ J⟩,⟨_,rfl,fun v q=>(vg K _ v q).1,Dw _ J⟩⟩)
  have:=AnyQ.slices_SortFunc_eq L K.length aE zE (fun i=>dj K (fy rows i)) (fun x=>sb _ _) (fun x v q=>(vg K _ v q).2) (lS C rows) bY.swo g #[] b 0 (m-0) (gu rows.length) E.w
   (fun args w=>BZ hg args w) hcmp hH0 hblk (by rw[B]; exact bY.small)
  rw[B]at this;refine this.mono ?_;rintro e w' ⟨rfl,n,os,rfl⟩;refine⟨_,.tuple [],_,rfl,⟨rfl,rfl⟩,?_⟩;have eN:Go.Sort.pdq (ltOf (lS C rows)) (gu rows.length) 0 rows.length (Lib.bitLen rows.length) true true=lf C rows:=by
   unfold lf;rw[B]
  rw[eN];have V:=Ly bY;have hlen:(pZ C rows).length=rows.length:=(Lz bY).length_eq;have hh:=holdsK_sortWorldK_c (fun i=>dj K (fy rows i)) K.length E.w b 0 (gu rows.length) (lf C rows) n os hH0 hblk (by rw[V,B]);refine LA (rows':=pZ C rows) HE J hH N O hr (by rw[hlen]; exact hmm) ?_ ?_ ?_ ?_ ?_
  ·unfold wU HG
   rw[Go.Sort.size_grow,Go.Sort.size_putRow];show E.w.heap.size≤E.w.heap.size+_
   omega
  ·intro x hx hxb
   unfold wU HG wV qA;simp only[];rw[A2 (by simpa[o9,o_]using hx),Dx hxb];rfl
  ·obtain ⟨cs, el, g1, g2⟩ := O
   unfold wU HG wV qA;unfold isRow;simp only[];rw[A2 (by simpa[o9,o_]using hblk)];simp only[o9,o_,Hg,if_true,g1,Option.map_some];exact⟨_,_,rfl,by simp[Go.Sort.putCells,g2]⟩
  ·intro i c hi hc
   rw[hlen]at hi;have:=(hh.cell (i:=i) (c:=c) (by rw[V]; exact hi) hc).1;rw[cW]at this;rw[this];congr 2;have hi':i<(lf C rows).size:=by rw[V]; exact hi
   simp only[pZ,bG,bT,Array.getElem?_toList];rw[Array.getElem?_eq_getElem hi',getElem!_pos _ i hi'];rfl
  ·exact⟨rfl,rfl,rfl,fun _=>Nat.le_add_right _ _⟩
end
end Go.AL
