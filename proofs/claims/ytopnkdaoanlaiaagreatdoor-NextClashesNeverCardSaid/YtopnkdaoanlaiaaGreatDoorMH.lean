/-
 What is proved here: the library's sort of a slice by a function that compares,as a function on data (by the kit's own contracts). No program in sight; what is asked is that the library's text lies in the program.
-/
import Derived.Test.YtopnkdaoanlaiaaGreatDoorMG
import Derived.Shelf.SlSortCmp.NoneTotal
set_option linter.all false
open Array renaming getElem?_modify→II,range→gz,getElem?_append_left→yn,size_range→To
open Go.Proofs renaming sortWorldK→yo
open Go.Sort renaming grow→ox,mapBlock→qa,putRowK→I5,putRow→yp,ahead→qc
open List renaming range→fp,getElem?_map→cq,getElem?_eq_none→rX,getElem?_eq_getElem→bE,getD_eq_getElem?_getD→cH,mem_of_getElem?→fK,ext_getElem?→mW
open List.cons renaming injEq→IH
open Nat renaming zero_add→dO,zero_le→j5,mul_comm→aiG
open Option.some renaming injEq→aT
namespace Go.AL
open Go Go.Proofs
variable [Dr]
theorem tv:∀(ks:List Kd) (r:List G),(du ks r).length=ks.length
 | [],_=>rfl
 |_::ks,r=>by simp[du,tv ks]
theorem Xg:∀(k:Kd) (g:G),dB (oS k g)=true∧(oS k g).oneCell'=true
 |.int _,_=>⟨rfl,rfl⟩
 |.str,_=>⟨rfl,rfl⟩
 |.bool,_=>⟨rfl,rfl⟩
 |.list _,_=>⟨rfl,rfl⟩
theorem wC:∀(ks:List Kd) (r:List G),∀ v∈du ks r,dB v=true∧v.oneCell'=true
 | [],_,v,h=>by simp[du]at h
 | k::ks,r,v,h=>by
  simp only[du,List.mem_cons]at h;rcases h with rfl|h
  ·exact Xg _ _
  ·exact wC ks r.tail v h
theorem wD{E:Env}:∀{ks:List Kd} {r:List G} {vs:List Value},Kd.cw ks=true→(ad E (aD ks r) vs↔vs=du ks r)
 | [],r,[],_=>by simp[aD,ad,du]
 | [],r,_::_,_=>by simp[aD,ad,du]
 |_::_,r,[],_=>by simp[aD,ad,du]
 |.list _::_,_,_::_,h=>by simp[Kd.cw]at h
 | .int k::ks,r,v::vs,h=>by
  simp only[Kd.cw]at h;simp only[aD,ad,wD (ks:=ks) h,du,ib,oS,rel,IH]
 | .str::ks,r,v::vs,h=>by
  simp only[Kd.cw]at h;simp only[aD,ad,wD (ks:=ks) h,du,ib,oS,rel,IH]
 | .bool::ks,r,v::vs,h=>by
  simp only[Kd.cw]at h;simp only[aD,ad,wD (ks:=ks) h,du,ib,oS,rel,IH]
theorem Fa{E:Env}{ks:List Kd}(r:List G)(h:Kd.cw ks=true):ad E (aD ks r) (du ks r):=(wD h).2 rfl
theorem Mi{E:Env}{ks:List Kd}{r:List G}{b o:Nat}(d:Kd.cw ks=true)(h:ca E (aD ks r) b o):∀ c,c<ks.length→E.w.cell? ⟨b,o+c,none⟩=some (du ks r)[c]! := by
 obtain⟨vs,h1,_,g⟩:=uZ h;have e:=(wD d).1 h1;subst e;intro c hc;refine g c _ ?_;rw[bE (by rw[tv]; exact hc),getElem!_pos _ c (by rw[tv]; exact hc)]
theorem Xh{w w':World}(h:@Ext nf w w'):∃ q os,w'=ox (w.drewN q) os:=by
 obtain⟨h1,g,k,A,B,d⟩:=h;have d:=d rfl;refine⟨w'.drawn-w.drawn,w'.heap.extract w.heap.size w'.heap.size,?_⟩;cases w with
 | mk O R U os W =>
  cases w' with
  | mk F I J M N =>
   simp only at h1 g k A B d;subst k A B;simp only[ox,World.drewN,World.mk.injEq,eq_self,true_and,and_true];refine⟨?_,by omega⟩;apply Array.ext_getElem?;intro i;rw[Array.getElem?_append];split
   ·exact g i (by assumption)
   ·rw [Array.getElem?_extract]
    split
    ·congr 1
     omega
    ·rw[Array.getElem?_eq_none (by omega)]
def bare(w:World):Env:={ w:=w,H:=[],loc:=[],X:=⟨fun _=>False,fun _=>False,dP⟩ }
theorem Xi(w:World)(d:nh (bare w)):ar (bare w):=⟨rfl,fun i j b m n h=>by simp[bare]at h,fun i b m h=>by simp[bare]at h,fun b h=>h.elim,fun i o h=>by simp[bare]at h,d,fun l k l' k' b m n hk=>by simp[bare,dP]at hk,fun i b m l k n hi=>by simp[bare]at hi,fun l k b m hk=>by simp[bare,dP]at hk,fun i j o o' l hi=>by simp[bare]at hi,fun l _ k q hk=>by simp[bare,dP]at hk⟩
theorem Xj{P:Program}{g:FuncId}{args:List AV}{n:Int} (h:@cg nf P g args [] (.lit (.int .i64 n)) []) {cs:Array Value} (w:World) (d:nh (bare w)) (hr:ad (bare w) args cs.toList) :
  Calls P g cs w fun e w'=>e=.returned (.int .i64 n)∧∃ q os,w'=ox (w.drewN q) os:=by
 refine(h (bare w) cs rfl (Xi w d) hr).mono ?_;rintro e w' ⟨c,v,H',rfl,⟨rfl,rfl⟩,M,r',h1,N,A⟩;simp only[rel]at h1;subst h1;cases A with
 |mk _ B F _ _ _ _ I =>
 refine⟨rfl,Xh (@Ext.mk nf _ _ B (fun b J=>F b J ?_) I)⟩;rintro(⟨i,c,hi⟩|⟨l,k,c,hk⟩)
 ·simp[bare]at hi
 ·simp[bare,dP]at hk
def wE(C:List G→Option (List G))(r s:List G):Int:=(gi ((C [.l [r],.l [s]]).getD []) 0).int
def fx(rows:List (List G))(i:Nat):List G:=rows.getD i (rows.headD [])
theorem wF{rows:List (List G)}(h:rows≠[])(i:Nat):fx rows i∈rows:=by
 unfold fx;rw[cH];cases hi:rows[i]? with
 |some x=>exact fK hi
 | none =>
  cases rows with
  |nil=>exact(h rfl).elim
  |cons x l=>simp
abbrev mB(C:List G→Option (List G))(rows:List (List G))(i j:Nat):Int:=wE C (fx rows i) (fx rows j)
structure qW (C:List G→Option (List G)) (rows:List (List G)):Prop where
 Xk:∀ r∈rows,∀ s∈rows,∃ n,C [.l [r],.l [s]]=some [.i n]
 swo:Go.Sort.SWO (ltOf (mB C rows))
 small:rows.length<4611686018427387904
noncomputable def lH(C:List G→Option (List G))(rows:List (List G)):Array Nat:=Go.Sort.pdq (ltOf (mB C rows)) (gz rows.length) 0 (gz rows.length).size (Lib.bitLen (gz rows.length).size) true true
noncomputable def qX(C:List G→Option (List G))(rows:List (List G)):List (List G):=(lH C rows).toList.map (fx rows)
open Classical in
noncomputable def qY(C:List G→Option (List G))(d:List G):Option (List G) :=
 if (gi d 0).rows=[] then some [.l []] else if qW C (gi d 0).rows then some [.l (qX C (gi d 0).rows)] else none
theorem AF{C:List G→Option (List G)}{rows:List (List G)}(h:qW C rows):Go.Sort.PermIn 0 (gz rows.length).size (gz rows.length) (lH C rows)∧Go.Sort.SortedIn (ltOf (mB C rows)) 0 (gz rows.length).size (lH C rows) :=
 Go.Sort.pdq_sorts _ h.swo _ 0 _ _ true true (j5 _) (Nat.le_refl _) (Or.inl rfl)
theorem Xl{C:List G→Option (List G)}{rows:List (List G)}(h:qW C rows):(lH C rows).toList.Perm (fp rows.length):=by
 have:=(AF h).1.2.2;have e:=(AF h).1.1;simp only[To]at this e;rw[show (lH C rows).extract 0 rows.length=lH C rows by rw[←e]; simp,show (gz rows.length).extract 0 rows.length=gz rows.length by simp]at this;simpa using this
theorem Mj{C:List G→Option (List G)}{rows:List (List G)}(h:qW C rows):(lH C rows).size=rows.length:=by
 have:=(AF h).1.1;simpa using this
theorem Xm(rows:List (List G)):(fp rows.length).map (fx rows)=rows:=by
 apply mW;intro i;rw[cq];by_cases h:i<rows.length
 ·rw [List.getElem?_range h, bE h]
  simp[fx,cH,h]
 ·rw [rX (by simpa using h), rX (by omega)]
  rfl
theorem Mk{C:List G→Option (List G)}{rows:List (List G)}(h:qW C rows):(qX C rows).Perm rows:=by
 have:=(Xl h).map (fx rows);rw[Xm]at this;exact this
theorem Xn{C:List G→Option (List G)}{rows:List (List G)}(h:qW C rows):(qX C rows).Pairwise fun a b=>¬ wE C b a<0:=by
 unfold qX;rw[List.pairwise_map,List.pairwise_iff_getElem];intro i j hi d g;have:=(AF h).2 i j (j5 _) g (by rw[To,←Mj h]; simpa using d);simp only[Array.length_toList]at hi d;rw[getElem!_pos _ i hi,getElem!_pos _ j d]at this;simpa[ltOf,mB]using this
section
variable {P:Program} {ρ:Go.Shelf.Ren}
theorem Xo{E:Env}{K:List Kd}{rows:List (List G)}{b m:Nat}(B:Kd.cw K=true)(A:isRow E.w b (m*K.length)) (hr:cL E K.length (rows.map (aD K)) b 0) (d:Array Nat) (q:d.size=rows.length) (hi:∀ i,i<rows.length→d[i]! = i) :
  Go.Sort.HoldsK (fun i=>du K (fx rows i)) K.length E.w b 0 d:=by
 intro t g;rw[Go.Sort.size_flatK,q]at g;have hk:0<K.length:=by
  rcases Nat.eq_zero_or_pos K.length with h|h
  ·rw[h]at g; simp at g
  ·exact h
 have k:t / K.length<rows.length:=Nat.div_lt_of_lt_mul (by rw[aiG]; exact g);rw[Go.Sort.get_flatK _ _ _ _ (by rw[q]; exact g),hi _ k];have F:(rows.map (aD K))[t / K.length]? = some (aD K (fx rows (t / K.length))):=by
  rw[cq,bE k];simp[fx,cH,k]
 have:=Mi B (ma hr F).2 (t%K.length) (Nat.mod_lt _ hk);refine⟨?_,?_⟩
 ·rw [show 0 + t = 0 + t / K.length * K.length + t % K.length by rw [dO, dO, aiG, Nat.div_add_mod]]
  exact this
 ·obtain ⟨cs, el, h1, _⟩ := A
  simp[World.frozen?,h1]
theorem Fb{w:World}{wG:Nat}{f:Array Value→Array Value}{x:Nat}(h:x≠wG):(qa w wG f).heap[x]? = w.heap[x]? := by
 simp[qa,II,Ne.symm h]
theorem Ml{E:Env}(HE:ar E){K:List Kd}{rows rows':List (List G)}{b m:Nat}(hs:Kd.cw K=true) (hH:E.H=[.vec K.length 0 (rows.map (aD K))]) (d:E.loc[0]? = some (some (b,m))) (hrow:isRow E.w b (m*K.length))
  (hr:cL E K.length (rows.map (aD K)) b 0) (hm:rows'.length≤m) {w':World} (q:E.w.heap.size≤w'.heap.size) (R:∀ x,x<E.w.heap.size→x≠b→w'.heap[x]? = E.w.heap[x]?) (U:isRow w' b (m*K.length))
  (O:∀ i c,i<rows'.length→c<K.length→w'.cell? ⟨b,i*K.length+c,none⟩=some (du K (rows'.getD i []))[c]!) (A:dq E.w w') :
  dh E (.tuple []) [.vec K.length 0 (rows'.map (aD K))] (.tuple #[]) w':=by
 have h0:E.H[0]? = some (af.vec K.length 0 (rows.map (aD K))):=by rw[hH]; rfl
 have I:∀ x,x<E.w.heap.size→(∀ n,E.loc[0]? ≠ some (some (x,n)))→w'.heap[x]? = E.w.heap[x]? := fun x g hn=>R x g fun e=>hn m (by rw[d,e]);have W:E.H.set 0 (af.vec K.length 0 (rows'.map (aD K)))=[.vec K.length 0 (rows'.map (aD K))]:=by rw[hH]; rfl
 have B:E.loc.set 0 (some (b,m))=E.loc:=by
  apply mW;intro i;rw[List.getElem?_set];split
  ·rename_i e
   subst e;split
   ·exact d.symm
   ·rename_i h; exact(h (aJ d)).elim
  ·rfl
 have F:(∀ v,(af.vec K.length 0 (rows'.map (aD K))).aH = some v→(af.vec K.length 0 (rows.map (aD K))).aH = some v∧E.loc[0]? = some (some (b,m))):=fun v k=>⟨k,d⟩
 have J:∀ v u,(af.vec K.length 0 (rows'.map (aD K))).aH = some v→(af.vec K.length 0 (rows.map (aD K))).aH = some u→u≤v:=fun v u k hu=>by
  simp only[af.aH,aT]at k hu;omega
 have hle:=Env.la (E:=E) (w':=w') (id:=0) (o:=.vec K.length 0 (rows.map (aD K))) (o':=.vec K.length 0 (rows'.map (aD K))) (l:=some (b,m)) h0 HE.len q I (fun b' n' e=>.inr ⟨m,by cases e; exact d⟩) (.inl F) J (fun h=>by simp[af.aH]at h) A;have Y:aO { w:=w',H:=E.H.set 0 (af.vec K.length 0 (rows'.map (aD K))),loc:=E.loc.set 0 (some (b,m)),X:=E.X } 0 (.vec K.length 0 (rows'.map (aD K))):=by
  simp only[aO];refine .inr ⟨b,m,by rw[B]; exact d,U,by simpa using hm,?_,?_⟩
  ·intro r hr
   obtain⟨x,_,rfl⟩:=List.mem_map.1 hr;exact fL _ _
  ·rw [l6]
   intro i r hi;rw[cq]at hi;cases g:rows'[i]? with
   |none=>rw[g]at hi; cases hi
   | some x =>
    rw[g]at hi;cases hi;refine⟨qf _ _,?_⟩;rw[jb];intro c a N;have hc:c<K.length:=by have:=aJ N; rwa [qf]at this
    have hlt:=aJ g;have hget:rows'.getD i []=x:=by rw[cH,g]; rfl
    have k:(du K x)[c]? = some (du K x)[c]! := by rw[bE (by rw[tv]; exact hc),getElem!_pos _ c (by rw[tv]; exact hc)]
    refine⟨(du K x)[c]!,?_,(wC K x _ (fK k)).1,?_⟩
    ·have := O i c hlt hc
     rw[hget]at this;rw[show 0+i*K.length+c=i*K.length+c by omega];exact this
    ·exact(ng.1 (Fa x hs)).2 c a _ N k
 have M:=ar.ni HE h0 q I (fun b' n' e=>.inr ⟨m,by cases e; exact d⟩) (.inl F) J (fun h=>by simp[af.aH]at h) Y A;rw[W,B]at hle M;exact⟨E.loc,E.X.r,by simp[rel,ad],M,hle⟩
theorem Mm(L:SlLaysF0.n6 P ρ)(K:List Kd)(I:Kd.cw K=true) (aE:∀ w,(isAgg (ρ.t 24)).run P w=.ok true w) (zE:∀ w,(Go.sizeOf (ρ.t 24)).run P w=.ok K.length w) (g:FuncId) (hg:dE P g=true)
  (C:List G→Option (List G)) (hC:∀ d r,C d=some r→@cg nf P g (dL [] [.s (.row K),.s (.row K)] d) [] (ct (dL [] [.s (.int .i64)] r)) []) (d r:List G) (h:qY C d=some r) :
  cg P (ρ.f 6) (dL (bB [.vec K 0] d) [.s (.vec 0 K.length),.s (.fn g)] (dv 1 d)) (aj (bZ (bB [.vec K 0] d) [.vec K 0] d)) (ct []) (aj (bZ (bB [.vec K 0] r) [.vec K 0] r)):=by
 have e1:gi d 0=d.headD default:=rfl;intro E cargs hH HE F;simp only[dL,lz,eA,bB,bZ,eX,aj,List.map_cons,List.map_nil,ak.den,dc.ae,dc.len,List.getD_cons_zero,←e1]at hH F;obtain⟨cs⟩:=cargs
 match cs,F with
 | [c0,c1],F =>
 simp only[ad,and_true]at F;obtain⟨h0,h1⟩:=F;simp only[rel,ad]at h1;obtain⟨J,rfl,O⟩:=h1;have O:J=#[]:=by
  obtain⟨J⟩:=J;cases J with
  |nil=>rfl
  |cons x l=>simp[ad]at O
 subst O;simp only[rel]at h0;obtain⟨⟨base,cap,rfl,hcap,hbase⟩,_,hlive⟩:=h0;have Y:E.H[0]? = some (af.vec K.length 0 ((gi d 0).rows.map (aD K))):=by rw[hH]; rfl
 obtain⟨hn,q⟩:=hlive ⟨_,Y,rfl⟩;unfold qY at h;split at h
 ·rename_i A
  cases h;have hH':E.H=[af.vec K.length 0 []]:=by rw[hH,A]; rfl
  rw[A];refine(AnyF.slices_SortFunc_none L base cap _ E.w).mono ?_;rintro e w' ⟨rfl,rfl⟩;refine⟨_,.tuple [],[af.vec K.length 0 []],rfl,⟨rfl,rfl⟩,E.loc,E.X.r,by simp[rel,ad],?_,?_⟩
  ·rw [← hH']
   exact HE
  ·rw [← hH']
   exact Env.le.refl E
 ·rename_i A
  split at h
  case isFalse=>cases h
  rename_i aL;cases h;have hpos:0<(gi d 0).rows.length:=List.length_pos_iff.2 A;rcases HE.obj 0 _ Y with⟨_,e2⟩|⟨b,m,M,N,hm,hcl,hr⟩
  ·exact(A (by simpa using e2)).elim
  obtain⟨_,o,U,hc⟩:=q b m M;have hmm:(gi d 0).rows.length≤m:=by simpa using hm
  have U:o=0:=by have:=U (by omega); omega
  subst U;generalize hrs:(gi d 0).rows=rows at *;rw[hc];have B:(gz rows.length).size=rows.length:=To;have hdi:∀ i,i<rows.length→(gz rows.length)[i]! = i:=fun i hi=>by rw[getElem!_pos _ i (by rw[B]; exact hi)]; simp
  have hH0:=Xo I N hr (gz rows.length) B hdi;have hblk:b<E.w.heap.size:=(HE.lt 0 b m M).1;have hcmp:CmpLays P g #[] (fun i=>du K (fx rows i)) K.length (mB C rows) b 0 (gz rows.length).size E.w:=by
   intro mm os dk _ x y;obtain⟨n,hn⟩:=aL.Xk _ (wF A x) _ (wF A y);have:=hC _ _ hn;simp only[dL,lz,eA,dv,Sh.sz,ew.sz,List.headD_cons,List.tail_cons,ct,G.row,G.rows,G.int]at this;have e:mB C rows x y=n:=by
    simp only[mB,wE,hn];rfl
   rw[e];have ht:nh (bare (yo (fun i=>du K (fx rows i)) K.length E.w b 0 mm dk os)):=fun p hp=>by
    obtain⟨h1,t,f,h2⟩:=HE.fb p hp;have hne:p.1≠b:=fun e=>h1.2.1 (.inl ⟨0,m,by rw[e]; exact M⟩);have W:(yo (fun i=>du K (fx rows i)) K.length E.w b 0 mm dk os).heap[p.1]? = E.w.heap[p.1]? := by
     unfold yo I5 yp ox;simp only[];rw[yn (by simpa[qa,qc]using h1.1),Fb hne];rfl
    refine⟨⟨(Array.getElem?_eq_some_iff.1 (W.trans h2)).1,?_,fun h=>h⟩,t,f,by rw[←h2]; exact W⟩;rintro(⟨i,c,hi⟩|⟨l,k,c,hk⟩)
    ·simp[bare]at hi
    ·simp[bare,dP]at hk
   exact Xj this _ ht (by
    simp only[ad,rel,and_true,Array.toList_append,List.append_nil];exact⟨⟨_,rfl,fun v q=>(wC K _ v q).1,Fa _ I⟩,⟨_,rfl,fun v q=>(wC K _ v q).1,Fa _ I⟩⟩)
  have:=AnyQ.slices_SortFunc_eq L K.length aE zE (fun i=>du K (fx rows i)) (fun x=>tv _ _) (fun x v q=>(wC K _ v q).2) (mB C rows) aL.swo g #[] b 0 (m-0) (gz rows.length) E.w
   (fun args w=>sM hg args w) hcmp hH0 hblk (by rw[B]; exact aL.small)
  rw[B]at this;refine this.mono ?_;rintro e w' ⟨rfl,n,os,rfl⟩;refine⟨_,.tuple [],_,rfl,⟨rfl,rfl⟩,?_⟩;have eN:Go.Sort.pdq (ltOf (mB C rows)) (gz rows.length) 0 rows.length (Lib.bitLen rows.length) true true=lH C rows:=by
   unfold lH;rw[B]
  rw[eN];have R:=Mj aL;have hlen:(qX C rows).length=rows.length:=(Mk aL).length_eq;have hh:=holdsK_sortWorldK_c (fun i=>du K (fx rows i)) K.length E.w b 0 (gz rows.length) (lH C rows) n os hH0 hblk (by rw[R,B]);refine Ml (rows':=qX C rows) HE I hH M N hr (by rw[hlen]; exact hmm) ?_ ?_ ?_ ?_ ?_
  ·unfold yo I5
   rw[Go.Sort.size_grow,Go.Sort.size_putRow];show E.w.heap.size≤E.w.heap.size+_
   omega
  ·intro x hx hxb
   unfold yo I5 yp ox;simp only[];rw[yn (by simpa[qa,qc]using hx),Fb hxb];rfl
  ·obtain ⟨cs, el, g1, g2⟩ := N
   unfold yo I5 yp ox;unfold isRow;simp only[];rw[yn (by simpa[qa,qc]using hblk)];simp only[qa,qc,II,if_true,g1,Option.map_some];exact⟨_,_,rfl,by simp[Go.Sort.putCells,g2]⟩
  ·intro i c hi hc
   rw[hlen]at hi;have:=(hh.cell (i:=i) (c:=c) (by rw[R]; exact hi) hc).1;rw[dO]at this;rw[this];congr 2;have hi':i<(lH C rows).size:=by rw[R]; exact hi
   simp only[qX,cH,cq,Array.getElem?_toList];rw[Array.getElem?_eq_getElem hi',getElem!_pos _ i hi'];rfl
  ·exact⟨rfl,rfl,rfl,fun _=>Nat.le_add_right _ _⟩
end
end Go.AL
