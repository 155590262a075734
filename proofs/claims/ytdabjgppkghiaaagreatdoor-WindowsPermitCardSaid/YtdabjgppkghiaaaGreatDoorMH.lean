/-
 What is proved here: the library's sort of a slice by a function that compares,as a function on data (by the kit's own contracts). No program in sight; what is asked is that the library's text lies in the program.
-/
import Derived.Test.YtdabjgppkghiaaaGreatDoorMG
import Derived.Shelf.SlSortCmp.NoneTotal
set_option linter.all false
open Array renaming getElem?_modify→KT,range→fo,size_range→Lj,getElem?_append_left→Lm
open Go.Lib renaming bitLen→Xw
open Go.Proofs renaming sortWorldK→tC
open Go.Sort renaming grow→tz,pdq→Xv,mapBlock→tA,putRowK→CK,putRow→Ll,ahead→CL
open List renaming getElem?_map→b7,getElem?_eq_getElem→bC,mem_of_getElem?→dK,getElem?_eq_none→nO,getD_eq_getElem?_getD→cD,ext_getElem?→kp,range→dV
open List.cons renaming injEq→Cq
open Nat renaming zero_le→fI,zero_add→dL,mul_comm→Xx
open Option.some renaming injEq→aK
namespace Go.AL
open Go Go.Proofs
variable [Dr]
theorem pn:∀(ks:List Kd) (r:List G),(cL ks r).length=ks.length
 | [],_=>rfl
 |_::ks,r=>by simp[cL,pn ks]
theorem PR:∀(k:Kd) (g:G),cN (lN k g)=true∧(lN k g).oneCell'=true
 |.int _,_=>⟨rfl,rfl⟩
 |.str,_=>⟨rfl,rfl⟩
 |.bool,_=>⟨rfl,rfl⟩
 |.list _,_=>⟨rfl,rfl⟩
theorem rR:∀(ks:List Kd) (r:List G),∀ v∈cL ks r,cN v=true∧v.oneCell'=true
 | [],_,v,h=>by simp[cL]at h
 | k::ks,r,v,h=>by
  simp only[cL,List.mem_cons]at h;rcases h with rfl|h
  ·exact PR _ _
  ·exact rR ks r.tail v h
theorem rS{E:Env}:∀{ks:List Kd} {r:List G} {vs:List Value},Kd.bS ks=true→(ae E (ax ks r) vs↔vs=cL ks r)
 | [],r,[],_=>by simp[ax,ae,cL]
 | [],r,_::_,_=>by simp[ax,ae,cL]
 |_::_,r,[],_=>by simp[ax,ae,cL]
 |.list _::_,_,_::_,h=>by simp[Kd.bS]at h
 | .int k::ks,r,v::vs,h=>by
  simp only[Kd.bS]at h;simp only[ax,ae,rS (ks:=ks) h,cL,gx,lN,rel,Cq]
 | .str::ks,r,v::vs,h=>by
  simp only[Kd.bS]at h;simp only[ax,ae,rS (ks:=ks) h,cL,gx,lN,rel,Cq]
 | .bool::ks,r,v::vs,h=>by
  simp only[Kd.bS]at h;simp only[ax,ae,rS (ks:=ks) h,cL,gx,lN,rel,Cq]
theorem z_{E:Env}{ks:List Kd}(r:List G)(h:Kd.bS ks=true):ae E (ax ks r) (cL ks r):=(rS h).2 rfl
theorem PS{E:Env}{ks:List Kd}{r:List G}{b o:Nat}(hs:Kd.bS ks=true)(h:bO E (ax ks r) b o):∀ c,c<ks.length→E.w.cell? ⟨b,o+c,none⟩=some (cL ks r)[c]! := by
 obtain⟨vs,h1,_,d⟩:=qc h;have e:=(rS hs).1 h1;subst e;intro c a;refine d c _ ?_;rw[bC (by rw[pn]; exact a),getElem!_pos _ c (by rw[pn]; exact a)]
theorem PT{w w':World}(h:@Ext p8 w w'):∃ q os,w'=tz (w.drewN q) os:=by
 obtain⟨h1,b,d,g,k,a⟩:=h;have a:=a rfl;refine⟨w'.drawn-w.drawn,w'.heap.extract w.heap.size w'.heap.size,?_⟩;cases w with
 | mk y A B os D =>
  cases w' with
  | mk l r t u v =>
   simp only at h1 b d g k a;subst d g k;simp only[tz,World.drewN,World.mk.injEq,eq_self,true_and,and_true];refine⟨?_,by omega⟩;apply Array.ext_getElem?;intro i;rw[Array.getElem?_append];split
   ·exact b i (by assumption)
   ·rw [Array.getElem?_extract]
    split
    ·congr 1
     omega
    ·rw[Array.getElem?_eq_none (by omega)]
def bare(w:World):Env:={ w:=w,H:=[],loc:=[],X:=⟨fun _=>False,fun _=>False,cY⟩ }
theorem PU(w:World)(a:mG (bare w)):ak (bare w):=⟨rfl,fun i j b m n h=>by simp[bare]at h,fun i b m h=>by simp[bare]at h,fun b h=>h.elim,fun i o h=>by simp[bare]at h,a,fun l k l' k' b m n hk=>by simp[bare,cY]at hk,fun i b m l k n hi=>by simp[bare]at hi,fun l k b m hk=>by simp[bare,cY]at hk,fun i j o o' l hi=>by simp[bare]at hi,fun l _ k q hk=>by simp[bare,cY]at hk⟩
theorem PV{P:Program}{g:FuncId}{args:List AV}{n:Int} (h:@c9 p8 P g args [] (.lit (.int .i64 n)) []) {cs:Array Value} (w:World) (a:mG (bare w)) (hr:ae (bare w) args cs.toList) :
  Calls P g cs w fun e w'=>e=.returned (.int .i64 n)∧∃ q os,w'=tz (w.drewN q) os:=by
 refine(h (bare w) cs rfl (PU w a) hr).mono ?_;rintro e w' ⟨c,v,H',rfl,⟨rfl,rfl⟩,A,r',h1,B,d⟩;simp only[rel]at h1;subst h1;cases d with
 |mk _ r t _ _ _ _ u =>
 refine⟨rfl,PT (@Ext.mk p8 _ _ r (fun b y=>t b y ?_) u)⟩;rintro(⟨i,c,hi⟩|⟨l,k,c,hk⟩)
 ·simp[bare]at hi
 ·simp[bare,cY]at hk
def rT(C:List G→Option (List G))(r s:List G):Int:=(gi ((C [.l [r],.l [s]]).getD []) 0).int
def eC(rows:List (List G))(i:Nat):List G:=rows.getD i (rows.headD [])
theorem rU{rows:List (List G)}(h:rows≠[])(i:Nat):eC rows i∈rows:=by
 unfold eC;rw[cD];cases hi:rows[i]? with
 |some x=>exact dK hi
 | none =>
  cases rows with
  |nil=>exact(h rfl).elim
  |cons x l=>simp
abbrev kc(C:List G→Option (List G))(rows:List (List G))(i j:Nat):Int:=rT C (eC rows i) (eC rows j)
structure nC (C:List G→Option (List G)) (rows:List (List G)):Prop where
 PW:∀ r∈rows,∀ s∈rows,∃ n,C [.l [r],.l [s]]=some [.i n]
 swo:Go.Sort.SWO (ltOf (kc C rows))
 small:rows.length<4611686018427387904
noncomputable def jI(C:List G→Option (List G))(rows:List (List G)):Array Nat:=Xv (ltOf (kc C rows)) (fo rows.length) 0 (fo rows.length).size (Xw (fo rows.length).size) true true
noncomputable def nD(C:List G→Option (List G))(rows:List (List G)):List (List G):=(jI C rows).toList.map (eC rows)
open Classical in
noncomputable def rV(C:List G→Option (List G))(d:List G):Option (List G) :=
 if (gi d 0).rows=[] then some [.l []] else if nC C (gi d 0).rows then some [.l (nD C (gi d 0).rows)] else none
theorem vX{C:List G→Option (List G)}{rows:List (List G)}(h:nC C rows):Go.Sort.PermIn 0 (fo rows.length).size (fo rows.length) (jI C rows)∧Go.Sort.SortedIn (ltOf (kc C rows)) 0 (fo rows.length).size (jI C rows) :=
 Go.Sort.pdq_sorts _ h.swo _ 0 _ _ true true (fI _) (Nat.le_refl _) (Or.inl rfl)
theorem PX{C:List G→Option (List G)}{rows:List (List G)}(h:nC C rows):(jI C rows).toList.Perm (dV rows.length):=by
 have:=(vX h).1.2.2;have e:=(vX h).1.1;simp only[Lj]at this e;rw[show (jI C rows).extract 0 rows.length=jI C rows by rw[←e]; simp,show (fo rows.length).extract 0 rows.length=fo rows.length by simp]at this;simpa using this
theorem GD{C:List G→Option (List G)}{rows:List (List G)}(h:nC C rows):(jI C rows).size=rows.length:=by
 have:=(vX h).1.1;simpa using this
theorem PY(rows:List (List G)):(dV rows.length).map (eC rows)=rows:=by
 apply kp;intro i;rw[b7];by_cases h:i<rows.length
 ·rw [List.getElem?_range h, bC h]
  simp[eC,cD,h]
 ·rw [nO (by simpa using h), nO (by omega)]
  rfl
theorem GF{C:List G→Option (List G)}{rows:List (List G)}(h:nC C rows):(nD C rows).Perm rows:=by
 have:=(PX h).map (eC rows);rw[PY]at this;exact this
theorem PZ{C:List G→Option (List G)}{rows:List (List G)}(h:nC C rows):(nD C rows).Pairwise fun a b=>¬ rT C b a<0:=by
 unfold nD;rw[List.pairwise_map,List.pairwise_iff_getElem];intro i j hi d g;have:=(vX h).2 i j (fI _) g (by rw[Lj,←GD h]; simpa using d);simp only[Array.length_toList]at hi d;rw[getElem!_pos _ i hi,getElem!_pos _ j d]at this;simpa[ltOf,kc]using this
section
variable {P:Program} {ρ:Go.Shelf.Ren}
theorem P0{E:Env}{K:List Kd}{rows:List (List G)}{b m:Nat}(hs:Kd.bS K=true)(l:isRow E.w b (m*K.length)) (hr:bU E K.length (rows.map (ax K)) b 0) (d:Array Nat) (k:d.size=rows.length) (hi:∀ i,i<rows.length→d[i]! = i) :
  Go.Sort.HoldsK (fun i=>cL K (eC rows i)) K.length E.w b 0 d:=by
 intro t a;rw[Go.Sort.size_flatK,k]at a;have hk:0<K.length:=by
  rcases Nat.eq_zero_or_pos K.length with h|h
  ·rw[h]at a; simp at a
  ·exact h
 have g:t / K.length<rows.length:=Nat.div_lt_of_lt_mul (by rw[Xx]; exact a);rw[Go.Sort.get_flatK _ _ _ _ (by rw[k]; exact a),hi _ g];have q:(rows.map (ax K))[t / K.length]? = some (ax K (eC rows (t / K.length))):=by
  rw[b7,bC g];simp[eC,cD,g]
 have:=PS hs (kC hr q).2 (t%K.length) (Nat.mod_lt _ hk);refine⟨?_,?_⟩
 ·rw [show 0 + t = 0 + t / K.length * K.length + t % K.length by rw [dL, dL, Xx, Nat.div_add_mod]]
  exact this
 ·obtain ⟨cs, el, h1, _⟩ := l
  simp[World.frozen?,h1]
theorem GG{w:World}{a:Nat}{f:Array Value→Array Value}{x:Nat}(h:x≠a):(tA w a f).heap[x]? = w.heap[x]? := by
 simp[tA,KT,Ne.symm h]
theorem P1{E:Env}(HE:ak E){K:List Kd}{rows rows':List (List G)}{b m:Nat}(hs:Kd.bS K=true) (hH:E.H=[.vec K.length 0 (rows.map (ax K))]) (d:E.loc[0]? = some (some (b,m))) (Yc:isRow E.w b (m*K.length))
  (hr:bU E K.length (rows.map (ax K)) b 0) (hm:rows'.length≤m) {w':World} (t:E.w.heap.size≤w'.heap.size) (O:∀ x,x<E.w.heap.size→x≠b→w'.heap[x]? = E.w.heap[x]?) (R:isRow w' b (m*K.length))
  (N:∀ i c,i<rows'.length→c<K.length→w'.cell? ⟨b,i*K.length+c,none⟩=some (cL K (rows'.getD i []))[c]!) (y:c7 E.w w') :
  b_ E (.tuple []) [.vec K.length 0 (rows'.map (ax K))] (.tuple #[]) w':=by
 have h0:E.H[0]? = some (ab.vec K.length 0 (rows.map (ax K))):=by rw[hH]; rfl
 have D:∀ x,x<E.w.heap.size→(∀ n,E.loc[0]? ≠ some (some (x,n)))→w'.heap[x]? = E.w.heap[x]? := fun x g hn=>O x g fun e=>hn m (by rw[d,e]);have U:E.H.set 0 (ab.vec K.length 0 (rows'.map (ax K)))=[.vec K.length 0 (rows'.map (ax K))]:=by rw[hH]; rfl
 have A:E.loc.set 0 (some (b,m))=E.loc:=by
  apply kp;intro i;rw[List.getElem?_set];split
  ·rename_i e
   subst e;split
   ·exact d.symm
   ·rename_i h; exact(h (az d)).elim
  ·rfl
 have B:(∀ v,(ab.vec K.length 0 (rows'.map (ax K))).aw = some v→(ab.vec K.length 0 (rows.map (ax K))).aw = some v∧E.loc[0]? = some (some (b,m))):=fun v k=>⟨k,d⟩
 have I:∀ v u,(ab.vec K.length 0 (rows'.map (ax K))).aw = some v→(ab.vec K.length 0 (rows.map (ax K))).aw = some u→u≤v:=fun v u k hu=>by
  simp only[ab.aw,aK]at k hu;omega
 have hle:=Env.im (E:=E) (w':=w') (id:=0) (o:=.vec K.length 0 (rows.map (ax K))) (o':=.vec K.length 0 (rows'.map (ax K))) (l:=some (b,m)) h0 HE.len t D (fun b' n' e=>.inr ⟨m,by cases e; exact d⟩) (.inl B) I (fun _ h=>by simp[ab.aw]at h) y;have V:aD { w:=w',H:=E.H.set 0 (ab.vec K.length 0 (rows'.map (ax K))),loc:=E.loc.set 0 (some (b,m)),X:=E.X } 0 (.vec K.length 0 (rows'.map (ax K))):=by
  simp only[aD];refine .inr ⟨b,m,by rw[A]; exact d,R,by simpa using hm,?_,?_⟩
  ·intro r hr
   obtain⟨x,_,rfl⟩:=List.mem_map.1 hr;exact eO _ _
  ·rw [jQ]
   intro i r hi;rw[b7]at hi;cases g:rows'[i]? with
   |none=>rw[g]at hi; cases hi
   | some x =>
    rw[g]at hi;cases hi;refine⟨oa _ _,?_⟩;rw[gz];intro c a M;have q:c<K.length:=by have:=az M; rwa [oa]at this
    have Y:=az g;have W:rows'.getD i []=x:=by rw[cD,g]; rfl
    have k:(cL K x)[c]? = some (cL K x)[c]! := by rw[bC (by rw[pn]; exact q),getElem!_pos _ c (by rw[pn]; exact q)]
    refine⟨(cL K x)[c]!,?_,(rR K x _ (dK k)).1,?_⟩
    ·have := N i c Y q
     rw[W]at this;rw[show 0+i*K.length+c=i*K.length+c by omega];exact this
    ·exact(kB.1 (z_ x hs)).2 c a _ M k
 have J:=ak.jm HE h0 t D (fun b' n' e=>.inr ⟨m,by cases e; exact d⟩) (.inl B) I (fun _ h=>by simp[ab.aw]at h) V y;rw[U,A]at hle J;exact⟨E.loc,E.X.r,by simp[rel,ae],J,hle⟩
theorem P2(L:SlLaysF0.n6 P ρ)(K:List Kd)(hs:Kd.bS K=true) (aE:∀ w,(isAgg (ρ.t 24)).run P w=.ok true w) (zE:∀ w,(Go.sizeOf (ρ.t 24)).run P w=.ok K.length w) (g:FuncId) (hg:dY P g=true)
  (C:List G→Option (List G)) (hC:∀ d r,C d=some r→@c9 p8 P g (eA [] [.s (.row K),.s (.row K)] d) [] (cH (eA [] [.s (.int .i64)] r)) []) (d r:List G) (h:rV C d=some r) :
  c9 P (ρ.f 6) (eA (bZ [.vec K 0] d) [.s (.vec 0 K.length),.s (.fn g)] (dw 1 d)) (ai (ca (bZ [.vec K 0] d) [.vec K 0] d)) (cH []) (ai (ca (bZ [.vec K 0] r) [.vec K 0] r)):=by
 have e1:gi d 0=d.headD default:=rfl;intro E cargs hH HE A;simp only[eA,nt,dH,bZ,ca,dQ,ai,List.map_cons,List.map_nil,af.den,cB.ad,cB.len,List.getD_cons_zero,←e1]at hH A;obtain⟨cs⟩:=cargs
 match cs,A with
 | [c0,c1],A =>
 simp only[ae,and_true]at A;obtain⟨h0,h1⟩:=A;simp only[rel,ae]at h1;obtain⟨D,rfl,M⟩:=h1;have M:D=#[]:=by
  obtain⟨D⟩:=D;cases D with
  |nil=>rfl
  |cons x l=>simp[ae]at M
 subst M;simp only[rel]at h0;obtain⟨⟨base,cap,rfl,Yk,Yj⟩,_,Ye⟩:=h0;have W:E.H[0]? = some (ab.vec K.length 0 ((gi d 0).rows.map (ax K))):=by rw[hH]; rfl
 obtain⟨O,a⟩:=Ye ⟨_,W,rfl⟩;unfold rV at h;split at h
 ·rename_i q
  cases h;have Y:E.H=[ab.vec K.length 0 []]:=by rw[hH,q]; rfl
  rw[q];refine(AnyF.slices_SortFunc_none L base cap _ E.w).mono ?_;rintro e w' ⟨rfl,rfl⟩;refine⟨_,.tuple [],[ab.vec K.length 0 []],rfl,⟨rfl,rfl⟩,E.loc,E.X.r,by simp[rel,ae],?_,?_⟩
  ·rw [← Y]
   exact HE
  ·rw [← Y]
   exact Env.le.refl E
 ·rename_i q
  split at h
  case isFalse=>cases h
  rename_i B;cases h;have Yl:0<(gi d 0).rows.length:=List.length_pos_iff.2 q;rcases HE.obj 0 _ W with⟨_,e2⟩|⟨b,m,I,J,hm,Ym,hr⟩
  ·exact(q (by simpa using e2)).elim
  obtain⟨_,o,R,U⟩:=a b m I;have hmm:(gi d 0).rows.length≤m:=by simpa using hm
  have R:o=0:=by have:=R (by omega); omega
  subst R;generalize Yn:(gi d 0).rows=rows at *;rw[U];have u:(fo rows.length).size=rows.length:=Lj;have Yg:∀ i,i<rows.length→(fo rows.length)[i]! = i:=fun i hi=>by rw[getElem!_pos _ i (by rw[u]; exact hi)]; simp
  have Yc:=P0 hs J hr (fo rows.length) u Yg;have hblk:b<E.w.heap.size:=(HE.lt 0 b m I).1;have Yf:CmpLays P g #[] (fun i=>cL K (eC rows i)) K.length (kc C rows) b 0 (fo rows.length).size E.w:=by
   intro mm os dk _ x y;obtain⟨n,O⟩:=B.PW _ (rU q x) _ (rU q y);have:=hC _ _ O;simp only[eA,nt,dH,dw,Sh.sz,dG.sz,List.headD_cons,List.tail_cons,cH,G.row,G.rows,G.int]at this;have e:kc C rows x y=n:=by
    simp only[kc,rT,O];rfl
   rw[e];have ht:mG (bare (tC (fun i=>cL K (eC rows i)) K.length E.w b 0 mm dk os)):=fun p hp=>by
    obtain⟨h1,t,f,h2⟩:=HE.dX p hp;have Yh:p.1≠b:=fun e=>h1.2.1 (.inl ⟨0,m,by rw[e]; exact I⟩);have V:(tC (fun i=>cL K (eC rows i)) K.length E.w b 0 mm dk os).heap[p.1]? = E.w.heap[p.1]? := by
     unfold tC CK Ll tz;simp only[];rw[Lm (by simpa[tA,CL]using h1.1),GG Yh];rfl
    refine⟨⟨(Array.getElem?_eq_some_iff.1 (V.trans h2)).1,?_,fun h=>h⟩,t,f,by rw[←h2]; exact V⟩;rintro(⟨i,c,hi⟩|⟨l,k,c,hk⟩)
    ·simp[bare]at hi
    ·simp[bare,cY]at hk
   exact PV this _ ht (by
    simp only[ae,rel,and_true,Array.toList_append,List.append_nil];exact⟨⟨_,rfl,fun v a=>(rR K _ v a).1,z_ _ hs⟩,⟨_,rfl,fun v a=>(rR K _ v a).1,z_ _ hs⟩⟩)
  have:=AnyQ.slices_SortFunc_eq L K.length aE zE (fun i=>cL K (eC rows i)) (fun x=>pn _ _) (fun x v a=>(rR K _ v a).2) (kc C rows) B.swo g #[] b 0 (m-0) (fo rows.length) E.w
   (fun args w=>yk hg args w) Yf Yc hblk (by rw[u]; exact B.small)
  rw[u]at this;refine this.mono ?_;rintro e w' ⟨rfl,n,os,rfl⟩;refine⟨_,.tuple [],_,rfl,⟨rfl,rfl⟩,?_⟩;have eN:Xv (ltOf (kc C rows)) (fo rows.length) 0 rows.length (Xw rows.length) true true=jI C rows:=by
   unfold jI;rw[u]
  rw[eN];have N:=GD B;have hlen:(nD C rows).length=rows.length:=(GF B).length_eq;have hh:=holdsK_sortWorldK_c (fun i=>cL K (eC rows i)) K.length E.w b 0 (fo rows.length) (jI C rows) n os Yc hblk (by rw[N,u]);refine P1 (rows':=nD C rows) HE hs hH I J hr (by rw[hlen]; exact hmm) ?_ ?_ ?_ ?_ ?_
  ·unfold tC CK
   rw[Go.Sort.size_grow,Go.Sort.size_putRow];show E.w.heap.size≤E.w.heap.size+_
   omega
  ·intro x hx Yi
   unfold tC CK Ll tz;simp only[];rw[Lm (by simpa[tA,CL]using hx),GG Yi];rfl
  ·obtain ⟨cs, el, g1, g2⟩ := J
   unfold tC CK Ll tz;unfold isRow;simp only[];rw[Lm (by simpa[tA,CL]using hblk)];simp only[tA,CL,KT,if_true,g1,Option.map_some];exact⟨_,_,rfl,by simp[Go.Sort.putCells,g2]⟩
  ·intro i c hi U
   rw[hlen]at hi;have:=(hh.cell (i:=i) (c:=c) (by rw[N]; exact hi) U).1;rw[dL]at this;rw[this];congr 2;have Yd:i<(jI C rows).size:=by rw[N]; exact hi
   simp only[nD,cD,b7,Array.getElem?_toList];rw[Array.getElem?_eq_getElem Yd,getElem!_pos _ i Yd];rfl
  ·exact⟨rfl,rfl,rfl,fun _=>Nat.le_add_right _ _⟩
end
end Go.AL
