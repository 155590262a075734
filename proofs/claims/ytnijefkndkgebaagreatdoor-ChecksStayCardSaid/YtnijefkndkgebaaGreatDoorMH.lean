/-
 What is proved here: the library's sort of a slice by a function that compares,as a function on data (by the kit's own contracts). No program in sight; what is asked is that the library's text lies in the program.
-/
import Derived.Test.YtnijefkndkgebaaGreatDoorMG
import Derived.Shelf.SlSortCmp.NoneTotal
set_option linter.all false
open Array renaming getElem?_modify→Sv,range→ga,size_range→SP,getElem?_append_left→SS
open Go.Proofs renaming sortWorldK→wL
open Go.Sort renaming grow→wI,mapBlock→wK,putRowK→HH,putRow→SR,ahead→HI
open List renaming getElem?_map→cd,getElem?_eq_getElem→bO,mem_of_getElem?→eO,getElem?_eq_none→lH,getD_eq_getElem?_getD→cr,ext_getElem?→jF,range→dG
open List.cons renaming injEq→Hd
open Nat renaming zero_le→eh,zero_add→cF,mul_comm→ah0
open Option.some renaming injEq→aY
namespace Go.AL
open Go Go.Proofs
variable [Dr]
theorem rD:∀(ks:List Kd) (r:List G),(di ks r).length=ks.length
 | [],_=>rfl
 |_::ks,r=>by simp[di,rD ks]
theorem Xo:∀(k:Kd) (g:G),dq (np k g)=true∧(np k g).oneCell'=true
 |.int _,_=>⟨rfl,rfl⟩
 |.str,_=>⟨rfl,rfl⟩
 |.bool,_=>⟨rfl,rfl⟩
 |.list _,_=>⟨rfl,rfl⟩
theorem uR:∀(ks:List Kd) (r:List G),∀ v∈di ks r,dq v=true∧v.oneCell'=true
 | [],_,v,h=>by simp[di]at h
 | k::ks,r,v,h=>by
  simp only[di,List.mem_cons]at h;rcases h with rfl|h
  ·exact Xo _ _
  ·exact uR ks r.tail v h
theorem uS{E:Env}:∀{ks:List Kd} {r:List G} {vs:List Value},Kd.cA ks=true→(ah E (aJ ks r) vs↔vs=di ks r)
 | [],r,[],_=>by simp[aJ,ah,di]
 | [],r,_::_,_=>by simp[aJ,ah,di]
 |_::_,r,[],_=>by simp[aJ,ah,di]
 |.list _::_,_,_::_,h=>by simp[Kd.cA]at h
 | .int k::ks,r,v::vs,h=>by
  simp only[Kd.cA]at h;simp only[aJ,ah,uS (ks:=ks) h,di,il,np,rel,Hd]
 | .str::ks,r,v::vs,h=>by
  simp only[Kd.cA]at h;simp only[aJ,ah,uS (ks:=ks) h,di,il,np,rel,Hd]
 | .bool::ks,r,v::vs,h=>by
  simp only[Kd.cA]at h;simp only[aJ,ah,uS (ks:=ks) h,di,il,np,rel,Hd]
theorem Da{E:Env}{ks:List Kd}(r:List G)(h:Kd.cA ks=true):ah E (aJ ks r) (di ks r):=(uS h).2 rfl
theorem Xp{E:Env}{ks:List Kd}{r:List G}{b o:Nat}(g:Kd.cA ks=true)(h:ct E (aJ ks r) b o):∀ c,c<ks.length→E.w.cell? ⟨b,o+c,none⟩=some (di ks r)[c]! := by
 obtain⟨vs,h1,_,k⟩:=te h;have e:=(uS g).1 h1;subst e;intro c d;refine k c _ ?_;rw[bO (by rw[rD]; exact d),getElem!_pos _ c (by rw[rD]; exact d)]
theorem Xq{w w':World}(h:@Ext ta w w'):∃ q os,w'=wI (w.drewN q) os:=by
 obtain⟨h1,g,k,u,v,d⟩:=h;have d:=d rfl;refine⟨w'.drawn-w.drawn,w'.heap.extract w.heap.size w'.heap.size,?_⟩;cases w with
 | mk N O U os V =>
  cases w' with
  | mk y B I J M =>
   simp only at h1 g k u v d;subst k u v;simp only[wI,World.drewN,World.mk.injEq,eq_self,true_and,and_true];refine⟨?_,by omega⟩;apply Array.ext_getElem?;intro i;rw[Array.getElem?_append];split
   ·exact g i (by assumption)
   ·rw [Array.getElem?_extract]
    split
    ·congr 1
     omega
    ·rw[Array.getElem?_eq_none (by omega)]
def bare(w:World):Env:={ w:=w,H:=[],loc:=[],X:=⟨fun _=>False,fun _=>False,dI⟩ }
theorem Xr(w:World)(d:oI (bare w)):au (bare w):=⟨rfl,fun i j b m n h=>by simp[bare]at h,fun i b m h=>by simp[bare]at h,fun b h=>h.elim,fun i o h=>by simp[bare]at h,d,fun l k l' k' b m n hk=>by simp[bare,dI]at hk,fun i b m l k n hi=>by simp[bare]at hi,fun l k b m hk=>by simp[bare,dI]at hk,fun i j o o' l hi=>by simp[bare]at hi,fun l _ k q hk=>by simp[bare,dI]at hk⟩
theorem Xs{P:Program}{g:FuncId}{args:List AV}{n:Int} (h:@dB ta P g args [] (.lit (.int .i64 n)) []) {cs:Array Value} (w:World) (d:oI (bare w)) (u:ah (bare w) args cs.toList) :
  Calls P g cs w fun e w'=>e=.returned (.int .i64 n)∧∃ q os,w'=wI (w.drewN q) os:=by
 refine(h (bare w) cs rfl (Xr w d) u).mono ?_;rintro e w' ⟨c,v,H',rfl,⟨rfl,rfl⟩,M,r',h1,N,y⟩;simp only[rel]at h1;subst h1;cases y with
 |mk _ B I _ _ _ _ J =>
 refine⟨rfl,Xq (@Ext.mk ta _ _ B (fun b hb=>I b hb ?_) J)⟩;rintro(⟨i,c,hi⟩|⟨l,k,c,hk⟩)
 ·simp[bare]at hi
 ·simp[bare,dI]at hk
def uT(C:List G→Option (List G))(r s:List G):Int:=(gi ((C [.l [r],.l [s]]).getD []) 0).int
def fk(rows:List (List G))(i:Nat):List G:=rows.getD i (rows.headD [])
theorem uU{rows:List (List G)}(h:rows≠[])(i:Nat):fk rows i∈rows:=by
 unfold fk;rw[cr];cases hi:rows[i]? with
 |some x=>exact eO hi
 | none =>
  cases rows with
  |nil=>exact(h rfl).elim
  |cons x l=>simp
abbrev lv(C:List G→Option (List G))(rows:List (List G))(i j:Nat):Int:=uT C (fk rows i) (fk rows j)
structure pC (C:List G→Option (List G)) (rows:List (List G)):Prop where
 Xt:∀ r∈rows,∀ s∈rows,∃ n,C [.l [r],.l [s]]=some [.i n]
 swo:Go.Sort.SWO (ltOf (lv C rows))
 small:rows.length<4611686018427387904
noncomputable def kM(C:List G→Option (List G))(rows:List (List G)):Array Nat:=Go.Sort.pdq (ltOf (lv C rows)) (ga rows.length) 0 (ga rows.length).size (Lib.bitLen (ga rows.length).size) true true
noncomputable def pD(C:List G→Option (List G))(rows:List (List G)):List (List G):=(kM C rows).toList.map (fk rows)
open Classical in
noncomputable def rE(C:List G→Option (List G))(d:List G):Option (List G) :=
 if (gi d 0).rows=[] then some [.l []] else if pC C (gi d 0).rows then some [.l (pD C (gi d 0).rows)] else none
theorem yW{C:List G→Option (List G)}{rows:List (List G)}(h:pC C rows):Go.Sort.PermIn 0 (ga rows.length).size (ga rows.length) (kM C rows)∧Go.Sort.SortedIn (ltOf (lv C rows)) 0 (ga rows.length).size (kM C rows) :=
 Go.Sort.pdq_sorts _ h.swo _ 0 _ _ true true (eh _) (Nat.le_refl _) (Or.inl rfl)
theorem Xu{C:List G→Option (List G)}{rows:List (List G)}(h:pC C rows):(kM C rows).toList.Perm (dG rows.length):=by
 have:=(yW h).1.2.2;have e:=(yW h).1.1;simp only[SP]at this e;rw[show (kM C rows).extract 0 rows.length=kM C rows by rw[←e]; simp,show (ga rows.length).extract 0 rows.length=ga rows.length by simp]at this;simpa using this
theorem Lv{C:List G→Option (List G)}{rows:List (List G)}(h:pC C rows):(kM C rows).size=rows.length:=by
 have:=(yW h).1.1;simpa using this
theorem Xv(rows:List (List G)):(dG rows.length).map (fk rows)=rows:=by
 apply jF;intro i;rw[cd];by_cases h:i<rows.length
 ·rw [List.getElem?_range h, bO h]
  simp[fk,cr,h]
 ·rw [lH (by simpa using h), lH (by omega)]
  rfl
theorem Lw{C:List G→Option (List G)}{rows:List (List G)}(h:pC C rows):(pD C rows).Perm rows:=by
 have:=(Xu h).map (fk rows);rw[Xv]at this;exact this
theorem Xw{C:List G→Option (List G)}{rows:List (List G)}(h:pC C rows):(pD C rows).Pairwise fun a b=>¬ uT C b a<0:=by
 unfold pD;rw[List.pairwise_map,List.pairwise_iff_getElem];intro i j hi d g;have:=(yW h).2 i j (eh _) g (by rw[SP,←Lv h]; simpa using d);simp only[Array.length_toList]at hi d;rw[getElem!_pos _ i hi,getElem!_pos _ j d]at this;simpa[ltOf,lv]using this
section
variable {P:Program} {ρ:Go.Shelf.Ren}
theorem Xx{E:Env}{K:List Kd}{rows:List (List G)}{b m:Nat}(v:Kd.cA K=true)(u:isRow E.w b (m*K.length)) (y:cB E K.length (rows.map (aJ K)) b 0) (d:Array Nat) (q:d.size=rows.length) (hi:∀ i,i<rows.length→d[i]! = i) :
  Go.Sort.HoldsK (fun i=>di K (fk rows i)) K.length E.w b 0 d:=by
 intro t g;rw[Go.Sort.size_flatK,q]at g;have hk:0<K.length:=by
  rcases Nat.eq_zero_or_pos K.length with h|h
  ·rw[h]at g; simp at g
  ·exact h
 have k:t / K.length<rows.length:=Nat.div_lt_of_lt_mul (by rw[ah0]; exact g);rw[Go.Sort.get_flatK _ _ _ _ (by rw[q]; exact g),hi _ k];have B:(rows.map (aJ K))[t / K.length]? = some (aJ K (fk rows (t / K.length))):=by
  rw[cd,bO k];simp[fk,cr,k]
 have:=Xp v (lT y B).2 (t%K.length) (Nat.mod_lt _ hk);refine⟨?_,?_⟩
 ·rw [show 0 + t = 0 + t / K.length * K.length + t % K.length by rw [cF, cF, ah0, Nat.div_add_mod]]
  exact this
 ·obtain ⟨cs, el, h1, _⟩ := u
  simp[World.frozen?,h1]
theorem Lx{w:World}{d:Nat}{f:Array Value→Array Value}{x:Nat}(h:x≠d):(wK w d f).heap[x]? = w.heap[x]? := by
 simp[wK,Sv,Ne.symm h]
theorem Xy{E:Env}(HE:au E){K:List Kd}{rows rows':List (List G)}{b m:Nat}(hs:Kd.cA K=true) (hH:E.H=[.vec K.length 0 (rows.map (aJ K))]) (d:E.loc[0]? = some (some (b,m))) (hrow:isRow E.w b (m*K.length))
  (U:cB E K.length (rows.map (aJ K)) b 0) (hm:rows'.length≤m) {w':World} (y:E.w.heap.size≤w'.heap.size) (W:∀ x,x<E.w.heap.size→x≠b→w'.heap[x]? = E.w.heap[x]?) (hrow':isRow w' b (m*K.length))
  (V:∀ i c,i<rows'.length→c<K.length→w'.cell? ⟨b,i*K.length+c,none⟩=some (di K (rows'.getD i []))[c]!) (B:dM E.w w') :
  cN E (.tuple []) [.vec K.length 0 (rows'.map (aJ K))] (.tuple #[]) w':=by
 have h0:E.H[0]? = some (ab.vec K.length 0 (rows.map (aJ K))):=by rw[hH]; rfl
 have M:∀ x,x<E.w.heap.size→(∀ n,E.loc[0]? ≠ some (some (x,n)))→w'.heap[x]? = E.w.heap[x]? := fun x g hn=>W x g fun e=>hn m (by rw[d,e]);have eset:E.H.set 0 (ab.vec K.length 0 (rows'.map (aJ K)))=[.vec K.length 0 (rows'.map (aJ K))]:=by rw[hH]; rfl
 have I:E.loc.set 0 (some (b,m))=E.loc:=by
  apply jF;intro i;rw[List.getElem?_set];split
  ·rename_i e
   subst e;split
   ·exact d.symm
   ·rename_i h; exact(h (aK d)).elim
  ·rfl
 have J:(∀ v,(ab.vec K.length 0 (rows'.map (aJ K))).aF = some v→(ab.vec K.length 0 (rows.map (aJ K))).aF = some v∧E.loc[0]? = some (some (b,m))):=fun v k=>⟨k,d⟩
 have N:∀ v u,(ab.vec K.length 0 (rows'.map (aJ K))).aF = some v→(ab.vec K.length 0 (rows.map (aJ K))).aF = some u→u≤v:=fun v u k hu=>by
  simp only[ab.aF,aY]at k hu;omega
 have hle:=Env.jl (E:=E) (w':=w') (id:=0) (o:=.vec K.length 0 (rows.map (aJ K))) (o':=.vec K.length 0 (rows'.map (aJ K))) (l:=some (b,m)) h0 HE.len y M (fun b' n' e=>.inr ⟨m,by cases e; exact d⟩) (.inl J) N (fun _ h=>by simp[ab.aF]at h) B;have hobj:aO { w:=w',H:=E.H.set 0 (ab.vec K.length 0 (rows'.map (aJ K))),loc:=E.loc.set 0 (some (b,m)),X:=E.X } 0 (.vec K.length 0 (rows'.map (aJ K))):=by
  simp only[aO];refine .inr ⟨b,m,by rw[I]; exact d,hrow',by simpa using hm,?_,?_⟩
  ·intro r U
   obtain⟨x,_,rfl⟩:=List.mem_map.1 U;exact fD _ _
  ·rw [kX]
   intro i r hi;rw[cd]at hi;cases g:rows'[i]? with
   |none=>rw[g]at hi; cases hi
   | some x =>
    rw[g]at hi;cases hi;refine⟨qf _ _,?_⟩;rw[iq];intro c a ha;have q:c<K.length:=by have:=aK ha; rwa [qf]at this
    have hlt:=aK g;have hget:rows'.getD i []=x:=by rw[cr,g]; rfl
    have k:(di K x)[c]? = some (di K x)[c]! := by rw[bO (by rw[rD]; exact q),getElem!_pos _ c (by rw[rD]; exact q)]
    refine⟨(di K x)[c]!,?_,(uR K x _ (eO k)).1,?_⟩
    ·have := V i c hlt q
     rw[hget]at this;rw[show 0+i*K.length+c=i*K.length+c by omega];exact this
    ·exact(lS.1 (Da x hs)).2 c a _ ha k
 have O:=au.kp HE h0 y M (fun b' n' e=>.inr ⟨m,by cases e; exact d⟩) (.inl J) N (fun _ h=>by simp[ab.aF]at h) hobj B;rw[eset,I]at hle O;exact⟨E.loc,E.X.r,by simp[rel,ah],O,hle⟩
theorem Xz(L:SlLaysF0.n6 P ρ)(K:List Kd)(M:Kd.cA K=true) (aE:∀ w,(isAgg (ρ.t 24)).run P w=.ok true w) (zE:∀ w,(Go.sizeOf (ρ.t 24)).run P w=.ok K.length w) (g:FuncId) (hg:eS P g=true)
  (C:List G→Option (List G)) (hC:∀ d r,C d=some r→@dB ta P g (fh [] [.s (.row K),.s (.row K)] d) [] (dc (fh [] [.s (.int .i64)] r)) []) (d r:List G) (h:rE C d=some r) :
  dB P (ρ.f 6) (fh (cI [.vec K 0] d) [.s (.vec 0 K.length),.s (.fn g)] (ef 1 d)) (ao (cO (cI [.vec K 0] d) [.vec K 0] d)) (dc []) (ao (cO (cI [.vec K 0] r) [.vec K 0] r)):=by
 have e1:gi d 0=d.headD default:=rfl;intro E cargs hH HE I;simp only[fh,pn,eD,cI,cO,eL,ao,List.map_cons,List.map_nil,ai.den,c8.af,c8.len,List.getD_cons_zero,←e1]at hH I;obtain⟨cs⟩:=cargs
 match cs,I with
 | [c0,c1],I =>
 simp only[ah,and_true]at I;obtain⟨h0,h1⟩:=I;simp only[rel,ah]at h1;obtain⟨N,rfl,V⟩:=h1;have V:N=#[]:=by
  obtain⟨N⟩:=N;cases N with
  |nil=>rfl
  |cons x l=>simp[ah]at V
 subst V;simp only[rel]at h0;obtain⟨⟨base,cap,rfl,hcap,hbase⟩,_,hlive⟩:=h0;have hl0:E.H[0]? = some (ab.vec K.length 0 ((gi d 0).rows.map (aJ K))):=by rw[hH]; rfl
 obtain⟨hn,q⟩:=hlive ⟨_,hl0,rfl⟩;unfold rE at h;split at h
 ·rename_i u
  cases h;have hH':E.H=[ab.vec K.length 0 []]:=by rw[hH,u]; rfl
  rw[u];refine(AnyF.slices_SortFunc_none L base cap _ E.w).mono ?_;rintro e w' ⟨rfl,rfl⟩;refine⟨_,.tuple [],[ab.vec K.length 0 []],rfl,⟨rfl,rfl⟩,E.loc,E.X.r,by simp[rel,ah],?_,?_⟩
  ·rw [← hH']
   exact HE
  ·rw [← hH']
   exact Env.le.refl E
 ·rename_i u
  split at h
  case isFalse=>cases h
  rename_i J;cases h;have hpos:0<(gi d 0).rows.length:=List.length_pos_iff.2 u;rcases HE.obj 0 _ hl0 with⟨_,e2⟩|⟨b,m,O,U,hm,hcl,hr⟩
  ·exact(u (by simpa using e2)).elim
  obtain⟨_,o,ho,hc⟩:=q b m O;have hmm:(gi d 0).rows.length≤m:=by simpa using hm
  have ho:o=0:=by have:=ho (by omega); omega
  subst ho;generalize hrs:(gi d 0).rows=rows at *;rw[hc];have B:(ga rows.length).size=rows.length:=SP;have hdi:∀ i,i<rows.length→(ga rows.length)[i]! = i:=fun i hi=>by rw[getElem!_pos _ i (by rw[B]; exact hi)]; simp
  have hH0:=Xx M U hr (ga rows.length) B hdi;have hblk:b<E.w.heap.size:=(HE.lt 0 b m O).1;have hcmp:CmpLays P g #[] (fun i=>di K (fk rows i)) K.length (lv C rows) b 0 (ga rows.length).size E.w:=by
   intro mm os dk _ x y;obtain⟨n,hn⟩:=J.Xt _ (uU u x) _ (uU u y);have:=hC _ _ hn;simp only[fh,pn,eD,ef,Sh.sz,eC.sz,List.headD_cons,List.tail_cons,dc,G.row,G.rows,G.int]at this;have e:lv C rows x y=n:=by
    simp only[lv,uT,hn];rfl
   rw[e];have ht:oI (bare (wL (fun i=>di K (fk rows i)) K.length E.w b 0 mm dk os)):=fun p hp=>by
    obtain⟨h1,t,f,h2⟩:=HE.eR p hp;have hne:p.1≠b:=fun e=>h1.2.1 (.inl ⟨0,m,by rw[e]; exact O⟩);have hsame:(wL (fun i=>di K (fk rows i)) K.length E.w b 0 mm dk os).heap[p.1]? = E.w.heap[p.1]? := by
     unfold wL HH SR wI;simp only[];rw[SS (by simpa[wK,HI]using h1.1),Lx hne];rfl
    refine⟨⟨(Array.getElem?_eq_some_iff.1 (hsame.trans h2)).1,?_,fun h=>h⟩,t,f,by rw[←h2]; exact hsame⟩;rintro(⟨i,c,hi⟩|⟨l,k,c,hk⟩)
    ·simp[bare]at hi
    ·simp[bare,dI]at hk
   exact Xs this _ ht (by
    simp only[ah,rel,and_true,Array.toList_append,List.append_nil];exact⟨⟨_,rfl,fun v q=>(uR K _ v q).1,Da _ M⟩,⟨_,rfl,fun v q=>(uR K _ v q).1,Da _ M⟩⟩)
  have:=AnyQ.slices_SortFunc_eq L K.length aE zE (fun i=>di K (fk rows i)) (fun x=>rD _ _) (fun x v q=>(uR K _ v q).2) (lv C rows) J.swo g #[] b 0 (m-0) (ga rows.length) E.w
   (fun args w=>BE hg args w) hcmp hH0 hblk (by rw[B]; exact J.small)
  rw[B]at this;refine this.mono ?_;rintro e w' ⟨rfl,n,os,rfl⟩;refine⟨_,.tuple [],_,rfl,⟨rfl,rfl⟩,?_⟩;have eN:Go.Sort.pdq (ltOf (lv C rows)) (ga rows.length) 0 rows.length (Lib.bitLen rows.length) true true=kM C rows:=by
   unfold kM;rw[B]
  rw[eN];have W:=Lv J;have hlen:(pD C rows).length=rows.length:=(Lw J).length_eq;have hh:=holdsK_sortWorldK_c (fun i=>di K (fk rows i)) K.length E.w b 0 (ga rows.length) (kM C rows) n os hH0 hblk (by rw[W,B]);refine Xy (rows':=pD C rows) HE M hH O U hr (by rw[hlen]; exact hmm) ?_ ?_ ?_ ?_ ?_
  ·unfold wL HH
   rw[Go.Sort.size_grow,Go.Sort.size_putRow];show E.w.heap.size≤E.w.heap.size+_
   omega
  ·intro x hx hxb
   unfold wL HH SR wI;simp only[];rw[SS (by simpa[wK,HI]using hx),Lx hxb];rfl
  ·obtain ⟨cs, el, g1, g2⟩ := U
   unfold wL HH SR wI;unfold isRow;simp only[];rw[SS (by simpa[wK,HI]using hblk)];simp only[wK,HI,Sv,if_true,g1,Option.map_some];exact⟨_,_,rfl,by simp[Go.Sort.putCells,g2]⟩
  ·intro i c hi hc
   rw[hlen]at hi;have:=(hh.cell (i:=i) (c:=c) (by rw[W]; exact hi) hc).1;rw[cF]at this;rw[this];congr 2;have hi':i<(kM C rows).size:=by rw[W]; exact hi
   simp only[pD,cr,cd,Array.getElem?_toList];rw[Array.getElem?_eq_getElem hi',getElem!_pos _ i hi'];rfl
  ·exact⟨rfl,rfl,rfl,fun _=>Nat.le_add_right _ _⟩
end
end Go.AL
