/-
 What is proved here: the library's sort of a slice by a function that compares,as a function on data (by the kit's own contracts). No program in sight; what is asked is that the library's text lies in the program.
-/
import Derived.Test.YtnijefkndkgebaaGreatDoorMG
import Derived.Shelf.SlSortCmp.NoneTotal
set_option linter.all false
open Array renaming getElem?_modify→SC,range→gj,size_range→SX,getElem?_append_left→SZ
open Go.Proofs renaming sortWorldK→wG
open Go.Sort renaming grow→wD,mapBlock→wF,putRowK→HM,putRow→SY,ahead→HN
open List renaming getElem?_map→ch,getElem?_eq_getElem→bL,mem_of_getElem?→eX,getElem?_eq_none→lN,getD_eq_getElem?_getD→ct,ext_getElem?→jE,range→dI
open List.cons renaming injEq→Hf
open Nat renaming zero_le→eC,zero_add→cT,mul_comm→ah_
open Option.some renaming injEq→aY
namespace Go.AL
open Go Go.Proofs
variable [Dr]
theorem rJ:∀(ks:List Kd) (r:List G),(dm ks r).length=ks.length
 | [],_=>rfl
 |_::ks,r=>by simp[dm,rJ ks]
theorem Xv:∀(k:Kd) (g:G),du (nt k g)=true∧(nt k g).oneCell'=true
 |.int _,_=>⟨rfl,rfl⟩
 |.str,_=>⟨rfl,rfl⟩
 |.bool,_=>⟨rfl,rfl⟩
 |.list _,_=>⟨rfl,rfl⟩
theorem uP:∀(ks:List Kd) (r:List G),∀ v∈dm ks r,du v=true∧v.oneCell'=true
 | [],_,v,h=>by simp[dm]at h
 | k::ks,r,v,h=>by
  simp only[dm,List.mem_cons]at h;rcases h with rfl|h
  ·exact Xv _ _
  ·exact uP ks r.tail v h
theorem uQ{E:Env}:∀{ks:List Kd} {r:List G} {vs:List Value},Kd.cA ks=true→(ah E (aJ ks r) vs↔vs=dm ks r)
 | [],r,[],_=>by simp[aJ,ah,dm]
 | [],r,_::_,_=>by simp[aJ,ah,dm]
 |_::_,r,[],_=>by simp[aJ,ah,dm]
 |.list _::_,_,_::_,h=>by simp[Kd.cA]at h
 | .int k::ks,r,v::vs,h=>by
  simp only[Kd.cA]at h;simp only[aJ,ah,uQ (ks:=ks) h,dm,iq,nt,rel,Hf]
 | .str::ks,r,v::vs,h=>by
  simp only[Kd.cA]at h;simp only[aJ,ah,uQ (ks:=ks) h,dm,iq,nt,rel,Hf]
 | .bool::ks,r,v::vs,h=>by
  simp only[Kd.cA]at h;simp only[aJ,ah,uQ (ks:=ks) h,dm,iq,nt,rel,Hf]
theorem Da{E:Env}{ks:List Kd}(r:List G)(h:Kd.cA ks=true):ah E (aJ ks r) (dm ks r):=(uQ h).2 rfl
theorem Xw{E:Env}{ks:List Kd}{r:List G}{b o:Nat}(g:Kd.cA ks=true)(h:cu E (aJ ks r) b o):∀ c,c<ks.length→E.w.cell? ⟨b,o+c,none⟩=some (dm ks r)[c]! := by
 obtain⟨vs,h1,_,k⟩:=td h;have e:=(uQ g).1 h1;subst e;intro c d;refine k c _ ?_;rw[bL (by rw[rJ]; exact d),getElem!_pos _ c (by rw[rJ]; exact d)]
theorem Xx{w w':World}(h:@Ext s_ w w'):∃ q os,w'=wD (w.drewN q) os:=by
 obtain⟨h1,g,k,u,v,d⟩:=h;have d:=d rfl;refine⟨w'.drawn-w.drawn,w'.heap.extract w.heap.size w'.heap.size,?_⟩;cases w with
 | mk N O U os V =>
  cases w' with
  | mk y B I J M =>
   simp only at h1 g k u v d;subst k u v;simp only[wD,World.drewN,World.mk.injEq,eq_self,true_and,and_true];refine⟨?_,by omega⟩;apply Array.ext_getElem?;intro i;rw[Array.getElem?_append];split
   ·exact g i (by assumption)
   ·rw [Array.getElem?_extract]
    split
    ·congr 1
     omega
    ·rw[Array.getElem?_eq_none (by omega)]
def bare(w:World):Env:={ w:=w,H:=[],loc:=[],X:=⟨fun _=>False,fun _=>False,dJ⟩ }
theorem Xy(w:World)(d:oF (bare w)):au (bare w):=⟨rfl,fun i j b m n h=>by simp[bare]at h,fun i b m h=>by simp[bare]at h,fun b h=>h.elim,fun i o h=>by simp[bare]at h,d,fun l k l' k' b m n hk=>by simp[bare,dJ]at hk,fun i b m l k n hi=>by simp[bare]at hi,fun l k b m hk=>by simp[bare,dJ]at hk,fun i j o o' l hi=>by simp[bare]at hi,fun l _ k q hk=>by simp[bare,dJ]at hk⟩
theorem Xz{P:Program}{g:FuncId}{args:List AV}{n:Int} (h:@dC s_ P g args [] (.lit (.int .i64 n)) []) {cs:Array Value} (w:World) (d:oF (bare w)) (u:ah (bare w) args cs.toList) :
  Calls P g cs w fun e w'=>e=.returned (.int .i64 n)∧∃ q os,w'=wD (w.drewN q) os:=by
 refine(h (bare w) cs rfl (Xy w d) u).mono ?_;rintro e w' ⟨c,v,H',rfl,⟨rfl,rfl⟩,M,r',h1,N,y⟩;simp only[rel]at h1;subst h1;cases y with
 |mk _ B I _ _ _ _ J =>
 refine⟨rfl,Xx (@Ext.mk s_ _ _ B (fun b hb=>I b hb ?_) J)⟩;rintro(⟨i,c,hi⟩|⟨l,k,c,hk⟩)
 ·simp[bare]at hi
 ·simp[bare,dJ]at hk
def uR(C:List G→Option (List G))(r s:List G):Int:=(gi ((C [.l [r],.l [s]]).getD []) 0).int
def fp(rows:List (List G))(i:Nat):List G:=rows.getD i (rows.headD [])
theorem uS{rows:List (List G)}(h:rows≠[])(i:Nat):fp rows i∈rows:=by
 unfold fp;rw[ct];cases hi:rows[i]? with
 |some x=>exact eX hi
 | none =>
  cases rows with
  |nil=>exact(h rfl).elim
  |cons x l=>simp
abbrev lD(C:List G→Option (List G))(rows:List (List G))(i j:Nat):Int:=uR C (fp rows i) (fp rows j)
structure pz (C:List G→Option (List G)) (rows:List (List G)):Prop where
 XA:∀ r∈rows,∀ s∈rows,∃ n,C [.l [r],.l [s]]=some [.i n]
 swo:Go.Sort.SWO (ltOf (lD C rows))
 small:rows.length<4611686018427387904
noncomputable def kN(C:List G→Option (List G))(rows:List (List G)):Array Nat:=Go.Sort.pdq (ltOf (lD C rows)) (gj rows.length) 0 (gj rows.length).size (Lib.bitLen (gj rows.length).size) true true
noncomputable def pA(C:List G→Option (List G))(rows:List (List G)):List (List G):=(kN C rows).toList.map (fp rows)
open Classical in
noncomputable def rK(C:List G→Option (List G))(d:List G):Option (List G) :=
 if (gi d 0).rows=[] then some [.l []] else if pz C (gi d 0).rows then some [.l (pA C (gi d 0).rows)] else none
theorem yR{C:List G→Option (List G)}{rows:List (List G)}(h:pz C rows):Go.Sort.PermIn 0 (gj rows.length).size (gj rows.length) (kN C rows)∧Go.Sort.SortedIn (ltOf (lD C rows)) 0 (gj rows.length).size (kN C rows) :=
 Go.Sort.pdq_sorts _ h.swo _ 0 _ _ true true (eC _) (Nat.le_refl _) (Or.inl rfl)
theorem XB{C:List G→Option (List G)}{rows:List (List G)}(h:pz C rows):(kN C rows).toList.Perm (dI rows.length):=by
 have:=(yR h).1.2.2;have e:=(yR h).1.1;simp only[SX]at this e;rw[show (kN C rows).extract 0 rows.length=kN C rows by rw[←e]; simp,show (gj rows.length).extract 0 rows.length=gj rows.length by simp]at this;simpa using this
theorem Ly{C:List G→Option (List G)}{rows:List (List G)}(h:pz C rows):(kN C rows).size=rows.length:=by
 have:=(yR h).1.1;simpa using this
theorem XC(rows:List (List G)):(dI rows.length).map (fp rows)=rows:=by
 apply jE;intro i;rw[ch];by_cases h:i<rows.length
 ·rw [List.getElem?_range h, bL h]
  simp[fp,ct,h]
 ·rw [lN (by simpa using h), lN (by omega)]
  rfl
theorem Lz{C:List G→Option (List G)}{rows:List (List G)}(h:pz C rows):(pA C rows).Perm rows:=by
 have:=(XB h).map (fp rows);rw[XC]at this;exact this
theorem XD{C:List G→Option (List G)}{rows:List (List G)}(h:pz C rows):(pA C rows).Pairwise fun a b=>¬ uR C b a<0:=by
 unfold pA;rw[List.pairwise_map,List.pairwise_iff_getElem];intro i j hi d g;have:=(yR h).2 i j (eC _) g (by rw[SX,←Ly h]; simpa using d);simp only[Array.length_toList]at hi d;rw[getElem!_pos _ i hi,getElem!_pos _ j d]at this;simpa[ltOf,lD]using this
section
variable {P:Program} {ρ:Go.Shelf.Ren}
theorem XE{E:Env}{K:List Kd}{rows:List (List G)}{b m:Nat}(v:Kd.cA K=true)(u:isRow E.w b (m*K.length)) (y:cB E K.length (rows.map (aJ K)) b 0) (d:Array Nat) (q:d.size=rows.length) (hi:∀ i,i<rows.length→d[i]! = i) :
  Go.Sort.HoldsK (fun i=>dm K (fp rows i)) K.length E.w b 0 d:=by
 intro t g;rw[Go.Sort.size_flatK,q]at g;have hk:0<K.length:=by
  rcases Nat.eq_zero_or_pos K.length with h|h
  ·rw[h]at g; simp at g
  ·exact h
 have k:t / K.length<rows.length:=Nat.div_lt_of_lt_mul (by rw[ah_]; exact g);rw[Go.Sort.get_flatK _ _ _ _ (by rw[q]; exact g),hi _ k];have B:(rows.map (aJ K))[t / K.length]? = some (aJ K (fp rows (t / K.length))):=by
  rw[ch,bL k];simp[fp,ct,k]
 have:=Xw v (l5 y B).2 (t%K.length) (Nat.mod_lt _ hk);refine⟨?_,?_⟩
 ·rw [show 0 + t = 0 + t / K.length * K.length + t % K.length by rw [cT, cT, ah_, Nat.div_add_mod]]
  exact this
 ·obtain ⟨cs, el, h1, _⟩ := u
  simp[World.frozen?,h1]
theorem LA{w:World}{d:Nat}{f:Array Value→Array Value}{x:Nat}(h:x≠d):(wF w d f).heap[x]? = w.heap[x]? := by
 simp[wF,SC,Ne.symm h]
theorem XF{E:Env}(HE:au E){K:List Kd}{rows rows':List (List G)}{b m:Nat}(hs:Kd.cA K=true) (hH:E.H=[.vec K.length 0 (rows.map (aJ K))]) (d:E.loc[0]? = some (some (b,m))) (hrow:isRow E.w b (m*K.length))
  (U:cB E K.length (rows.map (aJ K)) b 0) (hm:rows'.length≤m) {w':World} (y:E.w.heap.size≤w'.heap.size) (W:∀ x,x<E.w.heap.size→x≠b→w'.heap[x]? = E.w.heap[x]?) (hrow':isRow w' b (m*K.length))
  (V:∀ i c,i<rows'.length→c<K.length→w'.cell? ⟨b,i*K.length+c,none⟩=some (dm K (rows'.getD i []))[c]!) (B:dQ E.w w') :
  cN E (.tuple []) [.vec K.length 0 (rows'.map (aJ K))] (.tuple #[]) w':=by
 have h0:E.H[0]? = some (ab.vec K.length 0 (rows.map (aJ K))):=by rw[hH]; rfl
 have M:∀ x,x<E.w.heap.size→(∀ n,E.loc[0]? ≠ some (some (x,n)))→w'.heap[x]? = E.w.heap[x]? := fun x g hn=>W x g fun e=>hn m (by rw[d,e]);have eset:E.H.set 0 (ab.vec K.length 0 (rows'.map (aJ K)))=[.vec K.length 0 (rows'.map (aJ K))]:=by rw[hH]; rfl
 have I:E.loc.set 0 (some (b,m))=E.loc:=by
  apply jE;intro i;rw[List.getElem?_set];split
  ·rename_i e
   subst e;split
   ·exact d.symm
   ·rename_i h; exact(h (aK d)).elim
  ·rfl
 have J:(∀ v,(ab.vec K.length 0 (rows'.map (aJ K))).aG = some v→(ab.vec K.length 0 (rows.map (aJ K))).aG = some v∧E.loc[0]? = some (some (b,m))):=fun v k=>⟨k,d⟩
 have N:∀ v u,(ab.vec K.length 0 (rows'.map (aJ K))).aG = some v→(ab.vec K.length 0 (rows.map (aJ K))).aG = some u→u≤v:=fun v u k hu=>by
  simp only[ab.aG,aY]at k hu;omega
 have hle:=Env.jg (E:=E) (w':=w') (id:=0) (o:=.vec K.length 0 (rows.map (aJ K))) (o':=.vec K.length 0 (rows'.map (aJ K))) (l:=some (b,m)) h0 HE.len y M (fun b' n' e=>.inr ⟨m,by cases e; exact d⟩) (.inl J) N (fun _ h=>by simp[ab.aG]at h) B;have hobj:aO { w:=w',H:=E.H.set 0 (ab.vec K.length 0 (rows'.map (aJ K))),loc:=E.loc.set 0 (some (b,m)),X:=E.X } 0 (.vec K.length 0 (rows'.map (aJ K))):=by
  simp only[aO];refine .inr ⟨b,m,by rw[I]; exact d,hrow',by simpa using hm,?_,?_⟩
  ·intro r U
   obtain⟨x,_,rfl⟩:=List.mem_map.1 U;exact fI _ _
  ·rw [lb]
   intro i r hi;rw[ch]at hi;cases g:rows'[i]? with
   |none=>rw[g]at hi; cases hi
   | some x =>
    rw[g]at hi;cases hi;refine⟨qg _ _,?_⟩;rw[iu];intro c a ha;have q:c<K.length:=by have:=aK ha; rwa [qg]at this
    have hlt:=aK g;have hget:rows'.getD i []=x:=by rw[ct,g]; rfl
    have k:(dm K x)[c]? = some (dm K x)[c]! := by rw[bL (by rw[rJ]; exact q),getElem!_pos _ c (by rw[rJ]; exact q)]
    refine⟨(dm K x)[c]!,?_,(uP K x _ (eX k)).1,?_⟩
    ·have := V i c hlt q
     rw[hget]at this;rw[show 0+i*K.length+c=i*K.length+c by omega];exact this
    ·exact(l4.1 (Da x hs)).2 c a _ ha k
 have O:=au.kr HE h0 y M (fun b' n' e=>.inr ⟨m,by cases e; exact d⟩) (.inl J) N (fun _ h=>by simp[ab.aG]at h) hobj B;rw[eset,I]at hle O;exact⟨E.loc,E.X.r,by simp[rel,ah],O,hle⟩
theorem XG(L:SlLaysF0.n6 P ρ)(K:List Kd)(M:Kd.cA K=true) (aE:∀ w,(isAgg (ρ.t 24)).run P w=.ok true w) (zE:∀ w,(Go.sizeOf (ρ.t 24)).run P w=.ok K.length w) (g:FuncId) (hg:e_ P g=true)
  (C:List G→Option (List G)) (hC:∀ d r,C d=some r→@dC s_ P g (fl [] [.s (.row K),.s (.row K)] d) [] (df (fl [] [.s (.int .i64)] r)) []) (d r:List G) (h:rK C d=some r) :
  dC P (ρ.f 6) (fl (cH [.vec K 0] d) [.s (.vec 0 K.length),.s (.fn g)] (ev 1 d)) (ao (cO (cH [.vec K 0] d) [.vec K 0] d)) (df []) (ao (cO (cH [.vec K 0] r) [.vec K 0] r)):=by
 have e1:gi d 0=d.headD default:=rfl;intro E cargs hH HE I;simp only[fl,pj,eL,cH,cO,eT,ao,List.map_cons,List.map_nil,aj.den,c9.af,c9.len,List.getD_cons_zero,←e1]at hH I;obtain⟨cs⟩:=cargs
 match cs,I with
 | [c0,c1],I =>
 simp only[ah,and_true]at I;obtain⟨h0,h1⟩:=I;simp only[rel,ah]at h1;obtain⟨N,rfl,V⟩:=h1;have V:N=#[]:=by
  obtain⟨N⟩:=N;cases N with
  |nil=>rfl
  |cons x l=>simp[ah]at V
 subst V;simp only[rel]at h0;obtain⟨⟨base,cap,rfl,hcap,hbase⟩,_,hlive⟩:=h0;have hl0:E.H[0]? = some (ab.vec K.length 0 ((gi d 0).rows.map (aJ K))):=by rw[hH]; rfl
 obtain⟨hn,q⟩:=hlive ⟨_,hl0,rfl⟩;unfold rK at h;split at h
 ·rename_i u
  cases h;have hH':E.H=[ab.vec K.length 0 []]:=by rw[hH,u]; rfl
  rw[u];refine(AnyF.slices_SortFunc_none L base cap _ E.w).mono ?_;rintro e w' ⟨rfl,rfl⟩;refine⟨_,.tuple [],[ab.vec K.length 0 []],rfl,⟨rfl,rfl⟩,E.loc,E.X.r,by simp[rel,ah],?_,?_⟩
  ·rw [← hH']
   exact HE
  ·rw [← hH']
   exact Env.le.refl E
 ·rename_i u
  split at h
  case isFalse=>cases h
  rename_i J;cases h;have hpos:0<(gi d 0).rows.length:=List.length_pos_iff.2 u;rcases HE.obj 0 _ hl0 with⟨_,e2⟩|⟨b,m,O,U,hm,hcl,hr⟩
  ·exact(u (by simpa using e2)).elim
  obtain⟨_,o,ho,hc⟩:=q b m O;have hmm:(gi d 0).rows.length≤m:=by simpa using hm
  have ho:o=0:=by have:=ho (by omega); omega
  subst ho;generalize hrs:(gi d 0).rows=rows at *;rw[hc];have B:(gj rows.length).size=rows.length:=SX;have hdi:∀ i,i<rows.length→(gj rows.length)[i]! = i:=fun i hi=>by rw[getElem!_pos _ i (by rw[B]; exact hi)]; simp
  have hH0:=XE M U hr (gj rows.length) B hdi;have hblk:b<E.w.heap.size:=(HE.lt 0 b m O).1;have hcmp:CmpLays P g #[] (fun i=>dm K (fp rows i)) K.length (lD C rows) b 0 (gj rows.length).size E.w:=by
   intro mm os dk _ x y;obtain⟨n,hn⟩:=J.XA _ (uS u x) _ (uS u y);have:=hC _ _ hn;simp only[fl,pj,eL,ev,Sh.sz,eJ.sz,List.headD_cons,List.tail_cons,df,G.row,G.rows,G.int]at this;have e:lD C rows x y=n:=by
    simp only[lD,uR,hn];rfl
   rw[e];have ht:oF (bare (wG (fun i=>dm K (fp rows i)) K.length E.w b 0 mm dk os)):=fun p hp=>by
    obtain⟨h1,t,f,h2⟩:=HE.e9 p hp;have hne:p.1≠b:=fun e=>h1.2.1 (.inl ⟨0,m,by rw[e]; exact O⟩);have hsame:(wG (fun i=>dm K (fp rows i)) K.length E.w b 0 mm dk os).heap[p.1]? = E.w.heap[p.1]? := by
     unfold wG HM SY wD;simp only[];rw[SZ (by simpa[wF,HN]using h1.1),LA hne];rfl
    refine⟨⟨(Array.getElem?_eq_some_iff.1 (hsame.trans h2)).1,?_,fun h=>h⟩,t,f,by rw[←h2]; exact hsame⟩;rintro(⟨i,c,hi⟩|⟨l,k,c,hk⟩)
    ·simp[bare]at hi
    ·simp[bare,dJ]at hk
   exact Xz this _ ht (by
    simp only[ah,rel,and_true,Array.toList_append,List.append_nil];exact⟨⟨_,rfl,fun v q=>(uP K _ v q).1,Da _ M⟩,⟨_,rfl,fun v q=>(uP K _ v q).1,Da _ M⟩⟩)
  have:=AnyQ.slices_SortFunc_eq L K.length aE zE (fun i=>dm K (fp rows i)) (fun x=>rJ _ _) (fun x v q=>(uP K _ v q).2) (lD C rows) J.swo g #[] b 0 (m-0) (gj rows.length) E.w
   (fun args w=>BG hg args w) hcmp hH0 hblk (by rw[B]; exact J.small)
  rw[B]at this;refine this.mono ?_;rintro e w' ⟨rfl,n,os,rfl⟩;refine⟨_,.tuple [],_,rfl,⟨rfl,rfl⟩,?_⟩;have eN:Go.Sort.pdq (ltOf (lD C rows)) (gj rows.length) 0 rows.length (Lib.bitLen rows.length) true true=kN C rows:=by
   unfold kN;rw[B]
  rw[eN];have W:=Ly J;have hlen:(pA C rows).length=rows.length:=(Lz J).length_eq;have hh:=holdsK_sortWorldK_c (fun i=>dm K (fp rows i)) K.length E.w b 0 (gj rows.length) (kN C rows) n os hH0 hblk (by rw[W,B]);refine XF (rows':=pA C rows) HE M hH O U hr (by rw[hlen]; exact hmm) ?_ ?_ ?_ ?_ ?_
  ·unfold wG HM
   rw[Go.Sort.size_grow,Go.Sort.size_putRow];show E.w.heap.size≤E.w.heap.size+_
   omega
  ·intro x hx hxb
   unfold wG HM SY wD;simp only[];rw[SZ (by simpa[wF,HN]using hx),LA hxb];rfl
  ·obtain ⟨cs, el, g1, g2⟩ := U
   unfold wG HM SY wD;unfold isRow;simp only[];rw[SZ (by simpa[wF,HN]using hblk)];simp only[wF,HN,SC,if_true,g1,Option.map_some];exact⟨_,_,rfl,by simp[Go.Sort.putCells,g2]⟩
  ·intro i c hi hc
   rw[hlen]at hi;have:=(hh.cell (i:=i) (c:=c) (by rw[W]; exact hi) hc).1;rw[cT]at this;rw[this];congr 2;have hi':i<(kN C rows).size:=by rw[W]; exact hi
   simp only[pA,ct,ch,Array.getElem?_toList];rw[Array.getElem?_eq_getElem hi',getElem!_pos _ i hi'];rfl
  ·exact⟨rfl,rfl,rfl,fun _=>Nat.le_add_right _ _⟩
end
end Go.AL
