/-
 What is proved here: the library's sort of a slice by a function that compares,as a function on data (by the kit's own contracts). No program in sight; what is asked is that the library's text lies in the program.
-/
import Derived.Test.YtppdbdblllpimaaGreatDoorMG
import Derived.Shelf.SlSortCmp.NoneTotal
set_option linter.all false
open Array renaming getElem?_modify→DJ,range→gY,getElem?_append_left→s_,size_range→UO
open Go.Proofs renaming sortWorldK→zG
open Go.Sort renaming grow→mP,mapBlock→mQ,putRowK→KE,putRow→qQ,ahead→kN
open List renaming range→fK,getElem?_map→cy,getElem?_eq_none→qL,getElem?_eq_getElem→bA,getD_eq_getElem?_getD→cG,mem_of_getElem?→fy,ext_getElem?→mG
open List.cons renaming injEq→zh
open Nat renaming zero_add→dJ,zero_le→kL,mul_comm→akb
open Option.some renaming injEq→aX
namespace Go.AL
open Go Go.Proofs
variable [Dr]
theorem ux:∀(ks:List Kd) (r:List G),(dA ks r).length=ks.length
 | [],_=>rfl
 |_::ks,r=>by simp[dA,ux ks]
theorem YJ:∀(k:Kd) (g:G),dL (pO k g)=true∧(pO k g).oneCell'=true
 |.int _,_=>⟨rfl,rfl⟩
 |.str,_=>⟨rfl,rfl⟩
 |.bool,_=>⟨rfl,rfl⟩
 |.list _,_=>⟨rfl,rfl⟩
theorem xG:∀(ks:List Kd) (r:List G),∀ v∈dA ks r,dL v=true∧v.oneCell'=true
 | [],_,v,h=>by simp[dA]at h
 | k::ks,r,v,h=>by
  simp only[dA,List.mem_cons]at h;rcases h with rfl|h
  ·exact YJ _ _
  ·exact xG ks r.tail v h
theorem xH{E:Env}:∀{ks:List Kd} {r:List G} {vs:List Value},Kd.cL ks=true→(ad E (aG ks r) vs↔vs=dA ks r)
 | [],r,[],_=>by simp[aG,ad,dA]
 | [],r,_::_,_=>by simp[aG,ad,dA]
 |_::_,r,[],_=>by simp[aG,ad,dA]
 |.list _::_,_,_::_,h=>by simp[Kd.cL]at h
 | .int k::ks,r,v::vs,h=>by
  simp only[Kd.cL]at h;simp only[aG,ad,xH (ks:=ks) h,dA,iP,pO,rel,zh]
 | .str::ks,r,v::vs,h=>by
  simp only[Kd.cL]at h;simp only[aG,ad,xH (ks:=ks) h,dA,iP,pO,rel,zh]
 | .bool::ks,r,v::vs,h=>by
  simp only[Kd.cL]at h;simp only[aG,ad,xH (ks:=ks) h,dA,iP,pO,rel,zh]
theorem Gx{E:Env}{ks:List Kd}(r:List G)(h:Kd.cL ks=true):ad E (aG ks r) (dA ks r):=(xH h).2 rfl
theorem Gy{E:Env}{ks:List Kd}{r:List G}{b o:Nat}(hs:Kd.cL ks=true)(h:cB E (aG ks r) b o):∀ c,c<ks.length→E.w.cell? ⟨b,o+c,none⟩=some (dA ks r)[c]! := by
 obtain⟨vs,h1,_,d⟩:=vX h;have e:=(xH hs).1 h1;subst e;intro c hc;refine d c _ ?_;rw[bA (by rw[ux]; exact hc),getElem!_pos _ c (by rw[ux]; exact hc)]
theorem YK{w w':World}(h:@Ext nU w w'):∃ q os,w'=mP (w.drewN q) os:=by
 obtain⟨h1,g,k,A,B,d⟩:=h;have d:=d rfl;refine⟨w'.drawn-w.drawn,w'.heap.extract w.heap.size w'.heap.size,?_⟩;cases w with
 | mk O R U os W =>
  cases w' with
  | mk F I J M N =>
   simp only at h1 g k A B d;subst k A B;simp only[mP,World.drewN,World.mk.injEq,eq_self,true_and,and_true];refine⟨?_,by omega⟩;apply Array.ext_getElem?;intro i;rw[Array.getElem?_append];split
   ·exact g i (by assumption)
   ·rw [Array.getElem?_extract]
    split
    ·congr 1
     omega
    ·rw[Array.getElem?_eq_none (by omega)]
def bare(w:World):Env:={ w:=w,H:=[],loc:=[],X:=⟨fun _=>False,fun _=>False,dW⟩ }
theorem YL(w:World)(d:nW (bare w)):au (bare w):=⟨rfl,fun i j b m n h=>by simp[bare]at h,fun i b m h=>by simp[bare]at h,fun b h=>h.elim,fun i o h=>by simp[bare]at h,d,fun l k l' k' b m n hk=>by simp[bare,dW]at hk,fun i b m l k n hi=>by simp[bare]at hi,fun l k b m hk=>by simp[bare,dW]at hk,fun i j o o' l hi=>by simp[bare]at hi,fun l _ k q hk=>by simp[bare,dW]at hk⟩
theorem YM{P:Program}{g:FuncId}{args:List AV}{n:Int} (h:@cz nU P g args [] (.lit (.int .i64 n)) []) {cs:Array Value} (w:World) (d:nW (bare w)) (hr:ad (bare w) args cs.toList) :
  Calls P g cs w fun e w'=>e=.returned (.int .i64 n)∧∃ q os,w'=mP (w.drewN q) os:=by
 refine(h (bare w) cs rfl (YL w d) hr).mono ?_;rintro e w' ⟨c,v,H',rfl,⟨rfl,rfl⟩,M,r',h1,N,A⟩;simp only[rel]at h1;subst h1;cases A with
 |mk _ B F _ _ _ _ I =>
 refine⟨rfl,YK (@Ext.mk nU _ _ B (fun b J=>F b J ?_) I)⟩;rintro(⟨i,c,hi⟩|⟨l,k,c,hk⟩)
 ·simp[bare]at hi
 ·simp[bare,dW]at hk
def xI(C:List G→Option (List G))(r s:List G):Int:=(gi ((C [.l [r],.l [s]]).getD []) 0).int
def fT(rows:List (List G))(i:Nat):List G:=rows.getD i (rows.headD [])
theorem xJ{rows:List (List G)}(h:rows≠[])(i:Nat):fT rows i∈rows:=by
 unfold fT;rw[cG];cases hi:rows[i]? with
 |some x=>exact fy hi
 | none =>
  cases rows with
  |nil=>exact(h rfl).elim
  |cons x l=>simp
abbrev nt(C:List G→Option (List G))(rows:List (List G))(i j:Nat):Int:=xI C (fT rows i) (fT rows j)
structure rW (C:List G→Option (List G)) (rows:List (List G)):Prop where
 YN:∀ r∈rows,∀ s∈rows,∃ n,C [.l [r],.l [s]]=some [.i n]
 swo:Go.Sort.SWO (ltOf (nt C rows))
 small:rows.length<4611686018427387904
noncomputable def mh(C:List G→Option (List G))(rows:List (List G)):Array Nat:=Go.Sort.pdq (ltOf (nt C rows)) (gY rows.length) 0 (gY rows.length).size (Lib.bitLen (gY rows.length).size) true true
noncomputable def rX(C:List G→Option (List G))(rows:List (List G)):List (List G):=(mh C rows).toList.map (fT rows)
open Classical in
noncomputable def oE(C:List G→Option (List G))(d:List G):Option (List G) :=
 if (gi d 0).rows=[] then some [.l []] else if rW C (gi d 0).rows then some [.l (rX C (gi d 0).rows)] else none
theorem Bu{C:List G→Option (List G)}{rows:List (List G)}(h:rW C rows):Go.Sort.PermIn 0 (gY rows.length).size (gY rows.length) (mh C rows)∧Go.Sort.SortedIn (ltOf (nt C rows)) 0 (gY rows.length).size (mh C rows) :=
 Go.Sort.pdq_sorts _ h.swo _ 0 _ _ true true (kL _) (Nat.le_refl _) (Or.inl rfl)
theorem YO{C:List G→Option (List G)}{rows:List (List G)}(h:rW C rows):(mh C rows).toList.Perm (fK rows.length):=by
 have:=(Bu h).1.2.2;have e:=(Bu h).1.1;simp only[UO]at this e;rw[show (mh C rows).extract 0 rows.length=mh C rows by rw[←e]; simp,show (gY rows.length).extract 0 rows.length=gY rows.length by simp]at this;simpa using this
theorem NT{C:List G→Option (List G)}{rows:List (List G)}(h:rW C rows):(mh C rows).size=rows.length:=by
 have:=(Bu h).1.1;simpa using this
theorem YP(rows:List (List G)):(fK rows.length).map (fT rows)=rows:=by
 apply mG;intro i;rw[cy];by_cases h:i<rows.length
 ·rw [List.getElem?_range h, bA h]
  simp[fT,cG,h]
 ·rw [qL (by simpa using h), qL (by omega)]
  rfl
theorem NU{C:List G→Option (List G)}{rows:List (List G)}(h:rW C rows):(rX C rows).Perm rows:=by
 have:=(YO h).map (fT rows);rw[YP]at this;exact this
theorem YQ{C:List G→Option (List G)}{rows:List (List G)}(h:rW C rows):(rX C rows).Pairwise fun a b=>¬ xI C b a<0:=by
 unfold rX;rw[List.pairwise_map,List.pairwise_iff_getElem];intro i j hi d g;have:=(Bu h).2 i j (kL _) g (by rw[UO,←NT h]; simpa using d);simp only[Array.length_toList]at hi d;rw[getElem!_pos _ i hi,getElem!_pos _ j d]at this;simpa[ltOf,nt]using this
section
variable {P:Program} {ρ:Go.Shelf.Ren}
theorem YR{E:Env}{K:List Kd}{rows:List (List G)}{b m:Nat}(hs:Kd.cL K=true)(A:isRow E.w b (m*K.length)) (hr:cY E K.length (rows.map (aG K)) b 0) (d:Array Nat) (q:d.size=rows.length) (hi:∀ i,i<rows.length→d[i]! = i) :
  Go.Sort.HoldsK (fun i=>dA K (fT rows i)) K.length E.w b 0 d:=by
 intro t g;rw[Go.Sort.size_flatK,q]at g;have hk:0<K.length:=by
  rcases Nat.eq_zero_or_pos K.length with h|h
  ·rw[h]at g; simp at g
  ·exact h
 have k:t / K.length<rows.length:=Nat.div_lt_of_lt_mul (by rw[akb]; exact g);rw[Go.Sort.get_flatK _ _ _ _ (by rw[q]; exact g),hi _ k];have B:(rows.map (aG K))[t / K.length]? = some (aG K (fT rows (t / K.length))):=by
  rw[cy,bA k];simp[fT,cG,k]
 have:=Gy hs (lW hr B).2 (t%K.length) (Nat.mod_lt _ hk);refine⟨?_,?_⟩
 ·rw [show 0 + t = 0 + t / K.length * K.length + t % K.length by rw [dJ, dJ, akb, Nat.div_add_mod]]
  exact this
 ·obtain ⟨cs, el, h1, _⟩ := A
  simp[World.frozen?,h1]
theorem Bv{w:World}{xK:Nat}{f:Array Value→Array Value}{x:Nat}(h:x≠xK):(mQ w xK f).heap[x]? = w.heap[x]? := by
 simp[mQ,DJ,Ne.symm h]
theorem Gz{E:Env}(HE:au E){K:List Kd}{rows rows':List (List G)}{b m:Nat}(hs:Kd.cL K=true) (hH:E.H=[.vec K.length 0 (rows.map (aG K))]) (d:E.loc[0]? = some (some (b,m))) (hrow:isRow E.w b (m*K.length))
  (hr:cY E K.length (rows.map (aG K)) b 0) (hm:rows'.length≤m) {w':World} (q:E.w.heap.size≤w'.heap.size) (R:∀ x,x<E.w.heap.size→x≠b→w'.heap[x]? = E.w.heap[x]?) (U:isRow w' b (m*K.length))
  (O:∀ i c,i<rows'.length→c<K.length→w'.cell? ⟨b,i*K.length+c,none⟩=some (dA K (rows'.getD i []))[c]!) (A:dx E.w w') :
  dz E (.tuple []) [.vec K.length 0 (rows'.map (aG K))] (.tuple #[]) w':=by
 have h0:E.H[0]? = some (af.vec K.length 0 (rows.map (aG K))):=by rw[hH]; rfl
 have I:∀ x,x<E.w.heap.size→(∀ n,E.loc[0]? ≠ some (some (x,n)))→w'.heap[x]? = E.w.heap[x]? := fun x g hn=>R x g fun e=>hn m (by rw[d,e]);have W:E.H.set 0 (af.vec K.length 0 (rows'.map (aG K)))=[.vec K.length 0 (rows'.map (aG K))]:=by rw[hH]; rfl
 have B:E.loc.set 0 (some (b,m))=E.loc:=by
  apply mG;intro i;rw[List.getElem?_set];split
  ·rename_i e
   subst e;split
   ·exact d.symm
   ·rename_i h; exact(h (aM d)).elim
  ·rfl
 have F:(∀ v,(af.vec K.length 0 (rows'.map (aG K))).aJ = some v→(af.vec K.length 0 (rows.map (aG K))).aJ = some v∧E.loc[0]? = some (some (b,m))):=fun v k=>⟨k,d⟩
 have J:∀ v u,(af.vec K.length 0 (rows'.map (aG K))).aJ = some v→(af.vec K.length 0 (rows.map (aG K))).aJ = some u→u≤v:=fun v u k hu=>by
  simp only[af.aJ,aX]at k hu;omega
 have hle:=Env.lU (E:=E) (w':=w') (id:=0) (o:=.vec K.length 0 (rows.map (aG K))) (o':=.vec K.length 0 (rows'.map (aG K))) (l:=some (b,m)) h0 HE.len q I (fun b' n' e=>.inr ⟨m,by cases e; exact d⟩) (.inl F) J (fun h=>by simp[af.aJ]at h) A;have Y:aU { w:=w',H:=E.H.set 0 (af.vec K.length 0 (rows'.map (aG K))),loc:=E.loc.set 0 (some (b,m)),X:=E.X } 0 (.vec K.length 0 (rows'.map (aG K))):=by
  simp only[aU];refine .inr ⟨b,m,by rw[B]; exact d,U,by simpa using hm,?_,?_⟩
  ·intro r hr
   obtain⟨x,_,rfl⟩:=List.mem_map.1 hr;exact gl _ _
  ·rw [mR]
   intro i r hi;rw[cy]at hi;cases g:rows'[i]? with
   |none=>rw[g]at hi; cases hi
   | some x =>
    rw[g]at hi;cases hi;refine⟨qT _ _,?_⟩;rw[jE];intro c a N;have hc:c<K.length:=by have:=aM N; rwa [qT]at this
    have hlt:=aM g;have hget:rows'.getD i []=x:=by rw[cG,g]; rfl
    have k:(dA K x)[c]? = some (dA K x)[c]! := by rw[bA (by rw[ux]; exact hc),getElem!_pos _ c (by rw[ux]; exact hc)]
    refine⟨(dA K x)[c]!,?_,(xG K x _ (fy k)).1,?_⟩
    ·have := O i c hlt hc
     rw[hget]at this;rw[show 0+i*K.length+c=i*K.length+c by omega];exact this
    ·exact(nV.1 (Gx x hs)).2 c a _ N k
 have M:=au.nX HE h0 q I (fun b' n' e=>.inr ⟨m,by cases e; exact d⟩) (.inl F) J (fun h=>by simp[af.aJ]at h) Y A;rw[W,B]at hle M;exact⟨E.loc,E.X.r,by simp[rel,ad],M,hle⟩
theorem Bw(L:SlLaysF0.n6 P ρ)(K:List Kd)(hs:Kd.cL K=true) (aE:∀ w,(isAgg (ρ.t 24)).run P w=.ok true w) (zE:∀ w,(Go.sizeOf (ρ.t 24)).run P w=.ok K.length w) (g:FuncId) (hg:dN P g=true)
  (C:List G→Option (List G)) (hC:∀ d r,C d=some r→@cz nU P g (dH [] [.s (.row K),.s (.row K)] d) [] (cK (dH [] [.s (.int .i64)] r)) []) (d r:List G) (h:oE C d=some r) :
  cz P (ρ.f 6) (dH (bE [.vec K 0] d) [.s (.vec 0 K.length),.s (.fn g)] (dB 1 d)) (ai (ca (bE [.vec K 0] d) [.vec K 0] d)) (cK []) (ai (ca (bE [.vec K 0] r) [.vec K 0] r)):=by
 have e1:gi d 0=d.headD default:=rfl;intro E cargs hH HE F;simp only[dH,la,eF,bE,ca,fe,ai,List.map_cons,List.map_nil,al.den,dm.ae,dm.len,List.getD_cons_zero,←e1]at hH F;obtain⟨cs⟩:=cargs
 match cs,F with
 | [c0,c1],F =>
 simp only[ad,and_true]at F;obtain⟨h0,h1⟩:=F;simp only[rel,ad]at h1;obtain⟨I,rfl,N⟩:=h1;have N:I=#[]:=by
  obtain⟨I⟩:=I;cases I with
  |nil=>rfl
  |cons x l=>simp[ad]at N
 subst N;simp only[rel]at h0;obtain⟨⟨base,cap,rfl,hcap,hbase⟩,_,hlive⟩:=h0;have W:E.H[0]? = some (af.vec K.length 0 ((gi d 0).rows.map (aG K))):=by rw[hH]; rfl
 obtain⟨hn,q⟩:=hlive ⟨_,W,rfl⟩;unfold oE at h;split at h
 ·rename_i A
  cases h;have Y:E.H=[af.vec K.length 0 []]:=by rw[hH,A]; rfl
  rw[A];refine(AnyF.slices_SortFunc_none L base cap _ E.w).mono ?_;rintro e w' ⟨rfl,rfl⟩;refine⟨_,.tuple [],[af.vec K.length 0 []],rfl,⟨rfl,rfl⟩,E.loc,E.X.r,by simp[rel,ad],?_,?_⟩
  ·rw [← Y]
   exact HE
  ·rw [← Y]
   exact Env.le.refl E
 ·rename_i A
  split at h
  case isFalse=>cases h
  rename_i aL;cases h;have hpos:0<(gi d 0).rows.length:=List.length_pos_iff.2 A;rcases HE.obj 0 _ W with⟨_,e2⟩|⟨b,m,J,M,hm,hcl,hr⟩
  ·exact(A (by simpa using e2)).elim
  obtain⟨_,o,R,hc⟩:=q b m J;have hmm:(gi d 0).rows.length≤m:=by simpa using hm
  have R:o=0:=by have:=R (by omega); omega
  subst R;generalize hrs:(gi d 0).rows=rows at *;rw[hc];have B:(gY rows.length).size=rows.length:=UO;have hdi:∀ i,i<rows.length→(gY rows.length)[i]! = i:=fun i hi=>by rw[getElem!_pos _ i (by rw[B]; exact hi)]; simp
  have hH0:=YR hs M hr (gY rows.length) B hdi;have hblk:b<E.w.heap.size:=(HE.lt 0 b m J).1;have hcmp:CmpLays P g #[] (fun i=>dA K (fT rows i)) K.length (nt C rows) b 0 (gY rows.length).size E.w:=by
   intro mm os dk _ x y;obtain⟨n,hn⟩:=aL.YN _ (xJ A x) _ (xJ A y);have:=hC _ _ hn;simp only[dH,la,eF,dB,Sh.sz,eM.sz,List.headD_cons,List.tail_cons,cK,G.row,G.rows,G.int]at this;have e:nt C rows x y=n:=by
    simp only[nt,xI,hn];rfl
   rw[e];have ht:nW (bare (zG (fun i=>dA K (fT rows i)) K.length E.w b 0 mm dk os)):=fun p hp=>by
    obtain⟨h1,t,f,h2⟩:=HE.fB p hp;have hne:p.1≠b:=fun e=>h1.2.1 (.inl ⟨0,m,by rw[e]; exact J⟩);have U:(zG (fun i=>dA K (fT rows i)) K.length E.w b 0 mm dk os).heap[p.1]? = E.w.heap[p.1]? := by
     unfold zG KE qQ mP;simp only[];rw[s_ (by simpa[mQ,kN]using h1.1),Bv hne];rfl
    refine⟨⟨(Array.getElem?_eq_some_iff.1 (U.trans h2)).1,?_,fun h=>h⟩,t,f,by rw[←h2]; exact U⟩;rintro(⟨i,c,hi⟩|⟨l,k,c,hk⟩)
    ·simp[bare]at hi
    ·simp[bare,dW]at hk
   exact YM this _ ht (by
    simp only[ad,rel,and_true,Array.toList_append,List.append_nil];exact⟨⟨_,rfl,fun v q=>(xG K _ v q).1,Gx _ hs⟩,⟨_,rfl,fun v q=>(xG K _ v q).1,Gx _ hs⟩⟩)
  have:=AnyQ.slices_SortFunc_eq L K.length aE zE (fun i=>dA K (fT rows i)) (fun x=>ux _ _) (fun x v q=>(xG K _ v q).2) (nt C rows) aL.swo g #[] b 0 (m-0) (gY rows.length) E.w
   (fun args w=>tL hg args w) hcmp hH0 hblk (by rw[B]; exact aL.small)
  rw[B]at this;refine this.mono ?_;rintro e w' ⟨rfl,n,os,rfl⟩;refine⟨_,.tuple [],_,rfl,⟨rfl,rfl⟩,?_⟩;have eN:Go.Sort.pdq (ltOf (nt C rows)) (gY rows.length) 0 rows.length (Lib.bitLen rows.length) true true=mh C rows:=by
   unfold mh;rw[B]
  rw[eN];have O:=NT aL;have hlen:(rX C rows).length=rows.length:=(NU aL).length_eq;have hh:=holdsK_sortWorldK_c (fun i=>dA K (fT rows i)) K.length E.w b 0 (gY rows.length) (mh C rows) n os hH0 hblk (by rw[O,B]);refine Gz (rows':=rX C rows) HE hs hH J M hr (by rw[hlen]; exact hmm) ?_ ?_ ?_ ?_ ?_
  ·unfold zG KE
   rw[Go.Sort.size_grow,Go.Sort.size_putRow];show E.w.heap.size≤E.w.heap.size+_
   omega
  ·intro x hx hxb
   unfold zG KE qQ mP;simp only[];rw[s_ (by simpa[mQ,kN]using hx),Bv hxb];rfl
  ·obtain ⟨cs, el, g1, g2⟩ := M
   unfold zG KE qQ mP;unfold isRow;simp only[];rw[s_ (by simpa[mQ,kN]using hblk)];simp only[mQ,kN,DJ,if_true,g1,Option.map_some];exact⟨_,_,rfl,by simp[Go.Sort.putCells,g2]⟩
  ·intro i c hi hc
   rw[hlen]at hi;have:=(hh.cell (i:=i) (c:=c) (by rw[O]; exact hi) hc).1;rw[dJ]at this;rw[this];congr 2;have hi':i<(mh C rows).size:=by rw[O]; exact hi
   simp only[rX,cG,cy,Array.getElem?_toList];rw[Array.getElem?_eq_getElem hi',getElem!_pos _ i hi'];rfl
  ·exact⟨rfl,rfl,rfl,fun _=>Nat.le_add_right _ _⟩
end
end Go.AL
