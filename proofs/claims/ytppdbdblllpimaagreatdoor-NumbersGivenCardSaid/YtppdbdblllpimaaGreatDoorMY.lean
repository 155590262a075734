/-
 What is proved here: the function that maps.Keys hands back,called with a round's body: each key of the map comes once,in some order. No program in sight; no condition but that the function's text is the library's.
-/
import Derived.Test.YtppdbdblllpimaaGreatDoorMG
import Derived.Shelf.SlMaps.Clone
set_option linter.all false
open Array renaming getElem?_push→oZ,ext'→fl,getElem?_eq_some_iff→fb,toList_append→sZ,replicate→mL,toList_replicate→zy
open Bool renaming and_eq_true→ay
open Classical renaming axiomOfChoice→DR
open Go.Deferred renaming ofValue→DM
open Go.MapKept renaming heap_set→zC
open Go.Oper renaming semAt_eq→nS
open Go.Region renaming wanted→zu
open Go.World renaming putObj_heap_same→KB,size_alloc→mO,alloc_heap_new→DQ
open List renaming range→fK,length_cons→cF,getElem?_map→cy,getElem?_append_right→ix,getElem?_eq_getElem→bA,getD_eq_getElem?_getD→cG,mem_cons→bC,mem_of_getElem?→fy,mem_append→bV,getElem?_of_mem→lN,replicate→cI,append_nil→gH,range'→jk,range'_succ→zw,range_eq_range'→vQ,getElem_mem→qO,mem_filter→gk
open List.Perm renaming append_left→UN,refl→pn
open Nat renaming le_refl→aI,le_add_right→eB,zero_add→dJ,zero_le→kL,blt_eq→iA,le_of_ble_eq_true→kM
open Option renaming isSome_iff_exists→nM
open Option.some renaming injEq→aX
open Prod.mk renaming injEq→be
namespace Go.AL
open Go Go.ChangeMaps
variable [Dr]
def im(l it:Nat):List AV:=[.lit (.func (.yield l) #[] #[]),.undef,.undef,.undef,.undef,.lit (.pointer (some ⟨it,0,none⟩)),.undef,.undef,.undef,.undef,.undef,.undef,.undef,.undef]
def xM(cf:Array Oper)(r3:Nat):Code:=.seq (.region r3 cf false) (.cond (.tmp 13) .ret .skip)
structure GC (P:Program) (τ:ah) (K:Ct) (ops0 ops1 ops2 cf:Array Oper):Prop where
 r0:∃ o1 o2 ty,ops0.toList=[o1,o2]∧(o1.guard=none∧o1.op=.load ty (.tmp 1)∧o1.dst=some 4)∧(o2.guard=none∧o2.op=.range ty (.tmp 4)∧o2.dst=some 5)∧(fD P ty).isSome=true∧eJ P ty=some (1,false)
 r1:∃ o1 o2,ops1.toList=[o1,o2]∧o1.guard=none∧o1.op=.next (.tmp 5) false∧o1.dst=some 6∧o2.guard=none∧o2.op=.extract (.tmp 6) 0∧o2.dst=some 7
 r2:∃ o1 l,ops2.toList=o1::l∧o1.guard=none∧o1.op=.entry (.tmp 5)∧o1.dst=some 8
 r3:∃ u1 u2 u3 u4 t tys,cf.toList=[u1,u2,u3,u4]∧(u3.guard=none∧u3.op=.call { callee:=.value (.tmp 10),args:=#[.tmp 11],argTypes:=tys }∧u3.dst=some 12)∧(u4.guard=none∧u4.op=.unOp .not t (.tmp 12)∧u4.dst=some 13)
 loc:∀(l it:Nat) (g:List G),∃ s2 s3:ao,(eg P τ ops2 (ops2.toList.drop 1) ⟨(im l it).set 8 (.tuple [K.av g,.undef]),[]⟩ fun s=>.done .normal s).fg=some (.normal,s2) ∧
  (eg P τ cf (cf.toList.take 2) s2 fun s=>.done .normal s).fg=some (.normal,s3)∧s3.fr.length=14∧s3.fr[0]? = some (.lit (.func (.yield l) #[] #[]))∧s3.fr[5]? = some (.lit (.pointer (some ⟨it,0,none⟩)))∧s3.fr[10]? = some (.lit (.func (.yield l) #[] #[]))∧s3.fr[11]? = some (K.av g)
def jb(E:Env):Env:=(gQ E).fh
theorem YZ{E:Env}(HE:au E):au (jb E):=(F8 HE).b_ (nf (F8 HE))
theorem GD{E:Env}(b:Nat):¬ (jb E).own b:=by
 rintro(⟨id,c,hid⟩|⟨l,k,c,hk⟩)
 ·simp[jb,gQ,Env.fh]at hid
 ·simp[jb,gQ,dW,Env.fh]at hk
theorem Y0{E:Env}:E.bJ (jb E):=⟨fun b d=>⟨⟨d.1,GD b,fun g=>g.elim d.2.2 d.2.1⟩,rfl⟩⟩
theorem BD{l it:Nat}{fr:List AV}{H:List af}{E0 E':Env}{a:Act}(hs:bl ⟨fr,H⟩ E0 a)(q:∀ b,¬ E0.X.z b)(g:fr.length=14) (h0:fr[0]? = some (.lit (.func (.yield l) #[] #[]))) (A:fr[5]? = some (.lit (.pointer (some ⟨it,0,none⟩)))) (k:au E') :
  bl ⟨im l it,[]⟩ (jb E') a:=by
 have hm:bl ⟨im l it,H⟩ E0 a:=by
  refine⟨hs.H,Gn hs.fr (by rw[g]; rfl) fun j b d=>?_,hs.defers,hs.heap⟩
  match j,d with
  |0,d=>exact .inr (by rw[h0]; exact d)
  |5,d=>exact .inr (by rw[A]; exact d)
  |1,d=>exact .inl (by cases d; rfl)
  |2,d=>exact .inl (by cases d; rfl)
  |3,d=>exact .inl (by cases d; rfl)
  |4,d=>exact .inl (by cases d; rfl)
  | j+6,d =>
   left;have B:im l it=[.lit (.func (.yield l) #[] #[]),.undef,.undef,.undef,.undef,.lit (.pointer (some ⟨it,0,none⟩))]++cI 8 .undef:=rfl;rw[B,ix (by simp)]at d;exact(List.mem_replicate.1 (fy d)).2
 refine⟨rfl,Gs hm.fr fun b d=>?_,?_,YZ k⟩
 ·simp only [im, bC, List.not_mem_nil, or_false] at d
  rcases d with rfl|rfl|rfl|rfl|rfl|rfl|d
  ·exact .inr (.inl ⟨_,rfl⟩)
  ·exact .inl rfl
  ·exact .inl rfl
  ·exact .inl rfl
  ·exact .inl rfl
  ·exact .inr (.inl ⟨_,rfl⟩)
  ·left
   rcases d with rfl|rfl|rfl|rfl|rfl|rfl|rfl|rfl<;>rfl
 ·rw [uq hs.defers q]
  exact lV _ _
section ky
variable {P:Program} {τ:ah} {K V:Ct} {ops0 ops1 ops2 cf:Array Oper}
theorem Y1(ht:aj P τ)(U:GC P τ K ops0 ops1 ops2 cf){f:FuncId}{fn:Func}{r0 r1 r2 r3 b0 b1:Nat}(hf:P.funcs[f]? = some fn) (I:fn.body=some (iG r0 b0 r1 b1 r2 ops0 ops1 ops2 7 (xM cf r3))) (hn:fn.ntmps=14) (hr:fn.results=#[])
  {l mb nn clock:Nat} {rows:List (List G)} (hnd:(rows.map bI).Nodup) (hlt:∀ r∈rows,bI r<clock) (J:List (List G)→Env→Prop) (Y:∀ p E,J p E→au E)
  (hJs:∀ p E E',J p E→E.le E'→au E'→E'.H=E.H→J p E')
  (hJa:∀ p E o,J p E→J p { w:=E.w.alloc o,H:=E.H,loc:=E.loc,X:=E.X.or fun b=>b=E.w.heap.size })
  (hJi:∀ p E w' itb,J p E→l<itb→E.X itb→(∃ q c s z,E.w.heap[itb]? = some (.mapIter q c s z))→w'.heap.size=E.w.heap.size→(∀ b,b≠itb→w'.heap[b]? = E.w.heap[b]?)→dx E.w w'→J p { E with w:=w' })
  (hJl:∀ p E,J p E→l<E.w.heap.size)
  (hmap:∀ p E,J p E→E.H[1]? = some (.map (cC K V rows) clock)∧E.loc[1]? = some (some (mb,nn)))
  (hround:∀ p r q E (cs:Array Value),(p++r::q).Perm rows→J p E→ad E [K.av (gi r 0).row] cs.toList→YieldAt (fz none) 0 P l cs E.w fun e W'=>e=.returned (.bool true)∧∃ E',E'.w=W'∧J (p++[r]) E'∧(∀ b,E.X b→E'.X b)∧∀ b,b<E.w.heap.size→E.X b→b≠l→W'.heap[b]? = E.w.heap[b]?)
  {E0:Env} {c:Value} (h0:J [] E0) (hbox:E0.H[0]? = some (.box [.map 1])) (hcp:rel E0 (.ptr 0 0 0 0 0) c) :
  CallsIn (fz none) 0 P f #[.func (.yield l) #[] #[],c] E0.w fun e W'=>(∃ v,e=.returned v)∧∃ E' p,E'.w=W'∧p.Perm rows∧J p E':=by
 obtain⟨o1,o2,ty,q0,⟨g1,p1,d1⟩,⟨g2,p2,d2⟩,hty,hvar⟩:=U.r0;refine callsIn_of_wp_marks hf I trivial ?_;have HE0:=Y _ _ h0;have hsz0:ops0.size=2:=by
  have:ops0.toList.length=2:=by rw[q0]; rfl
  simpa using this
 have hs0:bl ⟨.lit (.func (.yield l) #[] #[])::.ptr 0 0 0 0 0::cI 12 .undef,E0.H⟩ E0.fh { tmps:=#[.func (.yield l) #[] #[],c]++mL (fn.ntmps-2) undef,defers:=[] }:=by
  refine⟨rfl,?_,lV _ _,HE0.b_ (nf HE0)⟩;rw[hn];simp only[sZ,zy];show ad E0.fh ([.lit (.func (.yield l) #[] #[]),.ptr 0 0 0 0 0]++cI 12 .undef) ([.func (.yield l) #[] #[],c]++cI 12 undef)
  refine jG (by simp only[ad]; exact⟨by simp[rel],tU (nf HE0) _ hcp,trivial⟩) ?_;exact rq (cI 12 undef)
 refine wpIn_seq (wpIn_region ?_);rw[hsz0];show wpOpsIn (fz none) 0 P ops0 _ (jk 0 1++[1]) _ E0.w
 refine Gr (pf:=fun _=>false) (J:=J []) (l:=[o1]) (k:=0) (hJs []) (fun j o A=>?_) hs0 h0 (fr':=(.lit (.func (.yield l) #[] #[])::.ptr 0 0 0 0 0::cI 12 .undef).set 4 (.map 1)) ?_ fun a1 d hj1 W=>?_
 ·have hlt : j < 1 := by simpa using aM A
  have:j=0:=by omega
  subst this;rw[jv q0];exact A
 ·refine il (v := .map 1) (Bo g1 (by rw [p1]; rfl) ?_) d1 rV
  rw[p1];show gp P ty (.ptr 0 0 0 0 0) E0.H=_
  unfold gp;rw[hvar];simp only[hbox,and_self,if_true];rfl
 obtain⟨hm1,hm2⟩:=hmap _ _ hj1;have hrx:rel d.fh (.map 1) (a1.eval (.tmp 4)):=by
  have:=W.eval (.tmp 4);simpa[St.eval]using this
 obtain⟨O,n',ms0,hc,hloc,hmb,hre⟩:=qZ (E:=d.fh) W.heap hm1 hrx;have hmbe:O=mb:=by
  have h:d.loc[1]? = some (some (O,n')):=hloc;rw[hm2]at h;simp only[aX,be]at h;exact h.1.symm
 subst hmbe;obtain⟨⟨kt,et⟩,hty⟩:=nM.1 hty;rw[wpOpsIn_cons];refine ij (show ops0[1]? = some o2 by rw[jv q0]; rfl) g2 (Gi p2 hc (run_range_map d.w ty kt et O ms0 clock (iT hty) hmb)) (fun c e=>by rw[p2]at e; cases e) none ?_;rw[d2];show (Code.block _ _).wpIn (fz none) 0 P _ _ _
 obtain⟨itb,hitb⟩:∃ itb,itb=d.w.heap.size:=⟨_,rfl⟩
 generalize R:d.w.alloc (.mapIter (some O) clock #[] clock)=F;have hj2:=hJa [] d (.mapIter (some O) clock #[] clock) hj1;rw[R]at hj2;have hitn:F.heap[itb]? = some (.mapIter (some O) clock #[] clock):=by rw[←R,hitb]; exact(show (d.w.heap.push _)[d.w.heap.size]? = _ by simp)
 have hd1:a1.defers=[]:=uq W.defers fun _ h=>h;obtain⟨a2,ha2⟩:∃ a2,a2=a1.put (some 5) (.pointer (some ⟨d.w.heap.size,0,none⟩)):=⟨_,rfl⟩
 have hs2:bl ⟨im l itb,[]⟩ (jb { w:=F,H:=d.H,loc:=d.loc,X:=d.X.or fun b=>b=d.w.heap.size }) a2:=by
  have hp:=W.ic 5 (v:=.lit (.pointer (some ⟨d.w.heap.size,0,none⟩))) (u:=.pointer (some ⟨d.w.heap.size,0,none⟩)) (by simp[rel]);rw[ha2];exact BD hp (fun _ h=>h) rfl (by rfl) (by rw[hitb]; rfl) (Y _ _ hj2)
 rw[show (a1.put (some 5) (.pointer (some ⟨d.w.heap.size,0,none⟩)))=a2 from ha2.symm];have hlt_l:l<itb:=by
  have:=hJl _ _ hj1;omega
 have hne_l:itb≠l:=by omega
 refine wpIn_block (wpIn_loop (fun a w=>∃(E:Env) (p:List (List G)) (seen:Array Nat) (last:Nat),E.w=w∧J p E∧E.X itb∧w.heap[itb]? = some (.mapIter (some O) clock seen last)∧clock≤last∧(p++rows.filter fun x => !seen.contains (bI x)).Perm rows∧bl ⟨im l itb,[]⟩ (jb E) a)
  (fun _ w=>(rows.filter fun x => !(w.iterSeen itb).contains (bI x)).length) ⟨_,[],#[],clock,rfl,hj2,.inr hitb,hitn,aI _,?_,hs2⟩ ?_)
 ·have : (rows.filter fun x => !(#[] : Array Nat).contains (bI x)) = rows := List.filter_eq_self.2 (fun x _ => by simp)
  rw[List.nil_append,this]
 rintro a _ ⟨E,p,seen,last,rfl,hj,hXi,hit,hcl,hp,hs⟩;have HE:=Y _ _ hj;obtain⟨hmE1,hmE2⟩:=hmap _ _ hj;have hob:=HE.obj 1 _ hmE1;simp only[aU]at hob;obtain⟨B,nn2,ms,hlo2,hmb2,hre2⟩:=hob;have hmbe2:B=O:=by
  have h:=hlo2;rw[hmE2]at h;simp only[aX,be]at h;exact h.1.symm
 subst hmbe2;have hne:B≠itb:=fun e=>(HE.lt 1 B nn hmE2).2 (by rw[e]; exact hXi);obtain⟨i1,i2,e1,ga1,pa1,qa1,ga2,pa2,qa2⟩:=U.r1;obtain⟨o3,l2,e3,gb,pb,qb⟩:=U.r2;obtain⟨u1,u2,u3,u4,t7,tys,e4,⟨gc3,pc3,dc3⟩,⟨gc4,pc4,dc4⟩⟩:=U.r3;have hsz1:ops1.size=2:=by
  have:ops1.toList.length=2:=by rw[e1]; rfl
  simpa using this
 have hiv:a.eval (.tmp 5)=.pointer (some ⟨itb,0,none⟩):=by
  have:=hs.eval (.tmp 5);simpa[St.eval,im,rel]using this
 obtain⟨hlen,hen⟩:=fE.1 hre2;have hl1:(cC K V rows).length=rows.length:=by simp[cC]
 have row_of:∀(i:Nat) (e:MapEntry),ms.toList[i]? = some e→∃ r,rows[i]? = some r∧e.born=bI r:=by
  intro i e hi;have h1:=aM hi;have M:i<rows.length:=by omega
  refine⟨rows[i],bA M,?_⟩;exact(hen i (K.av (gi rows[i] 0).row,V.av (gi rows[i] 1).row,(gi rows[i] 2).int.toNat) e (by simp[cC,M]) hi).2.2.1
 have hold:∀ x∈ms.toList,x.born<clock:=by
  intro x hx;obtain⟨i,hi⟩:=lN hx;obtain⟨r,h1,M⟩:=row_of i x hi;rw[M];exact hlt r (fy h1)
 have hbn:(ms.toList.map (·.born)).Nodup:=by
  have:ms.toList.map (·.born)=rows.map bI:=by
   apply List.ext_getElem?;intro i;simp only[cy];cases hi:ms.toList[i]? with
   | none =>
    have h1:=List.getElem?_eq_none_iff.1 hi;rw[List.getElem?_eq_none (by omega)];rfl
   | some e =>
    obtain⟨r,h1,M⟩:=row_of i e hi;rw[h1];simp[M]
  rw[this];exact hnd
 have hu6:(⟨im l itb,[]⟩:St).fr[6]? = some .undef:=rfl;have hu7:(⟨im l itb,[]⟩:St).fr[7]? = some .undef:=rfl;have hlt6:=uj hs hu6;have hlt7:=uj hs hu7;have hz:∀ b,¬ (jb E).X.z b:=fun _ h=>h;refine wpIn_seq (wpIn_region ?_);rw[hsz1];show wpOpsIn (fz none) 0 P ops1 _ [0,1] a E.w
 rw[wpOpsIn_cons];rcases run_next_at (P:=P) E.w i1.type itb B clock last seen ms clock hit hmb2 hold hcl with⟨hz0,hrun⟩|⟨e,he,w1,hw1,hrun⟩
 ·refine ij (show ops1[0]? = some i1 by rw [jv e1]; rfl) ga1 (um pa1 hiv hrun) (fun c e => by rw [pa1] at e; cases e) none ?_
  rw[qa1,wpOpsIn_cons];refine ij (show ops1[1]? = some i2 by rw[jv e1]; rfl) ga2 (uk pa2 (lp hlt6) rfl) (fun c e=>by rw[pa2]at e; cases e) none ?_;rw[qa2];show (Code.seq _ _).wpIn (fz none) 0 P _ _ E.w
  refine wpIn_seq (wpIn_cond_false (lp (by simpa[Act.put]using hlt7)) (wpIn_exit ?_));simp only[Exit.then,Exit.inBlock,if_true];have hsf:=(hs.lq hu6 (.tuple #[.bool false])).lq hu7 (.bool false);have hd:((a.put (some 6) (.tuple #[.bool false])).put (some 7) (.bool false)).defers=[]:=uq hsf.defers fun _ h=>h;show LeavesInM (fz none) 0 P fn ((a.put (some 6) (.tuple #[.bool false])).put (some 7) (.bool false)).tmps _ ((a.put (some 6) (.tuple #[.bool false])).put (some 7) (.bool false)).defers .returning E.w
  rw[hd];refine⟨.tuple #[],?_,⟨_,rfl⟩,E,p,rfl,?_,hj⟩
  ·rw [tT, hr]
   simp
  ·have:(rows.filter fun x => !seen.contains (bI x))=[]:=by
    rw[List.filter_eq_nil_iff];intro x hx hc;obtain⟨i,hi⟩:=lN hx;have h1:=aM hi;have M:i<ms.toList.length:=by omega
    obtain⟨r,h3,h4⟩:=row_of i _ (bA M);rw[hi]at h3;cases h3;have:ms.toList[i]∈(leftOf ms seen).toList:=by
     unfold leftOf;rw[Array.toList_filter];refine gk.2 ⟨qO M,?_⟩;rw[h4];exact hc
    have h5:(leftOf ms seen).toList.length=0:=by simpa using hz0
    rw[List.length_eq_zero_iff.1 h5]at this;cases this
   rwa [this,gH]at hp
 ·refine ij (show ops1[0]? = some i1 by rw [jv e1]; rfl) ga1 (um pa1 hiv hrun) (fun c e => by rw [pa1] at e; cases e) none ?_
  rw[qa1,wpOpsIn_cons];refine ij (show ops1[1]? = some i2 by rw[jv e1]; rfl) ga2 (uk pa2 (lp hlt6) rfl) (fun c e=>by rw[pa2]at e; cases e) none ?_;rw[qa2];show (Code.seq _ _).wpIn (fz none) 0 P _ _ _
  refine wpIn_seq (wpIn_cond_true (lp (by simpa[Act.put]using hlt7)) (wpIn_skip ?_));show (Code.block _ _).wpIn (fz none) 0 P _ _ _
  refine wpIn_block (wpIn_seq (wpIn_region ?_));generalize R:setBlock w1 itb (.mapIter (some B) clock (seen.push e.born) clock)=F;have hw1h:w1.heap=E.w.heap:=by rcases hw1 with rfl|rfl<;>rfl
  have hos:dx E.w F:=by rw[←R]; rcases hw1 with rfl|rfl<;>exact⟨rfl,rfl,rfl,by first|exact fun _=>aI _|exact fun _=>eB _ _⟩
  have hit2':F.heap[itb]? = some (.mapIter (some B) clock (seen.push e.born) clock):=by
   rw[←R];exact(zC (by rw[hw1h]; exact hit)).1
  have hother:∀ b,b≠itb→F.heap[b]? = E.w.heap[b]? := by
   intro b I;rw[←R];show (w1.heap.setIfInBounds itb _)[b]? = _
   rw[(zC (by rw[hw1h]; exact hit)).2 b I,hw1h]
  have hsize:F.heap.size=E.w.heap.size:=by
   rw[←R];show (w1.heap.setIfInBounds itb _).size=_
   simp[hw1h]
  have hjw:=hJi p E F itb hj hlt_l hXi ⟨_,_,_,_,hit⟩ hsize hother hos;obtain⟨g,hE2⟩:∃ g:Env,g={ E with w:=F }:=⟨_,rfl⟩
  rw[←hE2]at hjw;have hE2w:g.w=F:=by rw[hE2]
  have HE2:=Y _ _ hjw;have hX2:g.X itb:=by rw[hE2]; exact hXi
  have W:=(hs.lq hu6 (.tuple #[.bool true,e.key,e.val])).lq hu7 (.bool true);have hs2:bl ⟨im l itb,[]⟩ (jb g) _:=BD W hz rfl rfl rfl HE2;obtain⟨hem,hes⟩:=mem_left he;obtain⟨i,hi⟩:=lN hem;obtain⟨r,hri,hrb⟩:=row_of i e hi;have hrm:=fy hri;have hkc:(K.av (gi r 0).row).closed=true:=K.AE _;have k1:rel g (K.av (gi r 0).row) e.key:=by
   obtain⟨hmE1',hmE2'⟩:=hmap _ _ hjw;have hob:=HE2.obj 1 _ hmE1';simp only[aU]at hob;obtain⟨mb3,nn3,ms3,hlo3,hmb3,hre3⟩:=hob;have h3:mb3=B:=by
    have h:=hlo3;rw[hmE2']at h;simp only[aX,be]at h;exact h.1.symm
   subst h3;have hmm:ms3=ms:=by
    rw[hE2w,hother mb3 hne,hmb2]at hmb3;cases hmb3;rfl
   subst hmm;exact((fE.1 hre3).2 i (K.av (gi r 0).row,V.av (gi r 1).row,(gi r 2).int.toNat) e (by simp[cC,hri]) hi).1
  have k1h:rel (jb g) (K.av (gi r 0).row) e.key:=dQ Y0 _ hkc k1;have hsz2:ops2.size=l2.length+1:=by
   have:ops2.toList.length=l2.length+1:=by rw[e3]; rfl
   simpa using this
  have hl2:ops2.toList.drop 1=l2:=by rw[e3]; rfl
  obtain⟨s2,s3,hv2,hv3,f14,f0,f5,f10,f11⟩:=U.loc l itb (gi r 0).row;have ao2:=xA ht hv2;have ao3:=xA ht hv3;have hlp:(p++(r::rows.filter fun x => !(seen.push (bI r)).contains (bI x))).Perm rows :=
   (UN p (ui hnd hrm (by rw[←hrb]; exact hes)).symm).trans hp
  have hmb2':F.heap[B]? = some (.map ms clock):=by rw[hother B hne]; exact hmb2
  rw[hsz2,vQ,zw,wpOpsIn_cons];have hiv1:((a.put (some 6) (.tuple #[.bool true,e.key,e.val])).put (some 7) (.bool true)).eval (.tmp 5)=.pointer (some ⟨itb,0,none⟩):=by
   have:=hs2.eval (.tmp 5);simpa[St.eval,im,rel]using this
  refine ij (show ops2[0]? = some o3 by rw[jv e3]; rfl) gb (Gh pb hiv1 (run_entry_at (P:=P) F itb B clock seen ms clock e hit2' hmb2' hem hbn)) (fun c e=>by rw[pb]at e; cases e) none ?_;rw[qb];have hs3:=hs2.ic 8 (v:=.tuple [K.av (gi r 0).row,.undef]) (u:=.tuple #[e.key,e.val]) (by simp only[rel]; exact⟨_,rfl,by simp only[ad]; exact⟨k1h,by simp[rel],trivial⟩⟩);have hnil:jk (0+1) l2.length=jk 1 l2.length++[]:=by rw[gH,dJ]
  rw[hnil];rw[←hE2w];refine oy (pf:=τ.pf) none l2 1 _ _ (jb g) _ [] (fun j o A=>?_) (by rw[hl2]at ao2; exact ao2) hs3 fun a4 w4 hc4=>?_
  ·rw [jv e3]
   rw[Nat.add_comm];exact A
  obtain⟨loc4,rr4,hs4,hle4⟩:=hc4;show (xM cf r3).wpIn (fz none) 0 P _ a4 w4
  have hsz3:cf.size=4:=by
   have:cf.toList.length=4:=by rw[e4]; rfl
   simpa using this
  refine wpIn_seq (wpIn_region ?_);rw[hsz3];show wpOpsIn (fz none) 0 P cf _ (jk 0 2++[2,3]) a4 w4
  refine oy (pf:=τ.pf) none [u1,u2] 0 _ _ { w:=w4,H:=s2.den.H,loc:=loc4,X:=(jb g).X.re rr4 } a4 [2,3] (fun j o A=>?_) (by rw[e4]at ao3; exact ao3) hs4 fun a5 N hc5=>?_
  ·rw [jv e4, dJ]
   have hlt:j<2:=by simpa using aM A
   match j,A with
   |0,A=>exact A
   |1,A=>exact A
  obtain⟨loc5,rr5,hs5,hle5⟩:=hc5;have hle:=hle4.trans hle5;have hext:Ext g.w N:=⟨hle.size,fun b I=>hle.same b I (GD b),hle.env⟩
  have hj5:J p { g with w:=N }:=hJs p g _ hjw (Env.gL hext) (HE2.ext hext) rfl;have h10:a5.eval (.tmp 10)=.func (.yield l) #[] #[]:=by
   have:=hs5.eval (.tmp 10);have e:s3.den.eval (.tmp 10)=.lit (.func (.yield l) #[] #[]):=by
    show s3.fr.getD 10 .undef=_
    rw[cG,f10];rfl
   rw[e]at this;simpa only[rel]using this
  have hk5:rel { g with w:=N } (K.av (gi r 0).row) (a5.eval (.tmp 11)):=by
   have:=hs5.eval (.tmp 11);have e:s3.den.eval (.tmp 11)=K.av (gi r 0).row:=by
    show s3.fr.getD 11 .undef=_
    rw[cG,f11];rfl
   rw[e]at this;have hlc:Env.bJ { w:=N,H:=s3.den.H,loc:=loc5,X:=((jb g).X.re rr4).re rr5 } { g with w:=N }:=⟨fun b I=>⟨⟨I.1,fun U=>I.2.2 (.inr U),fun hx=>I.2.2 (.inl hx)⟩,rfl⟩⟩
   exact dQ hlc _ hkc this
  obtain⟨fn',tmps',asg,bod,hy1,hR⟩:=hround p r _ { g with w:=N } #[a5.eval (.tmp 11)] hlp hj5 (by simp only[ad]; exact⟨hk5,trivial⟩);rw[wpOpsIn_cons];unfold wpOpIn;have hp2:cf[2]? = some u3:=by rw[jv e4]; rfl
  simp only[hp2];rw[if_pos (by simp[zu,gc3])];refine⟨fun _ _=>trivial,?_⟩;rw[nS _ _ _ (fun c e=>by rw[pc3]at e; cases e)];have hrun2:(execOp a5.eval u3).run P N=.ok (.round l fn' tmps' asg bod) N:=by
   obtain⟨dst,op,type,pos,after,guard⟩:=u3;simp only[]at pc3;subst pc3;simp[execOp,resolve,h10,DM,invoke,hy1]
  rw[hrun2,Oper.uponIn_round];refine⟨fun h=>(by cases h),hR.mono ?_⟩;rintro ee _ ⟨rfl,E',rfl,hj',hXk,hkeep⟩;show wpOpsIn (fz none) 0 P cf _ (jk 3 1++[]) _ E'.w
  rw[dc3];have hd5:a5.defers=[]:=uq hs5.defers fun _ h=>h;have HE':=Y _ _ hj';have hs6:bl ⟨im l itb,[]⟩ (jb E') a5:=BD hs5 (fun _ h=>h) f14 f0 f5 HE';have hs7:=hs6.ic 12 (v:=.lit (.bool true)) (u:=.bool true) (by simp[rel]);have ao4:eT P τ.pf cf [u4] ⟨(im l itb).set 12 (.lit (.bool true)),[]⟩ ⟨((im l itb).set 12 (.lit (.bool true))).set 13 (.lit (.bool false)),[]⟩:=il (v:=.lit (.bool false)) (jQ gc4 (by rw[pc4]; rfl) (by rw[pc4]; rfl)) dc4 rV;refine oy (pf:=τ.pf) none [u4] 3 _ _ (jb E') _ [] (fun j o A=>?_) ao4 hs7 fun a8 w8 hc8=>?_
  ·have hlt : j < 1 := by simpa using aM A
   have:j=0:=by omega
   subst this;rw[jv e4];exact A
  obtain⟨loc8,rr8,hs8,hle8⟩:=hc8;have hext8:Ext E'.w w8:=⟨hle8.size,fun b I=>hle8.same b I (GD b),hle8.env⟩
  have hj8:J (p++[r]) { E' with w:=w8 }:=hJs _ E' _ hj' (Env.gL hext8) (HE'.ext hext8) rfl;show (Code.cond _ _ _).wpIn (fz none) 0 P _ _ _
  have h13:a8.eval (.tmp 13)=.bool false:=by
   have:=hs8.eval (.tmp 13);simpa[St.eval,im,rel]using this
  refine wpIn_cond_false h13 (wpIn_skip ?_);have hilt:itb<F.heap.size:=oB hit2';have hit5:N.heap[itb]? = some (.mapIter (some B) clock (seen.push e.born) clock):=by
   rw[hext.same itb (by rw[hE2w]; exact hilt),hE2w];exact hit2'
  have hit6:E'.w.heap[itb]? = some (.mapIter (some B) clock (seen.push e.born) clock):=by
   rw[hkeep itb (oB hit5) hX2 hne_l];exact hit5
  have hit8:w8.heap[itb]? = some (.mapIter (some B) clock (seen.push e.born) clock):=by
   rw[hext8.same itb (oB hit6)];exact hit6
  refine⟨⟨_,p++[r],seen.push e.born,clock,rfl,hj8,hXk itb hX2,hit8,aI _,?_,BD hs8 (fun _ h=>h) rfl rfl rfl (Y _ _ hj8)⟩,?_⟩
  ·rw [hrb, List.append_assoc]
   exact hlp
  ·show (rows.filter fun x => !(w8.iterSeen itb).contains (bI x)).length < (rows.filter fun x => !(E.w.iterSeen itb).contains (bI x)).length
   rw[uo hit8,uo hit];have:=(ui hnd hrm (by rw[←hrb]; exact hes)).length_eq;rw[←hrb]at this;simp only[cF]at this;omega
end ky
end Go.AL

namespace Go.AL
open Go Go.ChangeMaps
variable [Dr]
def mn(P:Program)(m:Nat)(c:Code)(s:St){α:Type}(Ps:α→Prop)(X:α→bB)(S:α→St):Prop :=
 ∀(ro:Option Nat),e9 ro c→∀(E:Env) (a:Act),bl s E a→c.wpIn (fz ro) 0 P (fun e d g=>∃ p,Ps p∧e=(X p).toExit∧dj m E (S p) d g) a E.w
section Y2
variable {P:Program} {m:Nat} {s s' s1:St} {x:bB} {α:Type} {Ps:α→Prop} {X:α→bB} {S S':α→St}
theorem uz{c1 c2:Code}(h1:cn P m c1 s .normal s1)(g:mn P m c2 s1 Ps X S):mn P m (.seq c1 c2) s Ps X S:=fun ro d E a hs =>
 wpIn_seq (wpIn_mono (h1 ro d.seq1 E a hs) fun e k J ⟨he,loc,X,q,A⟩=>by
  subst he;exact wpIn_mono (g ro d.wx _ k q) fun e a2 M ⟨p,B,F,I⟩=>⟨p,B,F,dj.after A I⟩)
theorem BE{c1 c2:Code}(h1:mn P m c1 s Ps (fun _=>.normal) S)(k:∀ p,Ps p→cn P m c2 (S p) (X p) (S' p)):mn P m (.seq c1 c2) s Ps X S':=fun ro d E a hs =>
 wpIn_seq (wpIn_mono (h1 ro d.seq1 E a hs) fun e q J ⟨p,g,he,loc,X,A,B⟩=>by
  subst he;exact wpIn_mono (k p g ro d.wx _ q A) fun e a2 M ⟨F,I⟩=>⟨p,g,F,dj.after B I⟩)
theorem Y3{id:Nat}{c:Code}(h:mn P m c s Ps (fun _=>.normal) S):mn P m (.block id c) s Ps (fun _=>.normal) S:=fun ro d E a hs =>
 wpIn_block (wpIn_mono (h ro d.block E a hs) fun e k q ⟨p,g,he,h⟩=>by
  subst he;exact⟨p,g,rfl,h⟩)
end Y2
structure GF (P:Program) (m:Nat) (K:Ct) (rows:List (List G)) (p0:Tmp) (assign body:Code) (S:List (List G)→St):Prop where
 na:eC assign=true
 nb:eC body=true
 fix:∀ p,lv m (S p).fr=true
 round:∀ p r q,(p++r::q).Perm rows→∃ s1 s2,cn P m assign ⟨(S p).fr.set p0 (K.av (gi r 0).row),(S p).H⟩ .normal s1∧cn P m body s1 .normal s2∧bQ m ⟨(S p).fr,s2.H⟩ (S (p++[r]))
section Y4
variable {P:Program} {m:Nat} {K V:Ct} {rows:List (List G)} {p0:Tmp} {assign body:Code} {S:List (List G)→St}
theorem Y5(hr:GF P m K rows p0 assign body S){p q:List (List G)}{r:List G}(hp:(p++r::q).Perm rows){fn:FuncId}{D l:Nat}{a:Act}{tmps:Array Value}(htm:tmps=a.tmps){E:Env}(hs:bl (S p) E a)(hX:E.X l)
  (I:E.w.heap[l]? = some (.loop { state:=.ready,pending:=none,fn,tmps,params:=#[p0],assign,body,defers:=D })) {cs:Array Value} (hc:ad E [K.av (gi r 0).row] cs.toList) :
  YieldAt (fz none) 0 P l cs E.w fun e W'=>e=.returned (.bool true)∧∃ E',E'.w=W'∧bl (S (p++[r])) E' a∧E.dv m E'∧E'.X l ∧
   E'.w.heap[l]? = some (.loop { state:=.ready,pending:=none,fn,tmps,params:=#[p0],assign,body,defers:=D }):=by
 obtain⟨s1,s2,hA,hB,hle⟩:=hr.round p r q hp;obtain⟨g,rfl⟩:∃ g,cs=#[g]:=by
  have:=fO hc
  match h:cs.toList,this with
  | [g],_=>exact⟨g,fl (by simpa using h)⟩
 simp only[ad]at hc;obtain⟨hc0,_⟩:=hc;refine⟨_,_,_,_,run_yield I (by simp),roundIn_of_wpIn (F:=fz none) trivial ?_⟩;have R:l<E.w.heap.size:=(fb.1 I).1;have hs0:bl ⟨(S p).fr.set p0 (K.av (gi r 0).row),(S p).H⟩ E { tmps:=a.tmps.setIfInBounds p0 g,defers:=[] }:=by
  refine⟨hs.H,?_,lV _ _,hs.heap⟩;simp only[Array.toList_setIfInBounds];exact wu p0 hs.fr hc0
 have e0:((#[p0]:Array Tmp).zip #[g]).foldl (fun tmps (t,a)=>tmps.setIfInBounds t a) tmps=a.tmps.setIfInBounds p0 g:=by
  rw[htm];simp[←Array.foldl_toList]
 rw[e0];refine wpIn_mono (hA (some l) (.inr hr.na) E _ hs0) fun e a1 k ⟨he,loc1,X1,U,A⟩=>?_;subst he;have hno:¬ E.own l:=hs.heap.jF hX;have W:k.heap[l]? = some (.loop { state:=.ready,pending:=none,fn,tmps,params:=#[p0],assign,body,defers:=D }):=by rw[A.same l R hno]; exact I
 have hX1:X1 l:=(A.X l R).1.2 hX;have N:l<k.heap.size:=(fb.1 W).1;refine⟨_,run_beginRound W rfl,?_⟩;have hs1':=U.b_ (uu (o:=.loop { state:=.busy,pending:=none,fn,tmps,params:=#[p0],assign,body,defers:=D }) hX1 U.heap) (Bp U.defers W);refine wpIn_mono (hB (some l) (.inr hr.nb) _ a1 hs1') fun e a2 w3 ⟨he,jx,J,hs2,O⟩=>?_;subst he;have hno1:¬ Env.own { w:=k,H:=s1.H,loc:=loc1,X:=X1 } l:=A.own l R hno;have hl3:w3.heap[l]? = some (.loop { state:=.busy,pending:=none,fn,tmps,params:=#[p0],assign,body,defers:=D }):=by
  rw[O.same l (by show l<(k.putObj _ _).heap.size; simpa using N) hno1];exact KB N
 have hX2:J l:=(O.X l (by show l<(k.putObj _ _).heap.size; simpa using N)).1.2 hX1;have hlt3:l<w3.heap.size:=(fb.1 hl3).1;refine⟨_,_,run_endRound (P:=P) none hl3,rfl,?_⟩;obtain⟨d,B⟩:∃ d,w3.putObj l (.loop { state:=.ready,pending:=none,fn,tmps,params:=#[p0],assign,body,defers:=D })=d:=⟨_,rfl⟩
 have Y:d.heap[l]? = some (.loop { state:=.ready,pending:=none,fn,tmps,params:=#[p0],assign,body,defers:=D }):=by
  rw[←B];exact KB hlt3
 have M:E.dv m { w:=d,H:=s2.H,loc:=jx,X:=J }:=by
  refine Env.mf.toM (l:=l) (A.toX.trans (uv.trans (O.toX.trans ?_))) (fun _=>by rw[show Env.w _=d from rfl,Y,I]);rw[←B];exact uv
 have hR4:au { w:=d,H:=s2.H,loc:=jx,X:=J }:=by
  rw[←B];exact hs2.heap.b_ (uu hX2 hs2.heap)
 have hsr:bl ⟨(S p).fr,s2.H⟩ { w:=d,H:=s2.H,loc:=jx,X:=J } a:=by
  refine⟨rfl,ur M _ (hr.fix p) hs.fr,tn hs.defers (fun b h1 h2=>?_) (fun b h1 _=>M.same b (hs.heap.X b h1) (hs.heap.jF h1)),hR4⟩;have:=M.X b (hs.heap.X b h1);exact⟨this.1.2 h1,this.2.2 h2⟩
 obtain⟨loc7,X7,hs7,hle7⟩:=hle _ a hsr;refine⟨{ w:=d,H:=(S (p++[r])).H,loc:=loc7,X:=X7 },?_,hs7,M.trans hle7,(hle7.X l (by show l<d.heap.size; exact(fb.1 Y).1)).1.2 hX2,Y⟩;rw[←B];rfl
theorem Y6{E:Env}{o:Obj}(HE:au E):gd E { w:=E.w.alloc o,H:=E.H,loc:=E.loc,X:=E.X.or fun b=>b=E.w.heap.size } :=
 ⟨rfl,rfl,by rw[mO]; omega,fun b d g=>⟨fun h=>h.elim g fun e=>by omega,by
   show (E.w.heap.push _)[b]? = _
   rw[oZ,if_neg (by omega)]⟩,fun b d=>by
   show b<(E.w.alloc o).heap.size
   rw[mO];rcases d with h|h
   ·have := HE.X b h
    omega
   ·omega,rfl⟩
theorem Y7{E:Env}{o:Obj}:E.dv m { w:=E.w.alloc o,H:=E.H,loc:=E.loc,X:=E.X.or fun b=>b=E.w.heap.size } :=
 ⟨fun _ _ h=>h,by show E.w.heap.size≤(E.w.alloc o).heap.size; rw[mO]; omega,fun b d _=>by
   show (E.w.heap.push _)[b]? = _
   rw[oZ,if_neg (by omega)],fun _ _ h=>h,fun _ _ _ h=>⟨h,rfl⟩,fun b d=>⟨⟨fun h=>h.elim id fun e=>by omega,.inl⟩,Iff.rfl⟩,fun _ _ h=>⟨h,fun _ g=>g⟩,⟨rfl,rfl,rfl,by first|exact fun _=>aI _|exact fun _=>eB _ _⟩⟩
theorem Y8(hm:2≤m){τ:ah}{ops0 ops1 ops2 cf:Array Oper}(ht:aj P τ)(ho:GC P τ K ops0 ops1 ops2 cf){f:FuncId}{fd:Func}{r0 r1 r2 r3 b0 b1:Nat}(hf:P.funcs[f]? = some fd)(hbd:dN P f=true)
  (k:fd.body=some (iG r0 b0 r1 b1 r2 ops0 ops1 ops2 7 (xM cf r3))) (hn:fd.ntmps=14) (hre:fd.results=#[]) {clock:Nat} (hnd:(rows.map bI).Nodup) (O:∀ r∈rows,bI r<clock)
  (hr:GF P m K rows p0 assign body S) (hS:∀ p,(S p).H[1]? = some (.map (cC K V rows) clock)) (hS0:(S []).H[0]? = some (.box [.map 1]))
  {g:Tmp} {s:St} (hg:s.eval (.tmp g)=.clo f [.ptr 0 0 0 0 0]) (h0:bQ m s (S [])) (hH1:s.H[1]? = some (.map (cC K V rows) clock))
  (E:Env) (a:Act) (hs:bl s E a):(Code.rangeFunc (.tmp g) #[p0] assign body).wpIn (fz none) 0 P (fun e a1 A=>e=.normal∧∃ p,p.Perm rows∧dj m E (S p) a1 A) a E.w:=by
 have U:=hs.eval (.tmp g);rw[hg]at U;simp only[rel]at U;obtain⟨cs,U,hcs⟩:=U;obtain⟨c,rfl⟩:∃ c,cs=#[c]:=by
  have:=fO hcs
  match h:cs.toList,this with
  | [c],_=>exact⟨c,fl (by simpa using h)⟩
 have hcp:rel E (.ptr 0 0 0 0 0) c:=hcs.1;have hH1E:E.H[1]? = some (.map (cC K V rows) clock):=by rw[hs.H]; exact hH1
 obtain⟨mb,nn,_,hloc1,_,_⟩:=hs.heap.obj 1 _ hH1E;have hpast1:E.past 1 0:=⟨_,hH1E,fun v _=>kL _⟩
 obtain⟨D,hD⟩:∃ D,E.w.heap.size=D:=⟨_,rfl⟩
 refine wpIn_rangeFunc ?_;intro fn _;obtain⟨rec,N⟩:∃ rec:Loop,rec={ state:=.ready,pending:=none,fn,tmps:=a.tmps,params:=#[p0],assign,body,defers:=D }:=⟨_,rfl⟩
 obtain⟨A,W⟩:∃ A,(E.w.alloc (.deferred (some []))).alloc (.loop rec)=A:=⟨_,rfl⟩
 have hsz:A.heap.size=D+2:=by rw[←W,mO,mO,hD]
 have hl1:A.heap[D+1]? = some (.loop rec):=by
  rw[←W];have:=DQ (E.w.alloc (.deferred (some []))) (.loop rec)
  rwa [mO,hD]at this
 have hold2:∀ b,b<D+1→A.heap[b]? = (E.w.alloc (.deferred (some []))).heap[b]? := fun b k=>by
  rw[←W];show ((E.w.alloc (.deferred (some []))).heap.push _)[b]? = _
  rw[oZ,if_neg (by rw[mO,hD]; omega)]
 have hD1:A.heap[D]? = some (.deferred (some [])):=by
  rw[hold2 D (by omega)];have:=DQ E.w (.deferred (some []))
  rwa [hD]at this
 have hold:∀ b,b<D→A.heap[b]? = E.w.heap[b]? := fun b k=>by
  rw[hold2 b (by omega)];show (E.w.heap.push _)[b]? = _
  rw[oZ,if_neg (by omega)]
 have hos:dx E.w A:=by rw[←W]; exact⟨rfl,rfl,rfl,by first|exact fun _=>aI _|exact fun _=>eB _ _⟩
 obtain⟨I,F⟩:∃ I:XS,I=⟨fun b=>E.X b∨b=D∨b=D+1,fun b=>E.X.z b∨b=D,E.X.r⟩:=⟨_,rfl⟩
 obtain⟨mk,hmk⟩:∃ mk:Deferred,mk={ target:=.collected D,args:=#[] }:=⟨_,rfl⟩
 have b_:gd E { w:=A,H:=E.H,loc:=E.loc,X:=I } :=
  ⟨rfl, rfl, by show E.w.heap.size ≤ A.heap.size; omega, fun b k R => by
   have k:b<D:=by rw[←hD]; exact k
   refine⟨fun h=>?_,hold b k⟩;rw[F]at h;rcases h with h|h|h
   ·exact R h
   ·omega
   ·omega,fun b k=>by
   show b<A.heap.size
   rw[F]at k;rcases k with h|h|h
   ·have := hs.heap.X b h
    omega
   ·omega
   ·omega,by show I.r=E.X.r; rw[F]⟩
 have hs2:bl s { w:=A,H:=E.H,loc:=E.loc,X:=I } { a with defers:=mk::a.defers }:=by
  refine hs.b_ b_ ⟨?_,fun d Y=>?_⟩
  ·refine List.nodup_cons.2 ⟨fun h => ?_, hs.defers.1⟩
   obtain⟨J,e,h1,M,_⟩:=hs.defers.2 mk h;have:=hs.heap.X J M;rw[hmk]at e;have e:D=J:=by
    have e:=congrArg Deferred.target e;simpa using e
   omega
  ·rcases bC.1 Y with rfl | Y
   ·exact⟨D,hmk,hD1,by rw[F]; exact .inr (.inl rfl),by rw[F]; exact .inr rfl⟩
   ·obtain ⟨J, e, h1, M, h3⟩ := hs.defers.2 d Y
    have:=hs.heap.X J M;exact⟨J,e,by rw[show Env.w _=A from rfl,hold J (by omega)]; exact h1,by rw[F]; exact .inl M,by rw[F]; exact .inl h3⟩
 have hle2:E.dv m { w:=A,H:=E.H,loc:=E.loc,X:=I }:=by
  refine⟨fun _ _ h=>h,by show E.w.heap.size≤A.heap.size; omega,fun b k _=>hold b (by rw[←hD]; exact k),fun b _ h ho=>h ((b_.own b).1 ho),fun _ _ _ h=>⟨h,rfl⟩,fun b k=>?_,fun l h hk=>by rw[F]; exact⟨hk,fun _ hq=>hq⟩,hos⟩;have k:b<D:=by rw[←hD]; exact k
  show (I b↔E.X b)∧(I.z b↔E.X.z b)
  rw[F];exact⟨⟨fun h=>by rcases h with h|h|h; exact h; omega; omega,.inl⟩,⟨fun h=>by rcases h with h|h; exact h; omega,.inl⟩⟩
 obtain⟨lr,X3,hs3,hle3⟩:=h0 _ _ hs2;have hX3:X3 (D+1):=(hle3.X (D+1) (by show D+1<A.heap.size; omega)).1.2 (by show I (D+1); rw[F]; exact .inr (.inr rfl));have hcp3:rel { w:=A,H:=(S []).H,loc:=lr,X:=X3 } (.ptr 0 0 0 0 0) c:=NH (hle2.trans hle3) _ (by simp only[oD,ay,iA]; exact⟨by omega,rfl⟩) hcp;refine⟨D+1,[mk],A,{ target:=.fn (.func f) #[c],args:=#[.func (.yield (D+1)) #[] #[]] },A,f,#[.func (.yield (D+1)) #[] #[],c],A,?_,?_,fun _ _=>trivial,?_,fun h=>(by cases h),?_⟩
 ·rw [← W, N, hmk, ← hD]
  exact run_enterLoop_outer _ _ _ _ _
 ·have hcst : a.eval (.const (.func (.yield (D + 1)) #[] #[])) = .func (.yield (D + 1)) #[] #[] := rfl
  simp[resolve,U,hcst,DM]
 ·simp[invoke,tL hbd]
 ·have hcall:=Y1 (P:=P) (K:=K) (V:=V) ht ho hf k hn hre (l:=D+1) (mb:=mb) (nn:=nn) hnd O (fun p E'=>bl (S p) E' { a with defers:=mk::a.defers }∧E.dv m E'∧E'.X (D+1)∧E'.w.heap[D+1]? = some (.loop rec)) (fun p E' h=>h.1.heap)
   (fun p B E2 h hle hR hH=>?_) (fun p B o h=>?_) (fun p B w' itb h O hX hi hsz hoth hos=>?_) (fun p B h=>(fb.1 h.2.2.2).1) (fun p B h=>?_) (fun p r q E' cs hp h hc=>?_) (c:=c) (E0:={ w:=A,H:=(S []).H,loc:=lr,X:=X3 }) ⟨hs3,hle2.trans hle3,hX3,hl1⟩ hS0 hcp3
  ·refine hcall.mono fun e w3 ⟨⟨v, hv⟩, E4, p, hw4, hp, hs4, hle4, hX4, hl4⟩ => ?_
   subst hv;subst hw4;obtain⟨w4,H4,loc4,X4⟩:=E4;have hH4:H4=(S p).H:=hs4.H;subst hH4;have hend:=run_endLoop (P:=P) hl4 (by rw[N]; simp);refine⟨_,_,hend,?_⟩;rw[N];refine⟨rfl,p,hp,loc4,X4,?_,?_⟩
   ·rw [← N]
    exact hs4.b_ (uu hX4 hs4.heap) (Bp hs4.defers hl4)
   ·exact(hle4.toX.trans uv).toM (l:=D+1) (fun h=>absurd h (by omega))
  ·obtain ⟨g1, g2, g3, g4⟩ := h
   have O:D+1<B.w.heap.size:=(fb.1 g4).1;refine⟨⟨by rw[hH]; exact g1.H,eP hle _ g1.fr,tq g1.heap hle g1.defers,hR⟩,g2.trans hle.toM,by rw[hle.X.1]; exact g3,?_⟩;rw[hle.same (D+1) O (g1.heap.jF g3)];exact g4
  ·obtain ⟨g1, g2, g3, g4⟩ := h
   have O:D+1<B.w.heap.size:=(fb.1 g4).1;have hn:=Y7 (m:=m) (E:=B) (o:=o);refine⟨g1.b_ (Y6 g1.heap) (tn g1.defers (fun b h1 M=>⟨.inl h1,M⟩) fun b h1 _=>hn.same b (g1.heap.X b h1) (g1.heap.jF h1)),g2.trans hn,.inl g3,?_⟩;rw[hn.same (D+1) O (g1.heap.jF g3)];exact g4
  ·obtain ⟨g1, g2, g3, g4⟩ := h
   obtain⟨qq,cc,ss,zz,hi⟩:=hi;have hc:gd B { B with w:=w' }:=⟨rfl,rfl,by show B.w.heap.size≤w'.heap.size; omega,fun b k R=>⟨R,hoth b fun e=>R (by rw[e]; exact hX)⟩,fun b k=>by
    show b<w'.heap.size
    rw[hsz];exact g1.heap.X b k,rfl⟩
   refine⟨g1.b_ hc ⟨g1.defers.1,fun d Y=>?_⟩,Env.mf.toM (l:=itb) (g2.toX.trans ⟨fun _ _ h=>h,by show B.w.heap.size≤w'.heap.size; omega,fun b _ _ h=>hoth b h,fun _ _ h=>h,fun _ _ _ h=>⟨h,rfl⟩,fun _ _=>⟨Iff.rfl,Iff.rfl⟩,fun _ _ h=>⟨h,fun _ hq=>hq⟩,hos⟩) (fun h=>absurd h (by omega)),g3,?_⟩
   ·obtain ⟨J, e, h1, M, h3⟩ := g1.defers.2 d Y
    exact⟨J,e,by rw[show Env.w _=w' from rfl,hoth J (fun e=>by rw[e,hi]at h1; cases h1)]; exact h1,M,h3⟩
   ·show w'.heap[D + 1]? = _
    rw[hoth (D+1) (by omega)];exact g4
  ·obtain ⟨g1, g2, g3, g4⟩ := h
   have hm1:B.H[1]? = some (.map (cC K V rows) clock):=by rw[g1.H]; exact hS p
   refine⟨hm1,?_⟩;rw[(g2.live 1 (by omega) hpast1 ⟨_,hm1,rfl⟩).2];exact hloc1
  ·obtain ⟨g1, g2, g3, g4⟩ := h
   rw[N]at g4;obtain⟨fn',tm,asx,bo,k1,k2⟩:=Y5 hr hp rfl g1 g3 g4 hc;refine⟨fn',tm,asx,bo,k1,k2.mono fun e W' ⟨he,E'',hw,q1,q2,q3,q4⟩=>⟨he,E'',hw,⟨q1,g2.trans q2,q3,by rw[N]; exact q4⟩,fun b k=>(q2.X b (g1.heap.X b k)).1.2 k,fun b k R _=>?_⟩⟩;rw[←hw];exact q2.same b k (g1.heap.jF R)
end Y4
end Go.AL

namespace Go.AL
open Go Go.ChangeMaps
variable [Dr]
variable {P:Program} {τ:ah}
theorem Y9{sp:aA}{fn:Func}(hfr:jt sp.aO=true){d r:List G}{x:bB}{s0:ao}(k:fv P fn.results.toList sp x s0=some (true,r)){E:Env}(hH:E.H=ai (sp.H0 d))(HE:au E){e:Exit}{N:Act}{I:World}
  (h3:e=x.toExit) (J:dj sp.aO.length { E with X:=⟨E.X.x,fun _=>False,E.X.r⟩ } s0.den N I) :
  (e = .normal ∨ e = .ret) ∧ ∃ X, jo I X N.defers ∧ ∀ w', w'.heap.size = I.heap.size → (∀ b, w'.heap[b]? ≠ I.heap[b]? → X b ∧ X.z b) → dx I w' → ∃ v, (results fn N.tmps).run P w' = .ok v w' ∧
   ∃ c v' H',Ending.returned v=.returned c∧(v'=sp.out r∧H'=ai (sp.H1 r))∧dz E v' H' c w':=by
 have J:=J.weaken (lk sp.opens s0);generalize hs':fR sp.opens s0=s' at J;obtain⟨loc',X',F,O⟩:=J;have hxx:(x=.normal∨x=.ret)∧∃ vs ids g q,gr P s'.den fn.results.toList=some vs∧(nodupB ids&&nl s'.H 0 sp.aO.length ids sp.dY)=true ∧
   iX s'.H (bh s'.H ids) (gy ids) sp.dY ids=some (true,g)∧eG s'.H (bh s'.H ids) (gy ids) sp.res vs=some (true,q)∧g++q=r:=by
  have k:fv P fn.results.toList sp x s0=some (true,r):=k;unfold fv at k;split at k
  ·cases k
  ·rename_i hx
   simp only[hs']at k;refine⟨by cases x with|normal=>exact .inl rfl|ret=>exact .inr rfl|exit i=>exact(hx i rfl).elim,?_⟩;split at k
   ·cases k
   ·rename_i vs W
    split at k
    ·cases k
    ·rename_i ids hids
     split at k
     ·cases k
     ·rename_i B
      split at k
      ·rename_i b g b' q R q2
       simp only[aX,be,ay]at k;obtain⟨⟨rfl,rfl⟩,rfl⟩:=k;exact⟨vs,ids,g,q,W,B,R,q2,rfl⟩
      ·cases k
 obtain⟨hx,vs,ids,g,q,W,B,R,q2,rfl⟩:=hxx;simp only[ay]at B;refine⟨by subst h3; rcases hx with rfl|rfl; exact .inl rfl; exact .inr rfl,X',F.defers,fun U k1 k2 k3=>?_⟩;obtain⟨F,O⟩:=AA HE F O k1 k2 k3;obtain⟨us,g1,g2⟩:=wy F fn.results.toList vs W;have hres:(results fn N.tmps).run P U=.ok (if h:us.toArray.size=1 then us.toArray[0] else .tuple us.toArray) U:=by
  rw[tT];simp only[Sem.run_bind];rw[Array.mapM_eq_mapM_toList,Sem.run_map,g1];rfl
 generalize M:({ w:=U,H:=s'.den.H,loc:=loc',X:=E.X.re X'.r }:Env)=A at F O g1 g2;have hH1:A.H=ai s'.H:=by rw[←M]; rfl
 obtain⟨hK,hHR⟩:=FY hH1 F.heap (p9 B.1) R q;obtain⟨p0,p1,p2,p3⟩:=rO R q (bE sp.dY (g++q));have hd:dB (lb sp.dY) (g++q)=q:=by rw[←p0]; exact nj g q
 have hS:=rN hK q2 [];rw[gH]at hS;have hrl:=hS.2.2.2 us g2;have hleM:=FZ (m:=sp.aO.length) hH1 hK ⟨rfl,rfl⟩ (FV A _ ids) B.2 (fun j hj=>by
  obtain⟨r1,o',r2,_⟩:=xc B.2 j hj;obtain⟨i,o,g1,rest1,t1,t2,t3,t4,t5,t6⟩:=p3 j o' r2;have hat:=gP (e:=bh s'.H ids) (j:=j) (aM t1);rw[show (bh s'.H ids).ids=ids from rfl,t1]at hat;cases hat;exact⟨o,o',t2,r2,t5⟩) (fun b=>FW)
 have hle:E.le (gx A (ai (ca (bE sp.dY (g++q)) sp.dY (g++q))) ids) :=
  (O.trans hleM).full (by rw[←M]; exact⟨rfl,rfl⟩) (by rw[hH,ef]; simp only[aA.H0,xg]; exact aI _) (by rw[hH]; exact F7 _ _ hfr)
 have Y:A.w=U:=by rw[←M]
 have hX1:∀ r,A.X.re r=E.X.re r:=fun r=>by rw[←M]; rfl
 refine⟨_,hres,_,_,_,rfl,⟨rfl,rfl⟩,ids.map (fun i=>A.loc.getD i none),nk A (ai (ca (bE sp.dY (g++q)) sp.dY (g++q))),?_,?_,?_⟩
 ·have := FG hrl
  simp only[aA.out,aA.H1,hd];simpa only[gx,Y,hX1]using this
 ·simpa only[gx,Y,hX1,aA.H1]using hHR
 ·simpa only[gx,Y,hX1,aA.H1]using hle
def gR{α:Type}(P:Program)(sp:aA)(d:List G)(Ps:α→Prop)(R:α→List G):Prop :=
 fF P sp.f (sp.args0 d) (ai (sp.H0 d)) fun v H'=>∃ p,Ps p∧v=sp.out (R p)∧H'=ai (sp.H1 (R p))
theorem BF{α:Type}{Ps:α→Prop}{sp:aA}{fn:Func}(N:P.funcs[sp.f]? = some fn)(q:fn.body.isSome=true)(J:jt sp.aO=true){d:List G}{r:α→List G}{x:α→bB}{s0:α→ao}
  (h1:mn P sp.aO.length (aN fn) (ao.den ⟨er (sp.args0 d) fn.ntmps,sp.H0 d⟩) Ps x (fun p=>(s0 p).den)) (O:∀ p,Ps p→fv P fn.results.toList sp (x p) (s0 p)=some (true,r p)):gR P sp d Ps r:=by
 have F:fn.body=some (aN fn):=by
  unfold aN;cases R:fn.body with
  |none=>rw[R]at q; cases q
  |some c=>rfl
 intro E cargs hH HE g;refine Az N F ?_;have k:=nf HE;have B:=nc k _ g;have I:bl ⟨er (sp.args0 d) fn.ntmps,ai (sp.H0 d)⟩ { E with X:=⟨E.X.x,fun _=>False,E.X.r⟩ } { tmps:=cargs++mL (fn.ntmps-cargs.size) undef,defers:=[] }:=by
  refine⟨hH,?_,lV _ _,HE.b_ k⟩;simp only[er,sZ,zy];refine jG B ?_;have:=fO g;have e:(sp.args0 d).length=cargs.size:=by simpa using this
  rw[e];have:=rq (E:={ E with X:=⟨E.X.x,fun _=>False,E.X.r⟩ }) (cI (fn.ntmps-cargs.size) undef);simpa using this
 refine wpIn_mono (h1 none (Ax _) { E with X:=⟨E.X.x,fun _=>False,E.X.r⟩ } _ I) fun e a1 w0 ⟨p,A,U,M⟩=>?_;obtain⟨g1,X',g2,g3⟩:=Y9 J (O p A) hH HE U M;refine⟨g1,X',g2,fun w' W Y k3=>?_⟩;obtain⟨v,q1,c,v',H',q2,⟨q3,q4⟩,q5⟩:=g3 w' W Y k3;exact⟨v,q1,c,v',H',q2,⟨p,A,q3,q4⟩,q5⟩
theorem NZ{α:Type}{Ps:α→Prop}{m:Nat}{pf O:FuncId→Bool}{id:Nat}{ops:Array Oper}{l1 l2:List Oper}{oc:Oper}(B:ops.toList=l1++oc::l2){s s1:St}(h1:eT P pf ops l1 s s1)(hg:oc.guard=none){t:Tmp}(hd:oc.dst=some t)
  {f:FuncId} {args:List AV} (hc:fo s1.eval oc.op=some (f,args)) (hb:dN P f=true) {V:α→AV} {HH:α→List af} (I:fF P f args s1.H fun v H'=>∃ p,Ps p∧v=V p∧H'=HH p)
  {S:α→St} (h2:∀ p,Ps p→eT P O ops l2 ⟨s1.fr.set t (V p),HH p⟩ (S p)):mn P m (.region id ops false) s Ps (fun _=>.normal) S:=fun ro _ E a hs=>by
 have pos:∀ i,ops[i]? = (l1++oc::l2)[i]? := jv B;have R:ops.size=l1.length+(l2.length+1):=by
  have:ops.toList.length=l1.length+(l2.length+1):=by rw[B]; simp
  simpa using this
 refine wpIn_region ?_;have hr:fK ops.size=jk 0 l1.length++(l1.length::jk (l1.length+1) l2.length):=by
  rw[vQ,R,←List.range'_append_1,dJ,zw]
 rw[hr];refine oy ro l1 0 s s1 E a _ (fun j o g=>by rw[pos,dJ,List.getElem?_append_left (aM g)]; exact g) h1 hs fun a1 w1 U=>?_;obtain⟨J,k,d,M⟩:=U;rw[wpOpsIn_cons];unfold wpOpIn;have W:ops[l1.length]? = some oc:=by rw[pos,ix (aI _)]; simp
 simp only[W];rw[if_pos (by simp[zu,hg])];have Y:∀ c,oc.op≠.defer c:=fun c e=>by rw[e]at hc; cases hc
 obtain⟨cargs,g1,g2⟩:=EK (P:=P) (E:={ w:=w1,H:=s1.H,loc:=J,X:=E.X.re k }) (fun x=>d.eval x) hc hb;unfold Oper.wpIn;rw[nS _ _ _ Y,g1];refine⟨fun _ _=>trivial,fun h=>(by cases h),EM ((I _ cargs rfl d.heap g2).mono ?_)⟩;rintro _ q ⟨c,v,H',rfl,⟨p,F,rfl,rfl⟩,jx,r2,q1,q2,A⟩;have hs2:bl ⟨s1.fr.set t (V p),HH p⟩ { w:=q,H:=HH p,loc:=jx,X:=(E.X.re k).re r2 } (a1.put oc.dst c):=by
  refine⟨rfl,?_,by rw[put_defers]; exact tq d.heap A d.defers,q2⟩;have:=EL d.fr A (some t) q1;rw[hd];exact this
 show wpOpsIn (fz ro) 0 P ops _ (jk (l1.length+1) l2.length) _ q
 have N:jk (l1.length+1) l2.length=jk (l1.length+1) l2.length++[]:=by rw[gH]
 rw[N];refine oy ro l2 (l1.length+1) _ _ { w:=q,H:=HH p,loc:=jx,X:=(E.X.re k).re r2 } _ [] (fun j o g=>?_) (h2 p F) hs2 fun a3 w3 hc3=>?_
 ·rw [pos, ix (by omega)]
  rw[show l1.length+1+j-l1.length=j+1 by omega];exact g
 ·exact⟨p,F,rfl,dj.after (M.toM.trans A.toM) hc3.toM⟩
theorem mn.mono{α:Type}{Ps:α→Prop}{X:α→bB}{S:α→St}{m m':Nat}{c:Code}{s:St}(h:mn P m' c s Ps X S)(hm:m≤m'):mn P m c s Ps X S:=fun ro d E a hs =>
 wpIn_mono (h ro d E a hs) fun _ _ _ ⟨p,g,h1,k⟩=>⟨p,g,h1,k.Bt hm⟩
theorem N0{α:Type}{Ps:α→Prop}(hm:P.follows .mixedOrders=true){F:ah}(N:aj P τ)(M:aj P F){g sp:aA}{B R:α→List G}{fn:Func}(hf:P.funcs[sp.f]? = some fn)(W:jt sp.aO=true){d:List G}
  (hA:gR P g d Ps B) (gA:dN P g.f=true) {r0 rest:Code} {id:Nat} {ops:Array Oper} (O:fn.body=some (.seq r0 (.seq (.region id ops false) rest))) {l1 l2:List Oper} {oc:Oper} (U:ops.toList=l1++oc::l2) (hg:oc.guard=none) {t:Tmp} (hd:oc.dst=some t)
  {s1:ao} (h1:(bW P τ az r0 ⟨er (sp.args0 d) fn.ntmps,sp.H0 d⟩ fun x s=>match x with | .normal=>eg P τ ops l1 s fun s=>.done .normal s|_=>.fail).fg=some (.normal,s1))
  (hc:fo s1.den.eval oc.op=some (g.f,g.args0 d)) (hH:s1.H=g.H0 d) {tl:List G→Option (List G)}
  (h2:∀ e,(eg P F ops l2 ⟨s1.fr.set t (g.out e),g.H1 e⟩ fun s=>bW P F az rest s .done).leaf (fv P fn.results.toList sp)=tl e) (hT:∀ p,Ps p→tl (B p)=some (R p)):gR P sp d Ps R:=by
 have Y:aN fn=.seq r0 (.seq (.region id ops false) rest):=by unfold aN; rw[O]
 obtain⟨x,s',g1,g2⟩:=dS hm N (m:=sp.aO.length) r0 _ _ (aK _ _ _) (qg h1);cases x with
 |exit _=>exact g2.elim
 |ret=>exact g2.elim
 |normal =>
 obtain⟨I,g3,g4⟩:=pV N g2;obtain⟨_,rfl⟩:=g4;have key:∀ p,Ps p→∃ s2 x s3,eT P F.pf ops l2 ⟨I.fr.set t (g.out (B p)),ai (g.H1 (B p))⟩ s2∧cn P sp.aO.length rest s2 x s3.den∧fv P fn.results.toList sp x s3=some (true,R p):=fun p A=>by
  have:=h2 (B p);rw[hT p A]at this;obtain⟨s2,k1,k2⟩:=pV M (iY this);obtain⟨x,s3,k3,k4⟩:=dS hm M (m:=sp.aO.length) rest s2 .done (aK _ _ _) k2;exact⟨s2.den,x,s3,k1,k3,k4⟩
 have hx:∀ p,∃ q:St × bB × ao,Ps p→eT P F.pf ops l2 ⟨I.fr.set t (g.out (B p)),ai (g.H1 (B p))⟩ q.1∧cn P sp.aO.length rest q.1 q.2.1 q.2.2.den∧fv P fn.results.toList sp q.2.1 q.2.2=some (true,R p):=fun p=>by
  by_cases A:Ps p
  ·obtain ⟨s2, x, s3, k⟩ := key p A
   exact⟨(s2,x,s3),fun _=>k⟩
  ·exact⟨(⟨[],[]⟩,.normal,⟨[],[]⟩),fun h=>(A h).elim⟩
 obtain⟨q,J⟩:=DR hx;refine BF (x:=fun p=>(q p).2.1) (s0:=fun p=>(q p).2.2) hf (by rw[O]; rfl) W ?_ fun p A=>(J p A).2.2;rw[Y];refine uz g1 (BE (S:=fun p=>(q p).1) ?_ fun p A=>(J p A).2.1);refine NZ U g3 hg hd (V:=fun p=>g.out (B p)) (HH:=fun p=>ai (g.H1 (B p))) hc gA ?_ fun p A=>(J p A).1;have hH2:I.den.H=ai (g.H0 d):=by rw[←hH]; rfl
 rw[hH2];exact hA
def BG(P:Program)(K:Ct)(f:FuncId):Prop:=∃(τ:ah) (fd:Func) (ops0 ops1 ops2 cf:Array Oper) (r0 r1 r2 r3 b0 b1:Nat),aj P τ∧GC P τ K ops0 ops1 ops2 cf∧P.funcs[f]? = some fd∧dN P f=true ∧
 fd.body=some (iG r0 b0 r1 b1 r2 ops0 ops1 ops2 7 (xM cf r3))∧fd.ntmps=14∧fd.results=#[]
theorem N1{K:Ct}{f:FuncId}{fd:Func}{ops0 ops1 ops2 cf:Array Oper}{r0 r1 r2 r3 b0 b1:Nat}(I:aj P τ)(J:P.funcs[f]? = some fd)(M:dN P f=true) (d:fd.body=some (iG r0 b0 r1 b1 r2 ops0 ops1 ops2 7 (xM cf r3))) (hn:fd.ntmps=14) (hr:fd.results=#[])
  (h0:∃ o1 o2 ty,ops0.toList=[o1,o2]∧(o1.guard=none∧o1.op=.load ty (.tmp 1)∧o1.dst=some 4)∧(o2.guard=none∧o2.op=.range ty (.tmp 4)∧o2.dst=some 5)∧(fD P ty).isSome=true∧eJ P ty=some (1,false))
  (h1:∃ o1 o2,ops1.toList=[o1,o2]∧o1.guard=none∧o1.op=.next (.tmp 5) false∧o1.dst=some 6∧o2.guard=none∧o2.op=.extract (.tmp 6) 0∧o2.dst=some 7)
  (N:∃ o1 l,ops2.toList=o1::l∧o1.guard=none∧o1.op=.entry (.tmp 5)∧o1.dst=some 8)
  (O:∃ u1 u2 u3 u4 t tys,cf.toList=[u1,u2,u3,u4]∧(u3.guard=none∧u3.op=.call { callee:=.value (.tmp 10),args:=#[.tmp 11],argTypes:=tys }∧u3.dst=some 12)∧(u4.guard=none∧u4.op=.unOp .not t (.tmp 12)∧u4.dst=some 13))
  {s2 s3:Nat→Nat→List G→ao} (k:∀ l it g,(eg P τ ops2 (ops2.toList.drop 1) ⟨(im l it).set 8 (.tuple [K.av g,.undef]),[]⟩ fun s=>.done .normal s).fg=some (.normal,s2 l it g)) (q:∀ l it g,(eg P τ cf (cf.toList.take 2) (s2 l it g) fun s=>.done .normal s).fg=some (.normal,s3 l it g))
  (R:∀ l it g,(s3 l it g).fr.length=14) (A:∀ l it g,(s3 l it g).fr[0]? = some (.lit (.func (.yield l) #[] #[]))) (U:∀ l it g,(s3 l it g).fr[5]? = some (.lit (.pointer (some ⟨it,0,none⟩)))) (B:∀ l it g,(s3 l it g).fr[10]? = some (.lit (.func (.yield l) #[] #[]))) (F:∀ l it g,(s3 l it g).fr[11]? = some (K.av g)):BG P K f :=
 ⟨τ,fd,ops0,ops1,ops2,cf,r0,r1,r2,r3,b0,b1,I,⟨h0,h1,N,O,fun l it g=>⟨s2 l it g,s3 l it g,k l it g,q l it g,R l it g,A l it g,U l it g,B l it g,F l it g⟩⟩,J,M,d,hn,hr⟩
def BH(t:Tree):ao:=match t.fg with
 |some (_,s)=>s
 |none=>⟨[],[]⟩
def BI(P:Program)(τ:ah)(fn:Func)(sp:aA)(d:List G):ao:=match fn.body with
 |some (.seq r0 (.seq (.region _ ops _) _))=>BH (bW P τ az r0 ⟨er (sp.args0 d) fn.ntmps,sp.H0 d⟩ fun x s=>match x with | .normal=>eg P τ ops (ops.toList.take 1) s fun s=>.done .normal s|_=>.fail)
 |_=>⟨[],[]⟩
def N2(P:Program)(τ:ah)(L0:LT)(fn:Func)(sp:aA)(d:List G):ao:=match fn.body with
 |some (.seq r0 (.seq (.seq r1 _) _))=>BH (bW P τ L0 r0 ⟨er (sp.args0 d) fn.ntmps,sp.H0 d⟩ fun x s=>match x with | .normal=>bW P τ L0 r1 s .done|_=>.fail)
 |_=>⟨[],[]⟩
def N3(fn:Func):Code:=match fn.body with
 |some (.seq a _)=>a
 |_=>.skip
def N4(fn:Func):Code:=match fn.body with
 |some (.seq _ (.seq (.seq b _) _))=>b
 |_=>.skip
def N5(fn:Func):Code:=match fn.body with
 |some (.seq _ (.seq (.seq _ (.block _ (.rangeFunc _ _ a _))) _))=>a
 |_=>.skip
def N6(fn:Func):Code:=match fn.body with
 |some (.seq _ (.seq (.seq _ (.block _ (.rangeFunc _ _ _ b))) _))=>b
 |_=>.skip
def N7(fn:Func):Code:=match fn.body with
 |some (.seq _ (.seq _ c))=>c
 |_=>.skip
def BJ(fn:Func):Code:=match fn.body with
 |some (.seq _ (.block _ (.loop (.seq _ (.seq _ (.block _ (.seq c _)))))))=>c
 |_=>.skip
def N8(fn:Func):Code:=match fn.body with
 |some (.seq _ (.block _ (.loop (.seq _ (.seq _ (.block _ (.seq _ (.seq c _))))))))=>c
 |_=>.skip
def jx(P:Program)(τ:ah)(K:Ct)(c:Code)(l it:Nat)(g:List G):ao:=match c with
 |.region _ ops _=>BH (eg P τ ops (ops.toList.drop 1) ⟨(im l it).set 8 (.tuple [K.av g,.undef]),[]⟩ fun s=>.done .normal s)
 |_=>⟨[],[]⟩
def lr(P:Program)(τ:ah)(c:Code)(s:ao):ao:=match c with
 |.region _ ops _=>BH (eg P τ ops (ops.toList.take 2) s fun s=>.done .normal s)
 |_=>⟨[],[]⟩
def gB(d:List G):List (List G):=(gi d 0).rows
def nu(d:List G):Nat:=(gi d 1).int.toNat
def kB(d:List G):Bool:=eA (gB d) (nu d)&&Nat.ble (gB d).length 1048576
theorem N9(hm:P.follows .mixedOrders=true)(A:aj P τ){K V:Ct}{M:FuncId}(hk:BG P K M){L0:LT}(k:∀ m c,ax P m L0 c){sp:aA}{fn:Func}(hf:P.funcs[sp.f]? = some fn)(hfr:jt sp.aO=true)(hln:Nat.ble sp.aO.length 3=true){r0 r1 assign body rest:Code}{b:Nat}{g p0:Tmp}
  (N:fn.body=some (.seq r0 (.seq (.seq r1 (.block b (.rangeFunc (.tmp g) #[p0] assign body))) rest))) (F:(eC assign&&eC body)=true) {inv:lj} {ps psr:List iF} {pre:List G→ao} {D:List G→List (List G)→List G} {st:List G→List G→Option (List G)} {tl:List G→Option (List G)} {R:List G→List (List G)→List G}
  (W:∀ d,(bW P τ L0 r0 ⟨er (sp.args0 d) fn.ntmps,sp.H0 d⟩ fun x s=>match x with | .normal=>bW P τ L0 r1 s .done|_=>.fail).fg=some (.normal,pre d))
  (hg:∀ d,(pre d).fr.getD g .undef=.clo M [.ptr 0 0 0 0 0]) (hH1:∀ d,(pre d).H[1]? = some (.map K V (gB d) (nu d))) (hin:∀ d,gg 3 inv ps (pre d)=some (true,D d [])) (Y:∀ d,lv 3 (aF inv d).fr=true)
  (hI0:∀ d,(aF inv d).H[0]? = some (.raw (.box [.map 1]))) (hI1:∀ d p,(aF inv (D d p)).H[1]? = some (.map K V (gB d) (nu d)))
  (hr : ∀ r d, (bW P τ L0 assign ⟨(aF inv d).fr.set p0 (K.av r), (aF inv d).H⟩ fun x s1 => match x with
   | .normal=>bW P τ L0 body s1 fun x s2=>match x with
    |.normal=>.done .normal ⟨(aF inv d).fr,s2.H⟩
    |_=>.fail
   |_=>.fail).leaf (oz 3 inv psr)=st r d)
  (hst:∀ d p r,p.length<1048576→st (gi r 0).row (D d p)=some (D d (p++[r])))
  (htl:∀ d,(bW P τ L0 rest (aF inv d) .done).leaf (fv P fn.results.toList sp)=tl d) (hT:∀ d p,tl (D d p)=some (R d p)) {d:List G} (aL:kB d=true) :
  gR P sp d (fun p=>p.Perm (gB d)) (R d):=by
 have hbo:aN fn=.seq r0 (.seq (.seq r1 (.block b (.rangeFunc (.tmp g) #[p0] assign body))) rest):=by unfold aN; rw[N]
 unfold kB at aL;simp only[ay]at aL F;obtain⟨hnd,hlt⟩:=xq aL.1;have hlen:=kM aL.2;obtain⟨τk,fd,ops0,ops1,ops2,cf,k0,k1,k2,O,b0,b1,htk,ho,hfd,hbd,hbk,hnt,hre⟩:=hk;obtain⟨x,s',g1,g2⟩:=dS hm A (m:=sp.aO.length) r0 _ _ (k _ _) (qg (W d));cases x with
 |exit _=>exact g2.elim
 |ret=>exact g2.elim
 |normal =>
 obtain⟨x,s1',g3,g4⟩:=dS hm A (m:=sp.aO.length) r1 _ _ (k _ _) g2;obtain⟨rfl,rfl⟩:=g4;have hkr:GF P 3 K (gB d) p0 assign body fun p=>(aF inv (D d p)).den:=by
  refine⟨F.1,F.2,fun p=>Y _,fun p r q I=>?_⟩;have hpl:p.length<1048576:=by
   have:=I.length_eq;simp only[List.length_append,cF]at this;omega
  have h:=hst d p r hpl;rw[←hr]at h;obtain⟨x,s1,q1,J⟩:=dS hm A (m:=3) assign _ _ (k _ _) (iY h);cases x with
  |exit _=>exact J.elim
  |ret=>exact J.elim
  | normal =>
   obtain⟨x,s2,q3,B⟩:=dS hm A (m:=3) body _ _ (k _ _) J;cases x with
   |exit _=>exact B.elim
   |ret=>exact B.elim
   | normal =>
    have B:oz 3 inv psr .normal ⟨(aF inv (D d p)).fr,s2.H⟩=some (true,D d (p++[r])):=B;exact⟨s1.den,s2.den,q1,q3,jr (s:=⟨(aF inv (D d p)).fr,s2.H⟩) B⟩
 have key:∀ p,∃ q:bB × ao,cn P sp.aO.length rest (aF inv (D d p)).den q.1 q.2.den∧fv P fn.results.toList sp q.1 q.2=some (true,R d p):=fun p=>by
  have:=htl (D d p);rw[hT d p]at this;obtain⟨x,s3,O,k4⟩:=dS hm A (m:=sp.aO.length) rest _ .done (k _ _) (iY this);exact⟨(x,s3),O,k4⟩
 obtain⟨q,U⟩:=DR key;refine BF (x:=fun p=>(q p).1) (s0:=fun p=>(q p).2) hf (by rw[N]; rfl) hfr ?_ fun p _=>(U p).2;rw[hbo];refine uz g1 (BE (S:=fun p=>(aF inv (D d p)).den) (uz g3 (Y3 ?_)) fun p _=>(U p).1);intro ro hro E a hs;obtain rfl:ro=none:=hro.resolve_right (by simp[eC]);have:=Y8 (P:=P) (K:=K) (V:=V) (S:=fun p=>(aF inv (D d p)).den) (Nat.le_succ 2) htk ho hfd hbd hbk hnt hre hnd hlt hkr (clock:=nu d) (fun p=>bx (hI1 d p)) (bx (hI0 _)) (g:=g) (s:=(pre d).den) (hg d) (jr (hin d)) (bx (hH1 d)) E a hs;refine wpIn_mono this fun e a1 w1 ⟨he,p,I,hM⟩=>⟨p,I,he,hM.Bt (kM hln)⟩
noncomputable def uB(g:List G→List (List G)→List G)(tl:List G→Option (List G))(d:List G):Option (List G):=bif kB d then qh (gB d) fun _ p=>tl (g d p) else none
theorem gR.same{sp:aA}{d r:List G}{α:Type}{Ps:α→Prop}{R:α→List G}(h:gR P sp d Ps R)(k:∀ p,Ps p→R p=r):cz P sp.f (sp.args0 d) (ai (sp.H0 d)) (sp.out r) (ai (sp.H1 r)) :=
 fF.mono h fun v H' ⟨p,q,h1,g⟩=>by rw[k p q]at h1 g; exact⟨h1,g⟩
theorem N_(hm:P.follows .mixedOrders=true){k:ah}(M:aj P τ)(I:aj P k){g sp:aA}{q:List G→List (List G)→List G}{fn:Func}(N:P.funcs[sp.f]? = some fn)(J:jt sp.aO=true)
  (O:∀ d,kB d=true→gR P g d (fun p=>p.Perm (gB d)) (q d)) (gA:dN P g.f=true) {r0 rest:Code} {id:Nat} {ops:Array Oper} (U:fn.body=some (.seq r0 (.seq (.region id ops false) rest))) {l1 l2:List Oper} {oc:Oper} (A:ops.toList=l1++oc::l2) (W:oc.guard=none) {t:Tmp} (Y:oc.dst=some t)
  {s1:List G→ao} (h1:∀ d,(bW P τ az r0 ⟨er (sp.args0 d) fn.ntmps,sp.H0 d⟩ fun x s=>match x with | .normal=>eg P τ ops l1 s fun s=>.done .normal s|_=>.fail).fg=some (.normal,s1 d))
  (hc:∀ d,fo (s1 d).den.eval oc.op=some (g.f,g.args0 d)) (hH:∀ d,(s1 d).H=g.H0 d) {tl:List G→Option (List G)}
  (h2:∀ d e,(eg P k ops l2 ⟨(s1 d).fr.set t (g.out e),g.H1 e⟩ fun s=>bW P k az rest s .done).leaf (fv P fn.results.toList sp)=tl e) (hF:∀ d,sp.F d=uB q tl d):aZ P sp:=by
 intro d r h;rw[hF]at h;unfold uB at h;cases aL:kB d with
 |false=>rw[aL]at h; cases h
 | true =>
  rw[aL]at h;have B:=xo h 0;exact(N0 (R:=fun _=>r) hm M I N J (O d aL) gA U A W Y (h1 d) (hc d) (hH d) (h2 d) fun p hp=>B p hp).same fun _ _=>rfl
theorem N'(hm:P.follows .mixedOrders=true)(k:aj P τ){g sp:aA}{q R:List G→List (List G)→List G}{fn:Func}(F:P.funcs[sp.f]? = some fn)(B:jt sp.aO=true)
  (I:∀ d,kB d=true→gR P g d (fun p=>p.Perm (gB d)) (q d)) (gA:dN P g.f=true) {r0 rest:Code} {id:Nat} {ops:Array Oper} (J:fn.body=some (.seq r0 (.seq (.region id ops false) rest))) {l1 l2:List Oper} {oc:Oper} (A:ops.toList=l1++oc::l2) (M:oc.guard=none) {t:Tmp} (N:oc.dst=some t)
  {s1:List G→ao} (h1:∀ d,(bW P τ az r0 ⟨er (sp.args0 d) fn.ntmps,sp.H0 d⟩ fun x s=>match x with | .normal=>eg P τ ops l1 s fun s=>.done .normal s|_=>.fail).fg=some (.normal,s1 d))
  (hc:∀ d,fo (s1 d).den.eval oc.op=some (g.f,g.args0 d)) (hH:∀ d,(s1 d).H=g.H0 d) {tl:List G→Option (List G)}
  (O:∀ d e,(eg P τ ops l2 ⟨(s1 d).fr.set t (g.out e),g.H1 e⟩ fun s=>bW P τ az rest s .done).leaf (fv P fn.results.toList sp)=tl e) (U:∀ d p,tl (q d p)=some (R d p)):∀ d,kB d=true→gR P sp d (fun p=>p.Perm (gB d)) (R d) :=
 fun d aL=>N0 hm k k F B (I d aL) gA J A M N (h1 d) (hc d) (hH d) (O d) fun p _=>U d p
end Go.AL

namespace Go.AL
open Go Go.ChangeMaps
variable [Dr]
variable {P:Program} {τ:ah}
def xN(sp:aA)(d:List AV)(H:List al):Option (Bool × List G) :=
 match iZ H (fun i=>d.getD i .undef) sp.ps []with
 |none=>none
 | some ids=>match nodupB ids&&nm (bh H ids) 0 sp.dY with
  |false=>none
  | true=>match iX H (bh H ids) (me (fG sp) ids) sp.aO ids,eG H (bh H ids) (me (fG sp) ids) sp.args d with
   |some (b,g),some (k,q)=>some (b&&k,g++q)
   |_,_=>none
def jc(sp:aA)(d:List AV)(H:List al)(r:List G):AV × List al :=
 match iZ H (fun i=>d.getD i .undef) sp.ps []with
 |none=>(.undef,[])
 |some ids=>((sp.out r).cV (bh H ids),ic (bh H ids) H (sp.H1 r))
theorem Y_{sp:aA}(hp:rS sp=true){W:List AV}{H:List al}{Y:List G}(h:xN sp W H=some (true,Y)){Ps:List G→Prop}(hc:gR P sp Y Ps id) :
  fF P sp.f W (ai H) fun v H'=>∃ r,Ps r∧v=(jc sp W H r).1∧H'=ai (jc sp W H r).2:=by
 simp only[rS,ay]at hp;obtain⟨hfr,hle,hlab⟩:=hp;have hle:=kM hle;unfold xN at h;split at h
 ·cases h
 rename_i ids hids;split at h
 ·cases h
 rename_i hck;simp only[ay]at hck;obtain⟨hnd,hup⟩:=hck;have hnd:=p9 hnd;split at h
 case h_2=>cases h
 rename_i b g b' k h1 h2;simp only[aX,be,ay]at h;obtain⟨⟨rfl,rfl⟩,rfl⟩:=h;obtain⟨p0,p1,p2,p3⟩:=rO h1 k (bE sp.aO (g++k));have hd:dB (lb sp.aO) (g++k)=k:=by rw[←p0]; exact nj g k
 have hlen:ids.length=(ai (sp.H0 (g++k))).length:=by rw[ef]; simp only[aA.H0,p1,p2]
 have hat:∀ j,j<ids.length→ids[j]? = some ((bh H ids).at j):=fun j A=>gP (e:=bh H ids) A;have hobjs:∀ j,j<ids.length→∃ sh o g1 F,sp.aO[j]? = some sh∧H[(bh H ids).at j]? = some o∧iD H (bh H ids) (me (fG sp) ids) sh o=some (true,g1) ∧
   (sp.H0 (g++k))[j]? = some (fe (bE sp.aO (g++k)) sh (g1++F)) ∧
   (bE sp.aO (g++k)).ae j=sh.up∧(∀ ks v rows,o=.vec ks v rows→(bE sp.aO (g++k)).len j=rows.length)∧sh.up=0∧(bh H ids).up j=rL o:=by
  intro j A;have hj':j<sp.aO.length:=by omega
  obtain⟨i,o,g1,F,O,B,J,I,U,q6⟩:=p3 j sp.aO[j] (bA hj');have q1':=O;rw[hat j A]at O;cases O;refine⟨sp.aO[j],o,g1,F,bA hj',B,J,I,U,q6,?_,?_⟩
  ·have := List.all_eq_true.1 hfr sp.aO[j] (qO hj')
   exact Nat.eq_of_beq_eq_true this
  ·simp only [bN.up, bh, cG, cy]
   rw[q1'];simp only[Option.map_some,Option.getD_some,rM];rw[B]
 have hK:∀ E E0,E.H=ai H→au E→rI (bh H ids) (bif fG sp then (fK H.length).filter (gy ids) else []) E E0→E0.H=ai (sp.H0 (g++k)) →
   iE H (bh H ids) (me (fG sp) ids) (bE sp.aO (g++k)) E E0:=by
  intro E E0 N HE M R;refine { hH:=N,HE:=HE,free:=fun i hi b n hb=>?_,dC:=M.toKeepIn,obj:=fun j o q=>?_ }
  ·refine M.MR i ?_ b n hb
   have hlt:=aM hb;rw[HE.len,N,ef]at hlt;unfold me at hi;split at hi
   ·rename_i hs
    rw[hs];simp only[cond_true,gk,List.mem_range];exact⟨hlt,hi⟩
   ·cases hi
  ·have A:j<ids.length:=by
    rcases Nat.lt_or_ge j ids.length with hlt|hge
    ·exact hlt
    ·have h1 := aM q
     have h2:=rJ (e:=bh H ids) hge;have h3:(bh H ids).base=H.length:=rfl;omega
   refine⟨A,?_⟩;obtain⟨sh,o',g1,F,O,B,J,I,U,q6,q7,q8⟩:=hobjs j A;rw[q]at B;cases B;obtain⟨r1,r2,r3⟩:=w_ (lens:=bE sp.aO (g++k)) (d:=g1++F) J;exact⟨r1,⟨_,by rw[R]; exact bx I,by rw[U]; exact r2⟩,q6,fun _=>by rw[U]; exact q7⟩
 have:=MZ (P:=P) (f:=sp.f) (fG sp) (bif fG sp then (fK H.length).filter (gy ids) else []) (e:=bh H ids) (H:=ai H) (args:=sp.args0 (g++k)) (H0:=ai (sp.H0 (g++k)))
  (Ps:=Ps) (Vf:=fun r=>sp.out r) (Hf:=fun r=>ai (sp.H1 r)) (args0:=W) hc hlen (by rw[ef]; rfl) hnd ?_ ?_ (fun _ _=>rR hup) ?_ (fun hs=>by rw[hs]; rfl) ?_ ?_ ?_ ?_ ?_ ?_
 ·refine fF.mono this fun v' H'' ⟨r, hr, h3, h4⟩ => ⟨r, hr, ?_, ?_⟩
  ·rw [h3]
   unfold jc;rw[hids]
  ·rw [h4]
   unfold jc;rw[hids];exact(Nl ..).symm
 ·intro j o q
  have A:j<ids.length:=by rw[hlen]; exact aM q
  obtain⟨sh,o',g1,F,O,B,J,I,U,q6,q7,q8⟩:=hobjs j A;obtain⟨r1,r2,r3⟩:=w_ (lens:=bE sp.aO (g++k)) (d:=g1++F) J;rw[bx I]at q;cases q;refine⟨o'.den,bx B,fun v=>?_⟩;rw[r1,r2,q7,q8];simp only[aX];constructor
  ·rintro rfl
   exact⟨0,rfl,by omega⟩
  ·rintro ⟨u, rfl, rfl⟩
   omega
 ·intro E E0 N HE M R j o q
  have A:j<ids.length:=by rw[hlen]; exact aM q
  obtain⟨sh,o',g1,F,O,B,J,I,U,q6,q7,q8⟩:=hobjs j A;rw[bx I]at q;cases q;exact FU (hK E E0 N HE M R) J F A (fun l hl=>M.jN j _ l (by rw[R]; exact bx I) (by rw[pZ,hl])) (HE.obj _ _ (by rw[N]; exact bx B))
 ·intro r _
  rw[ef,ef];simp only[aA.H0,aA.H1,xg];exact hle
 ·intro hs r _
  simp only[fG,ay]at hs;exact Ni (Ga hs.1)
 ·intro hs r _
  simp only[fG,ay]at hs;exact Gb hs.2
 ·intro i hi
  cases hs:fG sp with
  | true =>
   rw[hs]at hi;simp only[cond_true,gk]at hi;exact FX hi.2
  | false =>
   rw[hs]at hi;simp at hi
 ·intro j o o' q ho'
  have A:j<ids.length:=by rw[hlen]; exact aM q
  obtain⟨sh,o2,g1,F,O,B,J,I,_⟩:=hobjs j A;rw[bx I]at q;rw[bx B]at ho';cases q;cases ho';rw[FQ J,pZ]
 ·intro r _ j o l q hl
  obtain⟨sh,h5,h6⟩:=Nv (show (ai (ca (bE sp.dY r) sp.dY r))[j]? = some o from q);obtain⟨sh0,h7,h8⟩:=Bg hlab j sh l h5 (by rw[←h6,hl]);obtain⟨o0,h9,h10⟩:=Gd (bE sp.aO (g++k)) sp.aO (g++k) j sh0 h7;exact⟨o0,h9,by rw[h10,h8]⟩
 ·intro E E0 cs N HE M R hr
  have hS:=(rN (hK E E0 N HE M R) h2 []).2.2.2 cs hr;rw[gH]at hS;simp only[aA.args0,hd];exact hS
def uC(x:bB)(s:ao):Option (Bool × ao):=match x with
 |.normal=>some (true,s)
 |_=>none
def uD(fn:Func):Code:=match fn.body with
 |some (.seq a _)=>a
 |_=>.skip
def Oa(fn:Func):Code:=match fn.body with
 |some (.seq _ (.seq b _))=>b
 |_=>.skip
def BK(fn:Func):Code:=match fn.body with
 |some (.seq _ (.seq _ c))=>c
 |_=>.skip
def iJ(fn:Func):Array Oper:=match Oa fn with
 |.region _ ops _=>ops
 |_=>#[]
def xO(fn:Func)(n:Nat):Oper:=(iJ fn).toList.getD n default
def sL(P:Program)(τ:ah)(fn:Func)(sp:aA)(n:Nat)(d:List G):ao:=((bW P τ az (uD fn) ⟨er (sp.args0 d) fn.ntmps,sp.H0 d⟩ fun x s=>match x with | .normal=>eg P τ (iJ fn) ((iJ fn).toList.take n) s fun s=>.done .normal s|_=>.fail).leaf uC).getD ⟨[],[]⟩
def ql(fn:Func)(n:Nat)(s:ao):List AV:=match fo s.den.eval (xO fn n).op with
 |some (_,d)=>d
 |none=>[]
theorem Ob{β:Type}{t:Option (List G)}{k:List G→Option β}{r:β}(h:ar t k=some r):∃ g,t=some g∧k g=some r:=by
 unfold ar at h;cases t with
 |none=>cases h
 |some g=>exact⟨g,rfl,h⟩
theorem Oc(hm:P.follows .mixedOrders=true){F:ah}(O:aj P τ)(M:aj P F){L:LT}{g sp:aA}{fn:Func}(hf:P.funcs[sp.f]? = some fn)(hfr:jt sp.aO=true){d r Y:List G}{Ps:List G→Prop}(hN:gR P g Y Ps id)(hE:rS g=true)(hbN:dN P g.f=true)
  {r0 rest:Code} {id:Nat} {ops:Array Oper} (U:fn.body=some (.seq r0 (.seq (.region id ops false) rest))) (W:ax P sp.aO.length L (aN fn)) {l1 l2:List Oper} {oc:Oper} (hops:ops.toList=l1++oc::l2) (hg:oc.guard=none) {t:Tmp} (hd:oc.dst=some t) {S1:ao}
  (h1:(bW P τ az r0 ⟨er (sp.args0 d) fn.ntmps,sp.H0 d⟩ fun x s=>match x with | .normal=>eg P τ ops l1 s fun s=>.done .normal s|_=>.fail).leaf uC=some S1)
  {A:List AV} (hc:fo S1.den.eval oc.op=some (g.f,A)) (hY:xN g A S1.H=some (true,Y)) {tl:List G→Option (List G)}
  (h2:∀ e,(eg P F ops l2 ⟨S1.fr.set t (jc g A S1.H e).1,(jc g A S1.H e).2⟩ fun s=>bW P F L rest s .done).leaf (fv P fn.results.toList sp)=tl e) (hT:∀ e,Ps e→tl e=some r) :
  cz P sp.f (sp.args0 d) (ai (sp.H0 d)) (sp.out r) (ai (sp.H1 r)):=by
 have N:aN fn=.seq r0 (.seq (.region id ops false) rest):=by unfold aN; rw[U]
 rw[N]at W;have hLr:ax P sp.aO.length L rest:=W.sub (fun p I=>by simp only[bH,bV]; exact .inr (.inr I)) (fun p I=>by
  simp only[bG,bV]
  first
  |exact .inr (.inr I)
  |exact .inr (.inr (.inr I))
  |exact .inr (.inr (.inr (.inr I))))
 obtain⟨x,s',g1,g2⟩:=dS hm O (m:=sp.aO.length) r0 _ _ (aK _ _ _) (iY h1);cases x with
 |exit _=>exact g2.elim
 |ret=>exact g2.elim
 |normal =>
 obtain⟨B,g3,g4⟩:=pV O g2;have g4:uC .normal B=some (true,S1):=g4;simp only[uC,aX,be,true_and]at g4;subst g4;have key:∀ e,Ps e→∃ s2 x s3,eT P F.pf ops l2 ⟨B.fr.set t (jc g A B.H e).1,ai (jc g A B.H e).2⟩ s2∧cn P sp.aO.length rest s2 x s3.den∧fv P fn.results.toList sp x s3=some (true,r):=fun e he=>by
  have:=h2 e;rw[hT e he]at this;obtain⟨s2,k1,k2⟩:=pV M (iY this);obtain⟨x,s3,k3,k4⟩:=dS hm M (m:=sp.aO.length) rest s2 .done hLr k2;exact⟨s2.den,x,s3,k1,k3,k4⟩
 have hx:∀ e,∃ q:St × bB × ao,Ps e→eT P F.pf ops l2 ⟨B.fr.set t (jc g A B.H e).1,ai (jc g A B.H e).2⟩ q.1∧cn P sp.aO.length rest q.1 q.2.1 q.2.2.den∧fv P fn.results.toList sp q.2.1 q.2.2=some (true,r):=fun e=>by
  by_cases he:Ps e
  ·obtain ⟨s2, x, s3, k⟩ := key e he
   exact⟨(s2,x,s3),fun _=>k⟩
  ·exact⟨(⟨[],[]⟩,.normal,⟨[],[]⟩),fun h=>(he h).elim⟩
 obtain⟨q,J⟩:=DR hx;refine gR.same (Ps:=Ps) (R:=fun _=>r) (BF (x:=fun e=>(q e).2.1) (s0:=fun e=>(q e).2.2) hf (by rw[U]; rfl) hfr ?_ fun e he=>(J e he).2.2) fun _ _=>rfl;rw[N];refine uz g1 (BE (S:=fun e=>(q e).1) ?_ fun e he=>(J e he).2.1);exact NZ hops g3 hg hd (V:=fun e=>(jc g A B.H e).1) (HH:=fun e=>ai (jc g A B.H e).2) hc hbN (Y_ hE hY hN) fun e he=>(J e he).1
def nv(sp:eu)(tl:List G→Option (List G))(d:List G)(b:Nat)(p:List (List G)):Option (List G):=bif sp.side d b then (bP sp.st sp.aT p (sp.init d b)).bind tl else none
def BL(sp:eu)(tl:List G→Option (List G))(rows:List (List G))(d e:List G):Prop:=∃ b p,p.Perm rows∧nv sp tl d b p=some e
noncomputable def uE{β:Type}(sp:eu)(tl:List G→Option (List G))(rows:List (List G))(clock:Nat)(d:List G)(k:List G→Option β):Option β:=bif eA rows clock then qh rows (fun b p=>(nv sp tl d b p).bind k) else none
theorem Od{β:Type}{sp:eu}{tl:List G→Option (List G)}{rows:List (List G)}{clock:Nat}{d:List G}{k:List G→Option β}{r:β}(h:uE sp tl rows clock d k=some r):eA rows clock=true∧(∀ b p,p.Perm rows→(nv sp tl d b p).isSome=true)∧∀ e,BL sp tl rows d e→k e=some r:=by
 unfold uE at h;cases aL:eA rows clock with
 |false=>rw[aL]at h; cases h
 | true =>
  rw[aL]at h;have q:=xo h;refine⟨rfl,fun b p g=>?_,fun e ⟨b,p,g,he⟩=>?_⟩
  ·have := q b p g
   cases A:nv sp tl d b p with
   |none=>rw[A]at this; cases this
   |some e=>rfl
  ·have := q b p g
   rw[he]at this;exact this
theorem Y'(hm:P.follows .mixedOrders=true)(F:aj P τ){rs:eu}{sp:aA}{fn:Func}(A:P.funcs[sp.f]? = some fn)(hfr:jt sp.aO=true){ra rb rbody rest:Code}{r0 b0 r1 b1 r2:Nat}{ops0 ops1 ops2:Array Oper}
  (O:fn.body=some (.seq ra (.seq rb (.seq (iG r0 b0 r1 b1 r2 ops0 ops1 ops2 rs.t2 rbody) rest)))) {inv:lj} {ps:List iF} {ini:List G→List G} {ri rows:List G→List (List G)} {ci clock:List G→Nat}
  (W:∀ d,(bW P τ az ra ⟨er (sp.args0 d) fn.ntmps,sp.H0 d⟩ fun x s=>match x with | .normal=>bW P τ az rb s .done|_=>.fail).leaf (oz sp.aO.length inv ps)=some (ini d))
  (Y:∀ d,(aF rs.inv d).H[rs.id]? = some (.map rs.K rs.V (ri d) (ci d))) (U:∀ r d d',rs.st r d=some d'→ri d'=ri d∧ci d'=ci d) (him:Nat.blt rs.id sp.aO.length=true) (M:(xu P rs ops0&&xv rs ops1&&xw rs ops2)=true)
  (hr:iH P τ az sp.aO.length rs ops2 rbody) (hu1:∀ d,(aF rs.inv d).fr[rs.t1]? = some .undef) (hu2:∀ d,(aF rs.inv d).fr[rs.t2]? = some .undef) (hut:∀ d,(aF rs.inv d).fr[rs.it]? = some (.lit (.pointer (some ⟨rs.aT d,0,none⟩))))
  {pre:List G→ao} (hy:∀ d,(eg P τ ops0 ops0.toList.dropLast (aF inv d) fun s=>.done .normal s).fg=some (.normal,pre d)) (hx:∀ d,(pre d).eval (.tmp rs.y)=.map rs.id) (hid:∀ d,(pre d).H[rs.id]? = some (.map rs.K rs.V (rows d) (clock d)))
  (hin:∀ d b,gg sp.aO.length rs.inv rs.ps (fR rs.opens (rs.uw (pre d) b))=some (rs.side d b,rs.init d b)) (hadr:∀ d b,rs.aT (rs.init d b)=b) (hri:∀ d b,ri (rs.init d b)=rows d∧ci (rs.init d b)=clock d) {tl:List G→Option (List G)}
  (htl:∀ d,(bW P τ az rest (aF rs.inv d) .done).leaf (fv P fn.results.toList sp)=tl d) {d:List G} (aL:eA (rows (ini d)) (clock (ini d))=true) (hall:∀ b p,p.Perm (rows (ini d))→(nv rs tl (ini d) b p).isSome=true) :
  gR P sp d (BL rs tl (rows (ini d)) (ini d)) id:=by
 have hbo:aN fn=.seq ra (.seq rb (.seq (iG r0 b0 r1 b1 r2 ops0 ops1 ops2 rs.t2 rbody) rest)):=by unfold aN; rw[O]
 obtain⟨hn,hlt⟩:=xq aL;simp only[ay]at M;obtain⟨x,s',g1,g2⟩:=dS hm F (m:=sp.aO.length) ra _ _ (aK _ _ _) (iY (W d));cases x with
 |exit _=>exact g2.elim
 |ret=>exact g2.elim
 |normal =>
 obtain⟨x,s1',g3,g4⟩:=dS hm F (m:=sp.aO.length) rb _ _ (aK _ _ _) g2;cases x with
 |exit _=>exact(by cases g4)
 |ret=>exact(by cases g4)
 |normal =>
 have g4:gg sp.aO.length inv ps s1'=some (true,ini d):=g4;generalize hd2:ini d=d2 at *;have I:∀ b p,p.Perm (rows d2)→rs.side d2 b=true∧∃ d1,bP rs.st rs.aT p (rs.init d2 b)=some d1∧∃ e,tl d1=some e:=fun b p g=>by
  have:=hall b p g;unfold nv at this;cases N:rs.side d2 b with
  |false=>rw[N]at this; cases this
  | true =>
   rw[N]at this;simp only[cond_true]at this;cases A:bP rs.st rs.aT p (rs.init d2 b)with
   |none=>rw[A]at this; cases this
   | some d1 =>
    rw[A]at this;have this:(tl d1).isSome=true:=this;exact⟨rfl,d1,rfl,nM.1 this⟩
 have key:∀ e,∃ q:List G × bB × ao,BL rs tl (rows d2) d2 e→True:=fun e=>⟨([],.normal,⟨[],[]⟩),fun _=>trivial⟩
 let α:=Nat × List (List G)
 have B:∀ o:α,∃ q:List G × bB × ao,o.2.Perm (rows d2)→bP rs.st rs.aT o.2 (rs.init d2 o.1)=some q.1∧cn P sp.aO.length rest (aF rs.inv q.1).den q.2.1 q.2.2.den∧∃ e,tl q.1=some e∧fv P fn.results.toList sp q.2.1 q.2.2=some (true,e):=fun o=>by
  by_cases g:o.2.Perm (rows d2)
  ·obtain ⟨_, d1, h1, e, k⟩ := I o.1 o.2 g
   have R:=htl d1;rw[k]at R;obtain⟨x,s3,k3,k4⟩:=dS hm F (m:=sp.aO.length) rest _ .done (aK _ _ _) (iY R);exact⟨(d1,x,s3),fun _=>⟨h1,k3,e,k,k4⟩⟩
  ·exact⟨([],.normal,⟨[],[]⟩),fun h=>(g h).elim⟩
 obtain⟨q,B⟩:=DR B;have J:∀ o:α,∃ e,o.2.Perm (rows d2)→tl (q o).1=some e∧fv P fn.results.toList sp (q o).2.1 (q o).2.2=some (true,e):=fun o=>by
  by_cases g:o.2.Perm (rows d2)
  ·obtain ⟨_, _, e, h1, k⟩ := B o g
   exact⟨e,fun _=>⟨h1,k⟩⟩
  ·exact⟨[],fun h=>(g h).elim⟩
 obtain⟨res,J⟩:=DR J;have main:gR P sp d (fun o:α=>o.2.Perm (rows d2)) res:=by
  refine BF (x:=fun o=>(q o).2.1) (s0:=fun o=>(q o).2.2) A (by rw[O]; rfl) hfr ?_ fun o g=>(J o g).2;rw[hbo];refine uz g1 (uz (rm g3 (jr g4)) (BE (S:=fun o=>(aF rs.inv (q o).1).den) ?_ fun o g=>(B o g).2.1));intro ro hro E a hs;refine wpIn_mono (NQ hm F (aK _ _ _) hr (Gk M.1.1 M.1.2 M.2) hu1 hu2 hut Y U (by rw[←iA]; exact him) (xA F (hy d2)) (hx d2) (hid d2) hn hlt (fun b=>by rw[hin d2 b,(I b (rows d2) (pn _)).1]) (hadr d2) (hri d2) (fun b p g=>?_) E a hs ro (Gg hro)) fun e a1 w1 hh=>?_
  ·obtain ⟨_, d1, k, _⟩ := I b p g
   rw[k];rfl
  ·obtain ⟨rfl, b, p, d1, g, A, hM⟩ := hh
   have:=(B (b,p) g).1;rw[A]at this;cases this;exact⟨(b,p),g,rfl,hM⟩
 refine fF.mono main fun v H' ⟨o,g,h1,k⟩=>⟨res o,⟨o.1,o.2,g,?_⟩,h1,k⟩
 unfold nv;rw[(I o.1 o.2 g).1,(B o g).1];exact(J o g).1
end Go.AL

namespace Go.AL
open Go Go.Proofs
variable [Dr]
def GG(d:List G):Option (List G):=some [.l (gi d 0).rows,.i (((gi d 1).int.toNat:Nat):Int),.l (gi d 0).rows,.i (((gi d 1).int.toNat:Nat):Int)]
theorem Za{P:Program}{ρ:Go.Shelf.Ren}(L:SlLaysW.n5 P ρ)(K V:Ct)(d r:List G)(h:GG d=some r) :
  cz P (ρ.f 5) (dH (bE [.map K V] d) [.s (.map 0)] (dB 2 d)) (ai (ca (bE [.map K V] d) [.map K V] d))
   (cK (dH (bE [.map K V,.map K V] r) [.s (.map 1)] (dB 4 r))) (ai (ca (bE [.map K V,.map K V] r) [.map K V,.map K V] r)):=by
 have e0:gi d 0=d.headD default:=rfl;have e1:gi d 1=d.tail.headD default:=by
  cases d with
  |nil=>rfl
  |cons x l=>cases l<;>rfl
 unfold GG at h;cases h;rw[e0,e1];generalize M:(d.headD default).rows=rows;generalize R:(d.tail.headD default).int.toNat=clock;intro E cargs hH HE k;simp only[dH,la,eF,ca,fe,ai,List.map_cons,List.map_nil,al.den,dB,cM.sz,eM.sz,Sh.sz,ni,Nat.add_zero,cK]at hH k⊢;rw[M,R]at hH;simp only[List.headD_cons,List.tail_cons,G.rows,G.int,Int.toNat_natCast];obtain⟨cs⟩:=cargs
 match cs,k with
 | [c0],k =>
 simp only[ad,and_true,rel]at k;obtain⟨_,_,N⟩:=k;have F:E.H[0]? = some (af.map (cC K V rows) clock):=by rw[hH]; rfl
 obtain⟨b,n,U,rfl⟩:=N ⟨_,F,rfl⟩;obtain⟨J,g,ms,q,W,O⟩:=HE.obj 0 _ F;have Y:J=b:=by
  rw[U]at q;cases q;rfl
 subst Y;refine(AnyW.maps_Clone L J ms clock E.w W).mono ?_;rintro e w' ⟨rfl,rfl⟩;have B:Ext E.w (E.w.alloc (.map ms clock)):=Ext.push E.w (.map ms clock);have hle:=Env.kn (E:=E) (w':=E.w.alloc (.map ms clock)) (o:=.map (cC K V rows) clock) (l:=some (E.w.heap.size,g)) HE.len B (fun b n h=>by cases h; exact aI _);have hlen:E.loc.length=1:=by rw[HE.len,hH]; rfl
 have A:(E.push (E.w.alloc (.map ms clock)) (.map (cC K V rows) clock) (some (E.w.heap.size,g))).loc[1]? = some (some (E.w.heap.size,g)):=by
  show (E.loc++[_])[1]? = _
  rw[ix (by omega),hlen];rfl
 have hob:aU (E.push (E.w.alloc (.map ms clock)) (.map (cC K V rows) clock) (some (E.w.heap.size,g))) E.H.length (.map (cC K V rows) clock):=by
  rw[show E.H.length=1 by rw[hH]; rfl];simp only[aU];exact⟨_,_,ms,A,DQ E.w (.map ms clock),mS (fun a c h=>cR hle a h) O⟩
 have hhr:=au.push (E:=E) (w':=E.w.alloc (.map ms clock)) (o:=.map (cC K V rows) clock) (l:=some (E.w.heap.size,g)) HE B (fun b n h=>by cases h; exact⟨aI _,by rw[mO]; omega⟩) hob;have I:E.H++[.map (cC K V rows) clock]=[.map (cC K V rows) clock,.map (cC K V rows) clock]:=by rw[hH]; rfl
 refine⟨_,_,_,rfl,⟨rfl,rfl⟩,E.loc++[some (E.w.heap.size,g)],E.X.r,?_,?_,?_⟩
 ·simp only [rel]
  refine⟨⟨_,rfl⟩,⟨.map (cC K V rows) clock,rfl,fun v hv=>kL _⟩,fun _=>⟨E.w.heap.size,g,A,rfl⟩⟩
 ·rw [← I]
  exact hhr
 ·rw [← I]
  exact hle
end Go.AL
