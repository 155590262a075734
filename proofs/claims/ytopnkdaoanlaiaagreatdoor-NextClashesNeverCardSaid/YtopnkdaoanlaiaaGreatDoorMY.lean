/-
 What is proved here: the function that maps.Keys hands back,called with a round's body: each key of the map comes once,in some order. No program in sight; no condition but that the function's text is the library's.
-/
import Derived.Test.YtopnkdaoanlaiaaGreatDoorMG
import Derived.Shelf.SlMaps.Clone
set_option linter.all false
open Array renaming getElem?_push→pY,ext'→eT,getElem?_eq_some_iff→eP,toList_append→r_,replicate→lX,toList_replicate→yh
open Bool renaming and_eq_true→aw
open Classical renaming axiomOfChoice→CB
open Go.Deferred renaming ofValue→Cq
open Go.MapKept renaming heap_set→I3
open Go.Oper renaming semAt_eq→nc
open Go.Region renaming wanted→yg
open Go.World renaming putObj_heap_same→I2,size_alloc→l4,alloc_heap_new→Cy
open List renaming range→fp,length_cons→di,getElem?_map→cq,getElem?_append_right→gx,getElem?_eq_getElem→bE,getD_eq_getElem?_getD→cH,mem_cons→bI,mem_of_getElem?→fK,mem_append→bV,getElem?_of_mem→od,replicate→cI,append_nil→gS,range'→i_,range'_succ→Cr,range_eq_range'→Cs,getElem_mem→sb,mem_filter→ga
open List.Perm renaming refl→sc
open Nat renaming le_refl→aI,le_add_right→eL,zero_add→dO,zero_le→j5,blt_eq→gB,le_of_ble_eq_true→j9
open Option renaming isSome_iff_exists→n_
open Option.some renaming injEq→aT
open Prod.mk renaming injEq→aZ
namespace Go.AL
open Go Go.ChangeMaps
variable [Dr]
def gK(l it:Nat):List AV:=[.lit (.func (.yield l) #[] #[]),.undef,.undef,.undef,.undef,.lit (.pointer (some ⟨it,0,none⟩)),.undef,.undef,.undef,.undef,.undef,.undef,.undef,.undef]
def wI(bS:Array Oper)(r3:Nat):Code:=.seq (.region r3 bS false) (.cond (.tmp 13) .ret .skip)
structure Ff (P:Program) (τ:ah) (K:Ct) (ops0 ops1 ops2 bS:Array Oper):Prop where
 r0:∃ o1 o2 ty,ops0.toList=[o1,o2]∧(o1.guard=none∧o1.op=.load ty (.tmp 1)∧o1.dst=some 4)∧(o2.guard=none∧o2.op=.range ty (.tmp 4)∧o2.dst=some 5)∧(fe P ty).isSome=true∧eo P ty=some (1,false)
 r1:∃ o1 o2,ops1.toList=[o1,o2]∧o1.guard=none∧o1.op=.next (.tmp 5) false∧o1.dst=some 6∧o2.guard=none∧o2.op=.extract (.tmp 6) 0∧o2.dst=some 7
 r2:∃ o1 l,ops2.toList=o1::l∧o1.guard=none∧o1.op=.entry (.tmp 5)∧o1.dst=some 8
 r3:∃ u1 u2 u3 u4 t tys,bS.toList=[u1,u2,u3,u4]∧(u3.guard=none∧u3.op=.call { callee:=.value (.tmp 10),args:=#[.tmp 11],argTypes:=tys }∧u3.dst=some 12)∧(u4.guard=none∧u4.op=.unOp .not t (.tmp 12)∧u4.dst=some 13)
 loc:∀(l it:Nat) (g:List G),∃ s2 s3:al,(ef P τ ops2 (ops2.toList.drop 1) ⟨(gK l it).set 8 (.tuple [K.av g,.undef]),[]⟩ fun s=>.done .normal s).fk=some (.normal,s2) ∧
  (ef P τ bS (bS.toList.take 2) s2 fun s=>.done .normal s).fk=some (.normal,s3)∧s3.fr.length=14∧s3.fr[0]? = some (.lit (.func (.yield l) #[] #[]))∧s3.fr[5]? = some (.lit (.pointer (some ⟨it,0,none⟩)))∧s3.fr[10]? = some (.lit (.func (.yield l) #[] #[]))∧s3.fr[11]? = some (K.av g)
def iz(E:Env):Env:=(gn E).eR
theorem Xw{E:Env}(HE:ar E):ar (iz E):=(EH HE).cP (mn (EH HE))
theorem Fg{E:Env}(b:Nat):¬ (iz E).own b:=by
 rintro(⟨id,c,hid⟩|⟨l,k,c,hk⟩)
 ·simp[iz,gn,Env.eR]at hid
 ·simp[iz,gn,dP,Env.eR]at hk
theorem Xx{E:Env}:E.bG (iz E):=⟨fun b d=>⟨⟨d.1,Fg b,fun g=>g.elim d.2.2 d.2.1⟩,rfl⟩⟩
theorem AN{l it:Nat}{fr:List AV}{H:List af}{E0 E':Env}{a:Act}(g:bj ⟨fr,H⟩ E0 a)(A:∀ b,¬ E0.X.z b)(k:fr.length=14) (h0:fr[0]? = some (.lit (.func (.yield l) #[] #[]))) (B:fr[5]? = some (.lit (.pointer (some ⟨it,0,none⟩)))) (q:ar E') :
  bj ⟨gK l it,[]⟩ (iz E') a:=by
 have hm:bj ⟨gK l it,H⟩ E0 a:=by
  refine⟨g.H,EV g.fr (by rw[k]; rfl) fun j b d=>?_,g.defers,g.heap⟩
  match j,d with
  |0,d=>exact .inr (by rw[h0]; exact d)
  |5,d=>exact .inr (by rw[B]; exact d)
  |1,d=>exact .inl (by cases d; rfl)
  |2,d=>exact .inl (by cases d; rfl)
  |3,d=>exact .inl (by cases d; rfl)
  |4,d=>exact .inl (by cases d; rfl)
  | j+6,d =>
   left;have F:gK l it=[.lit (.func (.yield l) #[] #[]),.undef,.undef,.undef,.undef,.lit (.pointer (some ⟨it,0,none⟩))]++cI 8 .undef:=rfl;rw[F,gx (by simp)]at d;exact(List.mem_replicate.1 (fK d)).2
 refine⟨rfl,EZ hm.fr fun b d=>?_,?_,Xw q⟩
 ·simp only [gK, bI, List.not_mem_nil, or_false] at d
  rcases d with rfl|rfl|rfl|rfl|rfl|rfl|d
  ·exact .inr (.inl ⟨_,rfl⟩)
  ·exact .inl rfl
  ·exact .inl rfl
  ·exact .inl rfl
  ·exact .inl rfl
  ·exact .inr (.inl ⟨_,rfl⟩)
  ·left
   rcases d with rfl|rfl|rfl|rfl|rfl|rfl|rfl|rfl<;>rfl
 ·rw [tk g.defers A]
  exact lb _ _
section ky
variable {P:Program} {τ:ah} {K V:Ct} {ops0 ops1 ops2 bS:Array Oper}
theorem Xy(ht:ai P τ)(U:Ff P τ K ops0 ops1 ops2 bS){f:FuncId}{fn:Func}{r0 r1 r2 r3 b0 b1:Nat}(hf:P.funcs[f]? = some fn) (I:fn.body=some (jo r0 b0 r1 b1 r2 ops0 ops1 ops2 7 (wI bS r3))) (hn:fn.ntmps=14) (hr:fn.results=#[])
  {l mb nn clock:Nat} {rows:List (List G)} (hnd:(rows.map cd).Nodup) (hlt:∀ r∈rows,cd r<clock) (J:List (List G)→Env→Prop) (Y:∀ p E,J p E→ar E)
  (hJs:∀ p E E',J p E→E.le E'→ar E'→E'.H=E.H→J p E')
  (hJa:∀ p E o,J p E→J p { w:=E.w.alloc o,H:=E.H,loc:=E.loc,X:=E.X.or fun b=>b=E.w.heap.size })
  (hJi:∀ p E w' itb,J p E→l<itb→E.X itb→(∃ q c s z,E.w.heap[itb]? = some (.mapIter q c s z))→w'.heap.size=E.w.heap.size→(∀ b,b≠itb→w'.heap[b]? = E.w.heap[b]?)→dq E.w w'→J p { E with w:=w' })
  (hJl:∀ p E,J p E→l<E.w.heap.size)
  (hmap:∀ p E,J p E→E.H[1]? = some (.map (cN K V rows) clock)∧E.loc[1]? = some (some (mb,nn)))
  (hround:∀ p r q E (cs:Array Value),(p++r::q).Perm rows→J p E→ad E [K.av (gi r 0).row] cs.toList→YieldAt (fz none) 0 P l cs E.w fun e W'=>e=.returned (.bool true)∧∃ E',E'.w=W'∧J (p++[r]) E'∧(∀ b,E.X b→E'.X b)∧∀ b,b<E.w.heap.size→E.X b→b≠l→W'.heap[b]? = E.w.heap[b]?)
  {E0:Env} {c:Value} (h0:J [] E0) (hbox:E0.H[0]? = some (.box [.map 1])) (hcp:rel E0 (.ptr 0 0 0 0 0) c) :
  CallsIn (fz none) 0 P f #[.func (.yield l) #[] #[],c] E0.w fun e W'=>(∃ v,e=.returned v)∧∃ E' p,E'.w=W'∧p.Perm rows∧J p E':=by
 obtain⟨o1,o2,ty,q0,⟨g1,p1,d1⟩,⟨g2,p2,d2⟩,hty,hvar⟩:=U.r0;refine callsIn_of_wp_marks hf I trivial ?_;have HE0:=Y _ _ h0;have hsz0:ops0.size=2:=by
  have:ops0.toList.length=2:=by rw[q0]; rfl
  simpa using this
 have hs0:bj ⟨.lit (.func (.yield l) #[] #[])::.ptr 0 0 0 0 0::cI 12 .undef,E0.H⟩ E0.eR { tmps:=#[.func (.yield l) #[] #[],c]++lX (fn.ntmps-2) undef,defers:=[] }:=by
  refine⟨rfl,?_,lb _ _,HE0.cP (mn HE0)⟩;rw[hn];simp only[r_,yh];show ad E0.eR ([.lit (.func (.yield l) #[] #[]),.ptr 0 0 0 0 0]++cI 12 .undef) ([.func (.yield l) #[] #[],c]++cI 12 undef)
  refine jd (by simp only[ad]; exact⟨by simp[rel],sV (mn HE0) _ hcp,trivial⟩) ?_;exact qt (cI 12 undef)
 refine wpIn_seq (wpIn_region ?_);rw[hsz0];show wpOpsIn (fz none) 0 P ops0 _ (i_ 0 1++[1]) _ E0.w
 refine EY (pf:=fun _=>false) (J:=J []) (l:=[o1]) (k:=0) (hJs []) (fun j o A=>?_) hs0 h0 (fr':=(.lit (.func (.yield l) #[] #[])::.ptr 0 0 0 0 0::cI 12 .undef).set 4 (.map 1)) ?_ fun a1 d hj1 W=>?_
 ·have hlt : j < 1 := by simpa using aJ A
  have:j=0:=by omega
  subst this;rw[iQ q0];exact A
 ·refine gJ (v := .map 1) (Ay g1 (by rw [p1]; rfl) ?_) d1 qV
  rw[p1];show fN P ty (.ptr 0 0 0 0 0) E0.H=_
  unfold fN;rw[hvar];simp only[hbox,and_self,if_true];rfl
 obtain⟨hm1,hm2⟩:=hmap _ _ hj1;have hrx:rel d.eR (.map 1) (a1.eval (.tmp 4)):=by
  have:=W.eval (.tmp 4);simpa[St.eval]using this
 obtain⟨O,n',ms0,hc,hloc,hmb,hre⟩:=sJ (E:=d.eR) W.heap hm1 hrx;have hmbe:O=mb:=by
  have h:d.loc[1]? = some (some (O,n')):=hloc;rw[hm2]at h;simp only[aT,aZ]at h;exact h.1.symm
 subst hmbe;obtain⟨⟨kt,et⟩,hty⟩:=n_.1 hty;rw[wpOpsIn_cons];refine kE (show ops0[1]? = some o2 by rw[iQ q0]; rfl) g2 (L4 p2 hc (run_range_map d.w ty kt et O ms0 clock (iN hty) hmb)) (fun c e=>by rw[p2]at e; cases e) none ?_;rw[d2];show (Code.block _ _).wpIn (fz none) 0 P _ _ _
 obtain⟨itb,hitb⟩:∃ itb,itb=d.w.heap.size:=⟨_,rfl⟩
 generalize R:d.w.alloc (.mapIter (some O) clock #[] clock)=F;have hj2:=hJa [] d (.mapIter (some O) clock #[] clock) hj1;rw[R]at hj2;have hitn:F.heap[itb]? = some (.mapIter (some O) clock #[] clock):=by rw[←R,hitb]; exact(show (d.w.heap.push _)[d.w.heap.size]? = _ by simp)
 have hd1:a1.defers=[]:=tk W.defers fun _ h=>h;obtain⟨a2,ha2⟩:∃ a2,a2=a1.put (some 5) (.pointer (some ⟨d.w.heap.size,0,none⟩)):=⟨_,rfl⟩
 have hs2:bj ⟨gK l itb,[]⟩ (iz { w:=F,H:=d.H,loc:=d.loc,X:=d.X.or fun b=>b=d.w.heap.size }) a2:=by
  have hp:=W.ix 5 (v:=.lit (.pointer (some ⟨d.w.heap.size,0,none⟩))) (u:=.pointer (some ⟨d.w.heap.size,0,none⟩)) (by simp[rel]);rw[ha2];exact AN hp (fun _ h=>h) rfl (by rfl) (by rw[hitb]; rfl) (Y _ _ hj2)
 rw[show (a1.put (some 5) (.pointer (some ⟨d.w.heap.size,0,none⟩)))=a2 from ha2.symm];have hlt_l:l<itb:=by
  have:=hJl _ _ hj1;omega
 have hne_l:itb≠l:=by omega
 refine wpIn_block (wpIn_loop (fun a w=>∃(E:Env) (p:List (List G)) (seen:Array Nat) (last:Nat),E.w=w∧J p E∧E.X itb∧w.heap[itb]? = some (.mapIter (some O) clock seen last)∧clock≤last∧(p++rows.filter fun x => !seen.contains (cd x)).Perm rows∧bj ⟨gK l itb,[]⟩ (iz E) a)
  (fun _ w=>(rows.filter fun x => !(w.iterSeen itb).contains (cd x)).length) ⟨_,[],#[],clock,rfl,hj2,.inr hitb,hitn,aI _,?_,hs2⟩ ?_)
 ·have : (rows.filter fun x => !(#[] : Array Nat).contains (cd x)) = rows := List.filter_eq_self.2 (fun x _ => by simp)
  rw[List.nil_append,this]
 rintro a _ ⟨E,p,seen,last,rfl,hj,hXi,hit,hcl,hp,hs⟩;have HE:=Y _ _ hj;obtain⟨hmE1,hmE2⟩:=hmap _ _ hj;have hob:=HE.obj 1 _ hmE1;simp only[aO]at hob;obtain⟨B,nn2,ms,hlo2,hmb2,hre2⟩:=hob;have hmbe2:B=O:=by
  have h:=hlo2;rw[hmE2]at h;simp only[aT,aZ]at h;exact h.1.symm
 subst hmbe2;have hne:B≠itb:=fun e=>(HE.lt 1 B nn hmE2).2 (by rw[e]; exact hXi);obtain⟨i1,i2,e1,ga1,pa1,qa1,ga2,pa2,qa2⟩:=U.r1;obtain⟨o3,l2,e3,gb,pb,qb⟩:=U.r2;obtain⟨u1,u2,u3,u4,t7,tys,e4,⟨gc3,pc3,dc3⟩,⟨gc4,pc4,dc4⟩⟩:=U.r3;have hsz1:ops1.size=2:=by
  have:ops1.toList.length=2:=by rw[e1]; rfl
  simpa using this
 have hiv:a.eval (.tmp 5)=.pointer (some ⟨itb,0,none⟩):=by
  have:=hs.eval (.tmp 5);simpa[St.eval,gK,rel]using this
 obtain⟨hlen,hen⟩:=fF.1 hre2;have hl1:(cN K V rows).length=rows.length:=by simp[cN]
 have row_of:∀(i:Nat) (e:MapEntry),ms.toList[i]? = some e→∃ r,rows[i]? = some r∧e.born=cd r:=by
  intro i e hi;have h1:=aJ hi;have M:i<rows.length:=by omega
  refine⟨rows[i],bE M,?_⟩;exact(hen i (K.av (gi rows[i] 0).row,V.av (gi rows[i] 1).row,(gi rows[i] 2).int.toNat) e (by simp[cN,M]) hi).2.2.1
 have hold:∀ x∈ms.toList,x.born<clock:=by
  intro x hx;obtain⟨i,hi⟩:=od hx;obtain⟨r,h1,M⟩:=row_of i x hi;rw[M];exact hlt r (fK h1)
 have hbn:(ms.toList.map (·.born)).Nodup:=by
  have:ms.toList.map (·.born)=rows.map cd:=by
   apply List.ext_getElem?;intro i;simp only[cq];cases hi:ms.toList[i]? with
   | none =>
    have h1:=List.getElem?_eq_none_iff.1 hi;rw[List.getElem?_eq_none (by omega)];rfl
   | some e =>
    obtain⟨r,h1,M⟩:=row_of i e hi;rw[h1];simp[M]
  rw[this];exact hnd
 have hu6:(⟨gK l itb,[]⟩:St).fr[6]? = some .undef:=rfl;have hu7:(⟨gK l itb,[]⟩:St).fr[7]? = some .undef:=rfl;have hlt6:=Al hs hu6;have hlt7:=Al hs hu7;have hz:∀ b,¬ (iz E).X.z b:=fun _ h=>h;refine wpIn_seq (wpIn_region ?_);rw[hsz1];show wpOpsIn (fz none) 0 P ops1 _ [0,1] a E.w
 rw[wpOpsIn_cons];rcases run_next_at (P:=P) E.w i1.type itb B clock last seen ms clock hit hmb2 hold hcl with⟨hz0,hrun⟩|⟨e,he,w1,hw1,hrun⟩
 ·refine kE (show ops1[0]? = some i1 by rw [iQ e1]; rfl) ga1 (An pa1 hiv hrun) (fun c e => by rw [pa1] at e; cases e) none ?_
  rw[qa1,wpOpsIn_cons];refine kE (show ops1[1]? = some i2 by rw[iQ e1]; rfl) ga2 (Am pa2 (pr hlt6) rfl) (fun c e=>by rw[pa2]at e; cases e) none ?_;rw[qa2];show (Code.seq _ _).wpIn (fz none) 0 P _ _ E.w
  refine wpIn_seq (wpIn_cond_false (pr (by simpa[Act.put]using hlt7)) (wpIn_exit ?_));simp only[Exit.then,Exit.inBlock,if_true];have hsf:=(hs.pv hu6 (.tuple #[.bool false])).pv hu7 (.bool false);have hd:((a.put (some 6) (.tuple #[.bool false])).put (some 7) (.bool false)).defers=[]:=tk hsf.defers fun _ h=>h;show LeavesInM (fz none) 0 P fn ((a.put (some 6) (.tuple #[.bool false])).put (some 7) (.bool false)).tmps _ ((a.put (some 6) (.tuple #[.bool false])).put (some 7) (.bool false)).defers .returning E.w
  rw[hd];refine⟨.tuple #[],?_,⟨_,rfl⟩,E,p,rfl,?_,hj⟩
  ·rw [sU, hr]
   simp
  ·have:(rows.filter fun x => !seen.contains (cd x))=[]:=by
    rw[List.filter_eq_nil_iff];intro x hx hc;obtain⟨i,hi⟩:=od hx;have h1:=aJ hi;have M:i<ms.toList.length:=by omega
    obtain⟨r,h3,h4⟩:=row_of i _ (bE M);rw[hi]at h3;cases h3;have:ms.toList[i]∈(leftOf ms seen).toList:=by
     unfold leftOf;rw[Array.toList_filter];refine ga.2 ⟨sb M,?_⟩;rw[h4];exact hc
    have h5:(leftOf ms seen).toList.length=0:=by simpa using hz0
    rw[List.length_eq_zero_iff.1 h5]at this;cases this
   rwa [this,gS]at hp
 ·refine kE (show ops1[0]? = some i1 by rw [iQ e1]; rfl) ga1 (An pa1 hiv hrun) (fun c e => by rw [pa1] at e; cases e) none ?_
  rw[qa1,wpOpsIn_cons];refine kE (show ops1[1]? = some i2 by rw[iQ e1]; rfl) ga2 (Am pa2 (pr hlt6) rfl) (fun c e=>by rw[pa2]at e; cases e) none ?_;rw[qa2];show (Code.seq _ _).wpIn (fz none) 0 P _ _ _
  refine wpIn_seq (wpIn_cond_true (pr (by simpa[Act.put]using hlt7)) (wpIn_skip ?_));show (Code.block _ _).wpIn (fz none) 0 P _ _ _
  refine wpIn_block (wpIn_seq (wpIn_region ?_));generalize R:setBlock w1 itb (.mapIter (some B) clock (seen.push e.born) clock)=F;have hw1h:w1.heap=E.w.heap:=by rcases hw1 with rfl|rfl<;>rfl
  have hos:dq E.w F:=by rw[←R]; rcases hw1 with rfl|rfl<;>exact⟨rfl,rfl,rfl,by first|exact fun _=>aI _|exact fun _=>eL _ _⟩
  have hit2':F.heap[itb]? = some (.mapIter (some B) clock (seen.push e.born) clock):=by
   rw[←R];exact(I3 (by rw[hw1h]; exact hit)).1
  have hother:∀ b,b≠itb→F.heap[b]? = E.w.heap[b]? := by
   intro b I;rw[←R];show (w1.heap.setIfInBounds itb _)[b]? = _
   rw[(I3 (by rw[hw1h]; exact hit)).2 b I,hw1h]
  have hsize:F.heap.size=E.w.heap.size:=by
   rw[←R];show (w1.heap.setIfInBounds itb _).size=_
   simp[hw1h]
  have hjw:=hJi p E F itb hj hlt_l hXi ⟨_,_,_,_,hit⟩ hsize hother hos;obtain⟨g,hE2⟩:∃ g:Env,g={ E with w:=F }:=⟨_,rfl⟩
  rw[←hE2]at hjw;have hE2w:g.w=F:=by rw[hE2]
  have HE2:=Y _ _ hjw;have hX2:g.X itb:=by rw[hE2]; exact hXi
  have W:=(hs.pv hu6 (.tuple #[.bool true,e.key,e.val])).pv hu7 (.bool true);have hs2:bj ⟨gK l itb,[]⟩ (iz g) _:=AN W hz rfl rfl rfl HE2;obtain⟨hem,hes⟩:=mem_left he;obtain⟨i,hi⟩:=od hem;obtain⟨r,hri,hrb⟩:=row_of i e hi;have hrm:=fK hri;have hkc:(K.av (gi r 0).row).closed=true:=K.zd _;have k1:rel g (K.av (gi r 0).row) e.key:=by
   obtain⟨hmE1',hmE2'⟩:=hmap _ _ hjw;have hob:=HE2.obj 1 _ hmE1';simp only[aO]at hob;obtain⟨mb3,nn3,ms3,hlo3,hmb3,hre3⟩:=hob;have h3:mb3=B:=by
    have h:=hlo3;rw[hmE2']at h;simp only[aT,aZ]at h;exact h.1.symm
   subst h3;have hmm:ms3=ms:=by
    rw[hE2w,hother mb3 hne,hmb2]at hmb3;cases hmb3;rfl
   subst hmm;exact((fF.1 hre3).2 i (K.av (gi r 0).row,V.av (gi r 1).row,(gi r 2).int.toNat) e (by simp[cN,hri]) hi).1
  have k1h:rel (iz g) (K.av (gi r 0).row) e.key:=dI Xx _ hkc k1;have hsz2:ops2.size=l2.length+1:=by
   have:ops2.toList.length=l2.length+1:=by rw[e3]; rfl
   simpa using this
  have hl2:ops2.toList.drop 1=l2:=by rw[e3]; rfl
  obtain⟨s2,s3,hv2,hv3,f14,f0,f5,f10,f11⟩:=U.loc l itb (gi r 0).row;have ao2:=Ax ht hv2;have ao3:=Ax ht hv3;have hlp:(p++(r::rows.filter fun x => !(seen.push (cd r)).contains (cd x))).Perm rows :=
   (List.Perm.append_left p (wo hnd hrm (by rw[←hrb]; exact hes)).symm).trans hp
  have hmb2':F.heap[B]? = some (.map ms clock):=by rw[hother B hne]; exact hmb2
  rw[hsz2,Cs,Cr,wpOpsIn_cons];have hiv1:((a.put (some 6) (.tuple #[.bool true,e.key,e.val])).put (some 7) (.bool true)).eval (.tmp 5)=.pointer (some ⟨itb,0,none⟩):=by
   have:=hs2.eval (.tmp 5);simpa[St.eval,gK,rel]using this
  refine kE (show ops2[0]? = some o3 by rw[iQ e3]; rfl) gb (L3 pb hiv1 (run_entry_at (P:=P) F itb B clock seen ms clock e hit2' hmb2' hem hbn)) (fun c e=>by rw[pb]at e; cases e) none ?_;rw[qb];have hs3:=hs2.ix 8 (v:=.tuple [K.av (gi r 0).row,.undef]) (u:=.tuple #[e.key,e.val]) (by simp only[rel]; exact⟨_,rfl,by simp only[ad]; exact⟨k1h,by simp[rel],trivial⟩⟩);have hnil:i_ (0+1) l2.length=i_ 1 l2.length++[]:=by rw[gS,dO]
  rw[hnil];rw[←hE2w];refine pq (pf:=τ.pf) none l2 1 _ _ (iz g) _ [] (fun j o A=>?_) (by rw[hl2]at ao2; exact ao2) hs3 fun a4 w4 hc4=>?_
  ·rw [iQ e3]
   rw[Nat.add_comm];exact A
  obtain⟨loc4,rr4,hs4,hle4⟩:=hc4;show (wI bS r3).wpIn (fz none) 0 P _ a4 w4
  have hsz3:bS.size=4:=by
   have:bS.toList.length=4:=by rw[e4]; rfl
   simpa using this
  refine wpIn_seq (wpIn_region ?_);rw[hsz3];show wpOpsIn (fz none) 0 P bS _ (i_ 0 2++[2,3]) a4 w4
  refine pq (pf:=τ.pf) none [u1,u2] 0 _ _ { w:=w4,H:=s2.den.H,loc:=loc4,X:=(iz g).X.re rr4 } a4 [2,3] (fun j o A=>?_) (by rw[e4]at ao3; exact ao3) hs4 fun a5 N hc5=>?_
  ·rw [iQ e4, dO]
   have hlt:j<2:=by simpa using aJ A
   match j,A with
   |0,A=>exact A
   |1,A=>exact A
  obtain⟨loc5,rr5,hs5,hle5⟩:=hc5;have hle:=hle4.trans hle5;have hext:Ext g.w N:=⟨hle.size,fun b I=>hle.same b I (Fg b),hle.env⟩
  have hj5:J p { g with w:=N }:=hJs p g _ hjw (Env.gd hext) (HE2.ext hext) rfl;have h10:a5.eval (.tmp 10)=.func (.yield l) #[] #[]:=by
   have:=hs5.eval (.tmp 10);have e:s3.den.eval (.tmp 10)=.lit (.func (.yield l) #[] #[]):=by
    show s3.fr.getD 10 .undef=_
    rw[cH,f10];rfl
   rw[e]at this;simpa only[rel]using this
  have hk5:rel { g with w:=N } (K.av (gi r 0).row) (a5.eval (.tmp 11)):=by
   have:=hs5.eval (.tmp 11);have e:s3.den.eval (.tmp 11)=K.av (gi r 0).row:=by
    show s3.fr.getD 11 .undef=_
    rw[cH,f11];rfl
   rw[e]at this;have hlc:Env.bG { w:=N,H:=s3.den.H,loc:=loc5,X:=((iz g).X.re rr4).re rr5 } { g with w:=N }:=⟨fun b I=>⟨⟨I.1,fun U=>I.2.2 (.inr U),fun hx=>I.2.2 (.inl hx)⟩,rfl⟩⟩
   exact dI hlc _ hkc this
  obtain⟨fn',tmps',asg,bod,hy1,hR⟩:=hround p r _ { g with w:=N } #[a5.eval (.tmp 11)] hlp hj5 (by simp only[ad]; exact⟨hk5,trivial⟩);rw[wpOpsIn_cons];unfold wpOpIn;have hp2:bS[2]? = some u3:=by rw[iQ e4]; rfl
  simp only[hp2];rw[if_pos (by simp[yg,gc3])];refine⟨fun _ _=>trivial,?_⟩;rw[nc _ _ _ (fun c e=>by rw[pc3]at e; cases e)];have hrun2:(execOp a5.eval u3).run P N=.ok (.round l fn' tmps' asg bod) N:=by
   obtain⟨dst,op,type,pos,after,guard⟩:=u3;simp only[]at pc3;subst pc3;simp[execOp,resolve,h10,Cq,invoke,hy1]
  rw[hrun2,Oper.uponIn_round];refine⟨fun h=>(by cases h),hR.mono ?_⟩;rintro ee _ ⟨rfl,E',rfl,hj',hXk,hkeep⟩;show wpOpsIn (fz none) 0 P bS _ (i_ 3 1++[]) _ E'.w
  rw[dc3];have hd5:a5.defers=[]:=tk hs5.defers fun _ h=>h;have HE':=Y _ _ hj';have hs6:bj ⟨gK l itb,[]⟩ (iz E') a5:=AN hs5 (fun _ h=>h) f14 f0 f5 HE';have hs7:=hs6.ix 12 (v:=.lit (.bool true)) (u:=.bool true) (by simp[rel]);have ao4:eO P τ.pf bS [u4] ⟨(gK l itb).set 12 (.lit (.bool true)),[]⟩ ⟨((gK l itb).set 12 (.lit (.bool true))).set 13 (.lit (.bool false)),[]⟩:=gJ (v:=.lit (.bool false)) (jq gc4 (by rw[pc4]; rfl) (by rw[pc4]; rfl)) dc4 qV;refine pq (pf:=τ.pf) none [u4] 3 _ _ (iz E') _ [] (fun j o A=>?_) ao4 hs7 fun a8 w8 hc8=>?_
  ·have hlt : j < 1 := by simpa using aJ A
   have:j=0:=by omega
   subst this;rw[iQ e4];exact A
  obtain⟨loc8,rr8,hs8,hle8⟩:=hc8;have hext8:Ext E'.w w8:=⟨hle8.size,fun b I=>hle8.same b I (Fg b),hle8.env⟩
  have hj8:J (p++[r]) { E' with w:=w8 }:=hJs _ E' _ hj' (Env.gd hext8) (HE'.ext hext8) rfl;show (Code.cond _ _ _).wpIn (fz none) 0 P _ _ _
  have h13:a8.eval (.tmp 13)=.bool false:=by
   have:=hs8.eval (.tmp 13);simpa[St.eval,gK,rel]using this
  refine wpIn_cond_false h13 (wpIn_skip ?_);have hilt:itb<F.heap.size:=th hit2';have hit5:N.heap[itb]? = some (.mapIter (some B) clock (seen.push e.born) clock):=by
   rw[hext.same itb (by rw[hE2w]; exact hilt),hE2w];exact hit2'
  have hit6:E'.w.heap[itb]? = some (.mapIter (some B) clock (seen.push e.born) clock):=by
   rw[hkeep itb (th hit5) hX2 hne_l];exact hit5
  have hit8:w8.heap[itb]? = some (.mapIter (some B) clock (seen.push e.born) clock):=by
   rw[hext8.same itb (th hit6)];exact hit6
  refine⟨⟨_,p++[r],seen.push e.born,clock,rfl,hj8,hXk itb hX2,hit8,aI _,?_,AN hs8 (fun _ h=>h) rfl rfl rfl (Y _ _ hj8)⟩,?_⟩
  ·rw [hrb, List.append_assoc]
   exact hlp
  ·show (rows.filter fun x => !(w8.iterSeen itb).contains (cd x)).length < (rows.filter fun x => !(E.w.iterSeen itb).contains (cd x)).length
   rw[Ao hit8,Ao hit];have:=(wo hnd hrm (by rw[←hrb]; exact hes)).length_eq;rw[←hrb]at this;simp only[di]at this;omega
end ky
end Go.AL

namespace Go.AL
open Go Go.ChangeMaps
variable [Dr]
def lJ(P:Program)(m:Nat)(c:Code)(s:St){α:Type}(Ps:α→Prop)(X:α→bk)(S:α→St):Prop :=
 ∀(ro:Option Nat),fg ro c→∀(E:Env) (a:Act),bj s E a→c.wpIn (fz ro) 0 P (fun e d g=>∃ p,Ps p∧e=(X p).toExit∧dt m E (S p) d g) a E.w
section Xz
variable {P:Program} {m:Nat} {s s' s1:St} {x:bk} {α:Type} {Ps:α→Prop} {X:α→bk} {S S':α→St}
theorem tx{c1 c2:Code}(h1:bU P m c1 s .normal s1)(g:lJ P m c2 s1 Ps X S):lJ P m (.seq c1 c2) s Ps X S:=fun ro d E a k =>
 wpIn_seq (wpIn_mono (h1 ro d.seq1 E a k) fun e q M ⟨he,loc,X,A,B⟩=>by
  subst he;exact wpIn_mono (g ro d.y6 _ q A) fun e a2 N ⟨p,F,I,J⟩=>⟨p,F,I,dt.after B J⟩)
theorem AO{c1 c2:Code}(h1:lJ P m c1 s Ps (fun _=>.normal) S)(k:∀ p,Ps p→bU P m c2 (S p) (X p) (S' p)):lJ P m (.seq c1 c2) s Ps X S':=fun ro d E a q =>
 wpIn_seq (wpIn_mono (h1 ro d.seq1 E a q) fun e A M ⟨p,g,he,loc,X,B,F⟩=>by
  subst he;exact wpIn_mono (k p g ro d.y6 _ A B) fun e a2 N ⟨I,J⟩=>⟨p,g,I,dt.after F J⟩)
theorem XA{id:Nat}{c:Code}(h:lJ P m c s Ps (fun _=>.normal) S):lJ P m (.block id c) s Ps (fun _=>.normal) S:=fun ro d E a g =>
 wpIn_block (wpIn_mono (h ro d.block E a g) fun e q A ⟨p,k,he,h⟩=>by
  subst he;exact⟨p,k,rfl,h⟩)
end Xz
structure Fh (P:Program) (m:Nat) (K:Ct) (rows:List (List G)) (p0:Tmp) (assign body:Code) (S:List (List G)→St):Prop where
 na:d_ assign=true
 nb:d_ body=true
 fix:∀ p,kG m (S p).fr=true
 round:∀ p r q,(p++r::q).Perm rows→∃ s1 s2,bU P m assign ⟨(S p).fr.set p0 (K.av (gi r 0).row),(S p).H⟩ .normal s1∧bU P m body s1 .normal s2∧bL m ⟨(S p).fr,s2.H⟩ (S (p++[r]))
section XB
variable {P:Program} {m:Nat} {K V:Ct} {rows:List (List G)} {p0:Tmp} {assign body:Code} {S:List (List G)→St}
theorem XC(hr:Fh P m K rows p0 assign body S){p q:List (List G)}{r:List G}(hp:(p++r::q).Perm rows){fn:FuncId}{D l:Nat}{a:Act}{tmps:Array Value}(htm:tmps=a.tmps){E:Env}(d:bj (S p) E a)(hX:E.X l)
  (J:E.w.heap[l]? = some (.loop { state:=.ready,pending:=none,fn,tmps,params:=#[p0],assign,body,defers:=D })) {cs:Array Value} (hc:ad E [K.av (gi r 0).row] cs.toList) :
  YieldAt (fz none) 0 P l cs E.w fun e W'=>e=.returned (.bool true)∧∃ E',E'.w=W'∧bj (S (p++[r])) E' a∧E.dx m E'∧E'.X l ∧
   E'.w.heap[l]? = some (.loop { state:=.ready,pending:=none,fn,tmps,params:=#[p0],assign,body,defers:=D }):=by
 obtain⟨s1,s2,hA,hB,hle⟩:=hr.round p r q hp;obtain⟨k,rfl⟩:∃ k,cs=#[k]:=by
  have:=fv hc
  match h:cs.toList,this with
  | [k],_=>exact⟨k,eT (by simpa using h)⟩
 simp only[ad]at hc;obtain⟨hc0,_⟩:=hc;refine⟨_,_,_,_,run_yield J (by simp),roundIn_of_wpIn (F:=fz none) trivial ?_⟩;have U:l<E.w.heap.size:=(eP.1 J).1;have hs0:bj ⟨(S p).fr.set p0 (K.av (gi r 0).row),(S p).H⟩ E { tmps:=a.tmps.setIfInBounds p0 k,defers:=[] }:=by
  refine⟨d.H,?_,lb _ _,d.heap⟩;simp only[Array.toList_setIfInBounds];exact vo p0 d.fr hc0
 have e0:((#[p0]:Array Tmp).zip #[k]).foldl (fun tmps (t,a)=>tmps.setIfInBounds t a) tmps=a.tmps.setIfInBounds p0 k:=by
  rw[htm];simp[←Array.foldl_toList]
 rw[e0];refine wpIn_mono (hA (some l) (.inr hr.na) E _ hs0) fun e a1 A ⟨he,loc1,X1,W,B⟩=>?_;subst he;have hno:¬ E.own l:=d.heap.j_ hX;have Y:A.heap[l]? = some (.loop { state:=.ready,pending:=none,fn,tmps,params:=#[p0],assign,body,defers:=D }):=by rw[B.same l U hno]; exact J
 have hX1:X1 l:=(B.X l U).1.2 hX;have O:l<A.heap.size:=(eP.1 Y).1;refine⟨_,run_beginRound Y rfl,?_⟩;have hs1':=W.cP (tq (o:=.loop { state:=.busy,pending:=none,fn,tmps,params:=#[p0],assign,body,defers:=D }) hX1 W.heap) (Az W.defers Y);refine wpIn_mono (hB (some l) (.inr hr.nb) _ a1 hs1') fun e a2 w3 ⟨he,iR,M,hs2,R⟩=>?_;subst he;have hno1:¬ Env.own { w:=A,H:=s1.H,loc:=loc1,X:=X1 } l:=B.own l U hno;have hl3:w3.heap[l]? = some (.loop { state:=.busy,pending:=none,fn,tmps,params:=#[p0],assign,body,defers:=D }):=by
  rw[R.same l (by show l<(A.putObj _ _).heap.size; simpa using O) hno1];exact I2 O
 have hX2:M l:=(R.X l (by show l<(A.putObj _ _).heap.size; simpa using O)).1.2 hX1;have hlt3:l<w3.heap.size:=(eP.1 hl3).1;refine⟨_,_,run_endRound (P:=P) none hl3,rfl,?_⟩;obtain⟨g,I⟩:∃ g,w3.putObj l (.loop { state:=.ready,pending:=none,fn,tmps,params:=#[p0],assign,body,defers:=D })=g:=⟨_,rfl⟩
 have hl4:g.heap[l]? = some (.loop { state:=.ready,pending:=none,fn,tmps,params:=#[p0],assign,body,defers:=D }):=by
  rw[←I];exact I2 hlt3
 have N:E.dx m { w:=g,H:=s2.H,loc:=iR,X:=M }:=by
  refine Env.lF.toM (l:=l) (B.toX.trans (tt.trans (R.toX.trans ?_))) (fun _=>by rw[show Env.w _=g from rfl,hl4,J]);rw[←I];exact tt
 have hR4:ar { w:=g,H:=s2.H,loc:=iR,X:=M }:=by
  rw[←I];exact hs2.heap.cP (tq hX2 hs2.heap)
 have hsr:bj ⟨(S p).fr,s2.H⟩ { w:=g,H:=s2.H,loc:=iR,X:=M } a:=by
  refine⟨rfl,tn N _ (hr.fix p) d.fr,uX d.defers (fun b h1 h2=>?_) (fun b h1 _=>N.same b (d.heap.X b h1) (d.heap.j_ h1)),hR4⟩;have:=N.X b (d.heap.X b h1);exact⟨this.1.2 h1,this.2.2 h2⟩
 obtain⟨loc7,X7,hs7,hle7⟩:=hle _ a hsr;refine⟨{ w:=g,H:=(S (p++[r])).H,loc:=loc7,X:=X7 },?_,hs7,N.trans hle7,(hle7.X l (by show l<g.heap.size; exact(eP.1 hl4).1)).1.2 hX2,hl4⟩;rw[←I];rfl
theorem XD{E:Env}{o:Obj}(HE:ar E):gh E { w:=E.w.alloc o,H:=E.H,loc:=E.loc,X:=E.X.or fun b=>b=E.w.heap.size } :=
 ⟨rfl,rfl,by rw[l4]; omega,fun b d g=>⟨fun h=>h.elim g fun e=>by omega,by
   show (E.w.heap.push _)[b]? = _
   rw[pY,if_neg (by omega)]⟩,fun b d=>by
   show b<(E.w.alloc o).heap.size
   rw[l4];rcases d with h|h
   ·have := HE.X b h
    omega
   ·omega,rfl⟩
theorem XE{E:Env}{o:Obj}:E.dx m { w:=E.w.alloc o,H:=E.H,loc:=E.loc,X:=E.X.or fun b=>b=E.w.heap.size } :=
 ⟨fun _ _ h=>h,by show E.w.heap.size≤(E.w.alloc o).heap.size; rw[l4]; omega,fun b d _=>by
   show (E.w.heap.push _)[b]? = _
   rw[pY,if_neg (by omega)],fun _ _ h=>h,fun _ _ _ h=>⟨h,rfl⟩,fun b d=>⟨⟨fun h=>h.elim id fun e=>by omega,.inl⟩,Iff.rfl⟩,fun _ _ h=>⟨h,fun _ g=>g⟩,⟨rfl,rfl,rfl,by first|exact fun _=>aI _|exact fun _=>eL _ _⟩⟩
theorem XF(hm:2≤m){τ:ah}{ops0 ops1 ops2 bS:Array Oper}(ht:ai P τ)(ho:Ff P τ K ops0 ops1 ops2 bS){f:FuncId}{fd:Func}{r0 r1 r2 r3 b0 b1:Nat}(hf:P.funcs[f]? = some fd)(hbd:dE P f=true)
  (k:fd.body=some (jo r0 b0 r1 b1 r2 ops0 ops1 ops2 7 (wI bS r3))) (hn:fd.ntmps=14) (hre:fd.results=#[]) {clock:Nat} (hnd:(rows.map cd).Nodup) (R:∀ r∈rows,cd r<clock)
  (hr:Fh P m K rows p0 assign body S) (hS:∀ p,(S p).H[1]? = some (.map (cN K V rows) clock)) (hS0:(S []).H[0]? = some (.box [.map 1]))
  {g:Tmp} {s:St} (hg:s.eval (.tmp g)=.clo f [.ptr 0 0 0 0 0]) (h0:bL m s (S [])) (hH1:s.H[1]? = some (.map (cN K V rows) clock))
  (E:Env) (a:Act) (I:bj s E a):(Code.rangeFunc (.tmp g) #[p0] assign body).wpIn (fz none) 0 P (fun e a1 A=>e=.normal∧∃ p,p.Perm rows∧dt m E (S p) a1 A) a E.w:=by
 have W:=I.eval (.tmp g);rw[hg]at W;simp only[rel]at W;obtain⟨cs,W,hcs⟩:=W;obtain⟨c,rfl⟩:∃ c,cs=#[c]:=by
  have:=fv hcs
  match h:cs.toList,this with
  | [c],_=>exact⟨c,eT (by simpa using h)⟩
 have hcp:rel E (.ptr 0 0 0 0 0) c:=hcs.1;have hH1E:E.H[1]? = some (.map (cN K V rows) clock):=by rw[I.H]; exact hH1
 obtain⟨mb,nn,_,hloc1,_,_⟩:=I.heap.obj 1 _ hH1E;have hpast1:E.past 1 0:=⟨_,hH1E,fun v _=>j5 _⟩
 obtain⟨D,hD⟩:∃ D,E.w.heap.size=D:=⟨_,rfl⟩
 refine wpIn_rangeFunc ?_;intro fn _;obtain⟨rec,O⟩:∃ rec:Loop,rec={ state:=.ready,pending:=none,fn,tmps:=a.tmps,params:=#[p0],assign,body,defers:=D }:=⟨_,rfl⟩
 obtain⟨A,Y⟩:∃ A,(E.w.alloc (.deferred (some []))).alloc (.loop rec)=A:=⟨_,rfl⟩
 have hsz:A.heap.size=D+2:=by rw[←Y,l4,l4,hD]
 have hl1:A.heap[D+1]? = some (.loop rec):=by
  rw[←Y];have:=Cy (E.w.alloc (.deferred (some []))) (.loop rec)
  rwa [l4,hD]at this
 have hold2:∀ b,b<D+1→A.heap[b]? = (E.w.alloc (.deferred (some []))).heap[b]? := fun b k=>by
  rw[←Y];show ((E.w.alloc (.deferred (some []))).heap.push _)[b]? = _
  rw[pY,if_neg (by rw[l4,hD]; omega)]
 have hD1:A.heap[D]? = some (.deferred (some [])):=by
  rw[hold2 D (by omega)];have:=Cy E.w (.deferred (some []))
  rwa [hD]at this
 have hold:∀ b,b<D→A.heap[b]? = E.w.heap[b]? := fun b k=>by
  rw[hold2 b (by omega)];show (E.w.heap.push _)[b]? = _
  rw[pY,if_neg (by omega)]
 have hos:dq E.w A:=by rw[←Y]; exact⟨rfl,rfl,rfl,by first|exact fun _=>aI _|exact fun _=>eL _ _⟩
 obtain⟨J,F⟩:∃ J:XS,J=⟨fun b=>E.X b∨b=D∨b=D+1,fun b=>E.X.z b∨b=D,E.X.r⟩:=⟨_,rfl⟩
 obtain⟨mk,hmk⟩:∃ mk:Deferred,mk={ target:=.collected D,args:=#[] }:=⟨_,rfl⟩
 have cP:gh E { w:=A,H:=E.H,loc:=E.loc,X:=J } :=
  ⟨rfl, rfl, by show E.w.heap.size ≤ A.heap.size; omega, fun b k U => by
   have k:b<D:=by rw[←hD]; exact k
   refine⟨fun h=>?_,hold b k⟩;rw[F]at h;rcases h with h|h|h
   ·exact U h
   ·omega
   ·omega,fun b k=>by
   show b<A.heap.size
   rw[F]at k;rcases k with h|h|h
   ·have := I.heap.X b h
    omega
   ·omega
   ·omega,by show J.r=E.X.r; rw[F]⟩
 have hs2:bj s { w:=A,H:=E.H,loc:=E.loc,X:=J } { a with defers:=mk::a.defers }:=by
  refine I.cP cP ⟨?_,fun d hd=>?_⟩
  ·refine List.nodup_cons.2 ⟨fun h => ?_, I.defers.1⟩
   obtain⟨M,e,h1,N,_⟩:=I.defers.2 mk h;have:=I.heap.X M N;rw[hmk]at e;have e:D=M:=by
    have e:=congrArg Deferred.target e;simpa using e
   omega
  ·rcases bI.1 hd with rfl | hd
   ·exact⟨D,hmk,hD1,by rw[F]; exact .inr (.inl rfl),by rw[F]; exact .inr rfl⟩
   ·obtain ⟨M, e, h1, N, h3⟩ := I.defers.2 d hd
    have:=I.heap.X M N;exact⟨M,e,by rw[show Env.w _=A from rfl,hold M (by omega)]; exact h1,by rw[F]; exact .inl N,by rw[F]; exact .inl h3⟩
 have hle2:E.dx m { w:=A,H:=E.H,loc:=E.loc,X:=J }:=by
  refine⟨fun _ _ h=>h,by show E.w.heap.size≤A.heap.size; omega,fun b k _=>hold b (by rw[←hD]; exact k),fun b _ h ho=>h ((cP.own b).1 ho),fun _ _ _ h=>⟨h,rfl⟩,fun b k=>?_,fun l h hk=>by rw[F]; exact⟨hk,fun _ hq=>hq⟩,hos⟩;have k:b<D:=by rw[←hD]; exact k
  show (J b↔E.X b)∧(J.z b↔E.X.z b)
  rw[F];exact⟨⟨fun h=>by rcases h with h|h|h; exact h; omega; omega,.inl⟩,⟨fun h=>by rcases h with h|h; exact h; omega,.inl⟩⟩
 obtain⟨my,X3,hs3,hle3⟩:=h0 _ _ hs2;have hX3:X3 (D+1):=(hle3.X (D+1) (by show D+1<A.heap.size; omega)).1.2 (by show J (D+1); rw[F]; exact .inr (.inr rfl));have hcp3:rel { w:=A,H:=(S []).H,loc:=my,X:=X3 } (.ptr 0 0 0 0 0) c:=L8 (hle2.trans hle3) _ (by simp only[nE,aw,gB]; exact⟨by omega,rfl⟩) hcp;refine⟨D+1,[mk],A,{ target:=.fn (.func f) #[c],args:=#[.func (.yield (D+1)) #[] #[]] },A,f,#[.func (.yield (D+1)) #[] #[],c],A,?_,?_,fun _ _=>trivial,?_,fun h=>(by cases h),?_⟩
 ·rw [← Y, O, hmk, ← hD]
  exact run_enterLoop_outer _ _ _ _ _
 ·have hcst : a.eval (.const (.func (.yield (D + 1)) #[] #[])) = .func (.yield (D + 1)) #[] #[] := rfl
  simp[resolve,W,hcst,Cq]
 ·simp[invoke,sM hbd]
 ·have hcall:=Xy (P:=P) (K:=K) (V:=V) ht ho hf k hn hre (l:=D+1) (mb:=mb) (nn:=nn) hnd R (fun p E'=>bj (S p) E' { a with defers:=mk::a.defers }∧E.dx m E'∧E'.X (D+1)∧E'.w.heap[D+1]? = some (.loop rec)) (fun p E' h=>h.1.heap)
   (fun p B E2 h hle hR hH=>?_) (fun p B o h=>?_) (fun p B w' itb h R hX hi hsz hoth hos=>?_) (fun p B h=>(eP.1 h.2.2.2).1) (fun p B h=>?_) (fun p r q E' cs hp h hc=>?_) (c:=c) (E0:={ w:=A,H:=(S []).H,loc:=my,X:=X3 }) ⟨hs3,hle2.trans hle3,hX3,hl1⟩ hS0 hcp3
  ·refine hcall.mono fun e w3 ⟨⟨v, hv⟩, E4, p, hw4, hp, hs4, hle4, hX4, hl4⟩ => ?_
   subst hv;subst hw4;obtain⟨w4,H4,loc4,X4⟩:=E4;have hH4:H4=(S p).H:=hs4.H;subst hH4;have hend:=run_endLoop (P:=P) hl4 (by rw[O]; simp);refine⟨_,_,hend,?_⟩;rw[O];refine⟨rfl,p,hp,loc4,X4,?_,?_⟩
   ·rw [← O]
    exact hs4.cP (tq hX4 hs4.heap) (Az hs4.defers hl4)
   ·exact(hle4.toX.trans tt).toM (l:=D+1) (fun h=>absurd h (by omega))
  ·obtain ⟨g1, g2, g3, g4⟩ := h
   have R:D+1<B.w.heap.size:=(eP.1 g4).1;refine⟨⟨by rw[hH]; exact g1.H,eM hle _ g1.fr,sr g1.heap hle g1.defers,hR⟩,g2.trans hle.toM,by rw[hle.X.1]; exact g3,?_⟩;rw[hle.same (D+1) R (g1.heap.j_ g3)];exact g4
  ·obtain ⟨g1, g2, g3, g4⟩ := h
   have R:D+1<B.w.heap.size:=(eP.1 g4).1;have hn:=XE (m:=m) (E:=B) (o:=o);refine⟨g1.cP (XD g1.heap) (uX g1.defers (fun b h1 N=>⟨.inl h1,N⟩) fun b h1 _=>hn.same b (g1.heap.X b h1) (g1.heap.j_ h1)),g2.trans hn,.inl g3,?_⟩;rw[hn.same (D+1) R (g1.heap.j_ g3)];exact g4
  ·obtain ⟨g1, g2, g3, g4⟩ := h
   obtain⟨qq,cc,ss,zz,hi⟩:=hi;have hc:gh B { B with w:=w' }:=⟨rfl,rfl,by show B.w.heap.size≤w'.heap.size; omega,fun b k U=>⟨U,hoth b fun e=>U (by rw[e]; exact hX)⟩,fun b k=>by
    show b<w'.heap.size
    rw[hsz];exact g1.heap.X b k,rfl⟩
   refine⟨g1.cP hc ⟨g1.defers.1,fun d hd=>?_⟩,Env.lF.toM (l:=itb) (g2.toX.trans ⟨fun _ _ h=>h,by show B.w.heap.size≤w'.heap.size; omega,fun b _ _ h=>hoth b h,fun _ _ h=>h,fun _ _ _ h=>⟨h,rfl⟩,fun _ _=>⟨Iff.rfl,Iff.rfl⟩,fun _ _ h=>⟨h,fun _ hq=>hq⟩,hos⟩) (fun h=>absurd h (by omega)),g3,?_⟩
   ·obtain ⟨M, e, h1, N, h3⟩ := g1.defers.2 d hd
    exact⟨M,e,by rw[show Env.w _=w' from rfl,hoth M (fun e=>by rw[e,hi]at h1; cases h1)]; exact h1,N,h3⟩
   ·show w'.heap[D + 1]? = _
    rw[hoth (D+1) (by omega)];exact g4
  ·obtain ⟨g1, g2, g3, g4⟩ := h
   have hm1:B.H[1]? = some (.map (cN K V rows) clock):=by rw[g1.H]; exact hS p
   refine⟨hm1,?_⟩;rw[(g2.live 1 (by omega) hpast1 ⟨_,hm1,rfl⟩).2];exact hloc1
  ·obtain ⟨g1, g2, g3, g4⟩ := h
   rw[O]at g4;obtain⟨fn',tm,asx,bo,k1,k2⟩:=XC hr hp rfl g1 g3 g4 hc;refine⟨fn',tm,asx,bo,k1,k2.mono fun e W' ⟨he,E'',hw,q1,q2,q3,q4⟩=>⟨he,E'',hw,⟨q1,g2.trans q2,q3,by rw[O]; exact q4⟩,fun b k=>(q2.X b (g1.heap.X b k)).1.2 k,fun b k U _=>?_⟩⟩;rw[←hw];exact q2.same b k (g1.heap.j_ U)
end XB
end Go.AL

namespace Go.AL
open Go Go.ChangeMaps
variable [Dr]
variable {P:Program} {τ:ah}
theorem XG{sp:ax}{fn:Func}(hfr:iP sp.aK=true){d r:List G}{x:bk}{s0:al}(k:eY P fn.results.toList sp x s0=some (true,r)){E:Env}(hH:E.H=aj (sp.H0 d))(HE:ar E){e:Exit}{N:Act}{I:World}
  (h3:e=x.toExit) (J:dt sp.aK.length { E with X:=⟨E.X.x,fun _=>False,E.X.r⟩ } s0.den N I) :
  (e = .normal ∨ e = .ret) ∧ ∃ X, jc I X N.defers ∧ ∀ w', w'.heap.size = I.heap.size → (∀ b, w'.heap[b]? ≠ I.heap[b]? → X b ∧ X.z b) → dq I w' → ∃ v, (results fn N.tmps).run P w' = .ok v w' ∧
   ∃ c v' H',Ending.returned v=.returned c∧(v'=sp.out r∧H'=aj (sp.H1 r))∧dh E v' H' c w':=by
 have J:=J.weaken (lA sp.opens s0);generalize hs':gH sp.opens s0=s' at J;obtain⟨loc',X',F,O⟩:=J;have hxx:(x=.normal∨x=.ret)∧∃ vs ids g q,fP P s'.den fn.results.toList=some vs∧(nodupB ids&&mv s'.H 0 sp.aK.length ids sp.dQ)=true ∧
   ir s'.H (a_ s'.H ids) (fS ids) sp.dQ ids=some (true,g)∧eg s'.H (a_ s'.H ids) (fS ids) sp.res vs=some (true,q)∧g++q=r:=by
  have k:eY P fn.results.toList sp x s0=some (true,r):=k;unfold eY at k;split at k
  ·cases k
  ·rename_i hx
   simp only[hs']at k;refine⟨by cases x with|normal=>exact .inl rfl|ret=>exact .inr rfl|exit i=>exact(hx i rfl).elim,?_⟩;split at k
   ·cases k
   ·rename_i vs W
    split at k
    ·cases k
    ·rename_i ids hids
     split at k
     ·cases k
     ·rename_i B
      split at k
      ·rename_i b g b' q R q2
       simp only[aT,aZ,aw]at k;obtain⟨⟨rfl,rfl⟩,rfl⟩:=k;exact⟨vs,ids,g,q,W,B,R,q2,rfl⟩
      ·cases k
 obtain⟨hx,vs,ids,g,q,W,B,R,q2,rfl⟩:=hxx;simp only[aw]at B;refine⟨by subst h3; rcases hx with rfl|rfl; exact .inl rfl; exact .inr rfl,X',F.defers,fun U k1 k2 k3=>?_⟩;obtain⟨F,O⟩:=y_ HE F O k1 k2 k3;obtain⟨us,g1,g2⟩:=vq F fn.results.toList vs W;have hres:(results fn N.tmps).run P U=.ok (if h:us.toArray.size=1 then us.toArray[0] else .tuple us.toArray) U:=by
  rw[sU];simp only[Sem.run_bind];rw[Array.mapM_eq_mapM_toList,Sem.run_map,g1];rfl
 generalize M:({ w:=U,H:=s'.den.H,loc:=loc',X:=E.X.re X'.r }:Env)=A at F O g1 g2;have hH1:A.H=aj s'.H:=by rw[←M]; rfl
 obtain⟨hK,hHR⟩:=Eu hH1 F.heap (pe B.1) R q;obtain⟨p0,p1,p2,p3⟩:=qN R q (bB sp.dQ (g++q));have hd:dv (kA sp.dQ) (g++q)=q:=by rw[←p0]; exact mr g q
 have hS:=qM hK q2 [];rw[gS]at hS;have hrl:=hS.2.2.2 us g2;have hleM:=Ev (m:=sp.aK.length) hH1 hK ⟨rfl,rfl⟩ (Er A _ ids) B.2 (fun j hj=>by
  obtain⟨r1,o',r2,_⟩:=v7 B.2 j hj;obtain⟨i,o,g1,rest1,t1,t2,t3,t4,t5,t6⟩:=p3 j o' r2;have hat:=gk (e:=a_ s'.H ids) (j:=j) (aJ t1);rw[show (a_ s'.H ids).ids=ids from rfl,t1]at hat;cases hat;exact⟨o,o',t2,r2,t5⟩) (fun b=>Es)
 have hle:E.le (fR A (aj (bZ (bB sp.dQ (g++q)) sp.dQ (g++q))) ids) :=
  (O.trans hleM).full (by rw[←M]; exact⟨rfl,rfl⟩) (by rw[hH,dU]; simp only[ax.H0,wb]; exact aI _) (by rw[hH]; exact EE _ _ hfr)
 have Y:A.w=U:=by rw[←M]
 have hX1:∀ r,A.X.re r=E.X.re r:=fun r=>by rw[←M]; rfl
 refine⟨_,hres,_,_,_,rfl,⟨rfl,rfl⟩,ids.map (fun i=>A.loc.getD i none),mu A (aj (bZ (bB sp.dQ (g++q)) sp.dQ (g++q))),?_,?_,?_⟩
 ·have := Ee hrl
  simp only[ax.out,ax.H1,hd];simpa only[fR,Y,hX1]using this
 ·simpa only[fR,Y,hX1,ax.H1]using hHR
 ·simpa only[fR,Y,hX1,ax.H1]using hle
def gp{α:Type}(P:Program)(sp:ax)(d:List G)(Ps:α→Prop)(R:α→List G):Prop :=
 ff P sp.f (sp.args0 d) (aj (sp.H0 d)) fun v H'=>∃ p,Ps p∧v=sp.out (R p)∧H'=aj (sp.H1 (R p))
theorem AP{α:Type}{Ps:α→Prop}{sp:ax}{fn:Func}(N:P.funcs[sp.f]? = some fn)(q:fn.body.isSome=true)(J:iP sp.aK=true){d:List G}{r:α→List G}{x:α→bk}{s0:α→al}
  (h1:lJ P sp.aK.length (aN fn) (al.den ⟨dY (sp.args0 d) fn.ntmps,sp.H0 d⟩) Ps x (fun p=>(s0 p).den)) (O:∀ p,Ps p→eY P fn.results.toList sp (x p) (s0 p)=some (true,r p)):gp P sp d Ps r:=by
 have F:fn.body=some (aN fn):=by
  unfold aN;cases R:fn.body with
  |none=>rw[R]at q; cases q
  |some c=>rfl
 intro E cargs hH HE g;refine y9 N F ?_;have k:=mn HE;have B:=ml k _ g;have I:bj ⟨dY (sp.args0 d) fn.ntmps,aj (sp.H0 d)⟩ { E with X:=⟨E.X.x,fun _=>False,E.X.r⟩ } { tmps:=cargs++lX (fn.ntmps-cargs.size) undef,defers:=[] }:=by
  refine⟨hH,?_,lb _ _,HE.cP k⟩;simp only[dY,r_,yh];refine jd B ?_;have:=fv g;have e:(sp.args0 d).length=cargs.size:=by simpa using this
  rw[e];have:=qt (E:={ E with X:=⟨E.X.x,fun _=>False,E.X.r⟩ }) (cI (fn.ntmps-cargs.size) undef);simpa using this
 refine wpIn_mono (h1 none (y7 _) { E with X:=⟨E.X.x,fun _=>False,E.X.r⟩ } _ I) fun e a1 w0 ⟨p,A,U,M⟩=>?_;obtain⟨g1,X',g2,g3⟩:=XG J (O p A) hH HE U M;refine⟨g1,X',g2,fun w' W Y k3=>?_⟩;obtain⟨v,q1,c,v',H',q2,⟨q3,q4⟩,q5⟩:=g3 w' W Y k3;exact⟨v,q1,c,v',H',q2,⟨p,A,q3,q4⟩,q5⟩
theorem Mr{α:Type}{Ps:α→Prop}{m:Nat}{pf O:FuncId→Bool}{id:Nat}{ops:Array Oper}{l1 l2:List Oper}{oc:Oper}(B:ops.toList=l1++oc::l2){s s1:St}(h1:eO P pf ops l1 s s1)(hg:oc.guard=none){t:Tmp}(hd:oc.dst=some t)
  {f:FuncId} {args:List AV} (hc:eU s1.eval oc.op=some (f,args)) (hb:dE P f=true) {V:α→AV} {HH:α→List af} (I:ff P f args s1.H fun v H'=>∃ p,Ps p∧v=V p∧H'=HH p)
  {S:α→St} (h2:∀ p,Ps p→eO P O ops l2 ⟨s1.fr.set t (V p),HH p⟩ (S p)):lJ P m (.region id ops false) s Ps (fun _=>.normal) S:=fun ro _ E a hs=>by
 have pos:∀ i,ops[i]? = (l1++oc::l2)[i]? := iQ B;have R:ops.size=l1.length+(l2.length+1):=by
  have:ops.toList.length=l1.length+(l2.length+1):=by rw[B]; simp
  simpa using this
 refine wpIn_region ?_;have hr:fp ops.size=i_ 0 l1.length++(l1.length::i_ (l1.length+1) l2.length):=by
  rw[Cs,R,←List.range'_append_1,dO,Cr]
 rw[hr];refine pq ro l1 0 s s1 E a _ (fun j o g=>by rw[pos,dO,List.getElem?_append_left (aJ g)]; exact g) h1 hs fun a1 w1 U=>?_;obtain⟨J,k,d,M⟩:=U;rw[wpOpsIn_cons];unfold wpOpIn;have W:ops[l1.length]? = some oc:=by rw[pos,gx (aI _)]; simp
 simp only[W];rw[if_pos (by simp[yg,hg])];have Y:∀ c,oc.op≠.defer c:=fun c e=>by rw[e]at hc; cases hc
 obtain⟨cargs,g1,g2⟩:=Ds (P:=P) (E:={ w:=w1,H:=s1.H,loc:=J,X:=E.X.re k }) (fun x=>d.eval x) hc hb;unfold Oper.wpIn;rw[nc _ _ _ Y,g1];refine⟨fun _ _=>trivial,fun h=>(by cases h),Du ((I _ cargs rfl d.heap g2).mono ?_)⟩;rintro _ q ⟨c,v,H',rfl,⟨p,F,rfl,rfl⟩,iR,r2,q1,q2,A⟩;have hs2:bj ⟨s1.fr.set t (V p),HH p⟩ { w:=q,H:=HH p,loc:=iR,X:=(E.X.re k).re r2 } (a1.put oc.dst c):=by
  refine⟨rfl,?_,by rw[put_defers]; exact sr d.heap A d.defers,q2⟩;have:=Dt d.fr A (some t) q1;rw[hd];exact this
 show wpOpsIn (fz ro) 0 P ops _ (i_ (l1.length+1) l2.length) _ q
 have N:i_ (l1.length+1) l2.length=i_ (l1.length+1) l2.length++[]:=by rw[gS]
 rw[N];refine pq ro l2 (l1.length+1) _ _ { w:=q,H:=HH p,loc:=iR,X:=(E.X.re k).re r2 } _ [] (fun j o g=>?_) (h2 p F) hs2 fun a3 w3 hc3=>?_
 ·rw [pos, gx (by omega)]
  rw[show l1.length+1+j-l1.length=j+1 by omega];exact g
 ·exact⟨p,F,rfl,dt.after (M.toM.trans A.toM) hc3.toM⟩
theorem lJ.mono{α:Type}{Ps:α→Prop}{X:α→bk}{S:α→St}{m m':Nat}{c:Code}{s:St}(h:lJ P m' c s Ps X S)(hm:m≤m'):lJ P m c s Ps X S:=fun ro d E a g =>
 wpIn_mono (h ro d E a g) fun _ _ _ ⟨p,k,h1,q⟩=>⟨p,k,h1,q.AE hm⟩
theorem Ms{α:Type}{Ps:α→Prop}(hm:P.follows .mixedOrders=true){F:ah}(N:ai P τ)(M:ai P F){g sp:ax}{B R:α→List G}{fn:Func}(hf:P.funcs[sp.f]? = some fn)(W:iP sp.aK=true){d:List G}
  (hA:gp P g d Ps B) (iA:dE P g.f=true) {r0 rest:Code} {id:Nat} {ops:Array Oper} (O:fn.body=some (.seq r0 (.seq (.region id ops false) rest))) {l1 l2:List Oper} {oc:Oper} (U:ops.toList=l1++oc::l2) (hg:oc.guard=none) {t:Tmp} (hd:oc.dst=some t)
  {s1:al} (h1:(bQ P τ au r0 ⟨dY (sp.args0 d) fn.ntmps,sp.H0 d⟩ fun x s=>match x with | .normal=>ef P τ ops l1 s fun s=>.done .normal s|_=>.fail).fk=some (.normal,s1))
  (hc:eU s1.den.eval oc.op=some (g.f,g.args0 d)) (hH:s1.H=g.H0 d) {tl:List G→Option (List G)}
  (h2:∀ e,(ef P F ops l2 ⟨s1.fr.set t (g.out e),g.H1 e⟩ fun s=>bQ P F au rest s .done).leaf (eY P fn.results.toList sp)=tl e) (hT:∀ p,Ps p→tl (B p)=some (R p)):gp P sp d Ps R:=by
 have Y:aN fn=.seq r0 (.seq (.region id ops false) rest):=by unfold aN; rw[O]
 obtain⟨x,s',g1,g2⟩:=dK hm N (m:=sp.aK.length) r0 _ _ (aG _ _ _) (pt h1);cases x with
 |exit _=>exact g2.elim
 |ret=>exact g2.elim
 |normal =>
 obtain⟨I,g3,g4⟩:=o9 N g2;obtain⟨_,rfl⟩:=g4;have key:∀ p,Ps p→∃ s2 x s3,eO P F.pf ops l2 ⟨I.fr.set t (g.out (B p)),aj (g.H1 (B p))⟩ s2∧bU P sp.aK.length rest s2 x s3.den∧eY P fn.results.toList sp x s3=some (true,R p):=fun p A=>by
  have:=h2 (B p);rw[hT p A]at this;obtain⟨s2,k1,k2⟩:=o9 M (iu this);obtain⟨x,s3,k3,k4⟩:=dK hm M (m:=sp.aK.length) rest s2 .done (aG _ _ _) k2;exact⟨s2.den,x,s3,k1,k3,k4⟩
 have hx:∀ p,∃ q:St × bk × al,Ps p→eO P F.pf ops l2 ⟨I.fr.set t (g.out (B p)),aj (g.H1 (B p))⟩ q.1∧bU P sp.aK.length rest q.1 q.2.1 q.2.2.den∧eY P fn.results.toList sp q.2.1 q.2.2=some (true,R p):=fun p=>by
  by_cases A:Ps p
  ·obtain ⟨s2, x, s3, k⟩ := key p A
   exact⟨(s2,x,s3),fun _=>k⟩
  ·exact⟨(⟨[],[]⟩,.normal,⟨[],[]⟩),fun h=>(A h).elim⟩
 obtain⟨q,J⟩:=CB hx;refine AP (x:=fun p=>(q p).2.1) (s0:=fun p=>(q p).2.2) hf (by rw[O]; rfl) W ?_ fun p A=>(J p A).2.2;rw[Y];refine tx g1 (AO (S:=fun p=>(q p).1) ?_ fun p A=>(J p A).2.1);refine Mr U g3 hg hd (V:=fun p=>g.out (B p)) (HH:=fun p=>aj (g.H1 (B p))) hc iA ?_ fun p A=>(J p A).1;have hH2:I.den.H=aj (g.H0 d):=by rw[←hH]; rfl
 rw[hH2];exact hA
def AQ(P:Program)(K:Ct)(f:FuncId):Prop:=∃(τ:ah) (fd:Func) (ops0 ops1 ops2 bS:Array Oper) (r0 r1 r2 r3 b0 b1:Nat),ai P τ∧Ff P τ K ops0 ops1 ops2 bS∧P.funcs[f]? = some fd∧dE P f=true ∧
 fd.body=some (jo r0 b0 r1 b1 r2 ops0 ops1 ops2 7 (wI bS r3))∧fd.ntmps=14∧fd.results=#[]
theorem Mt{K:Ct}{f:FuncId}{fd:Func}{ops0 ops1 ops2 bS:Array Oper}{r0 r1 r2 r3 b0 b1:Nat}(I:ai P τ)(J:P.funcs[f]? = some fd)(M:dE P f=true) (d:fd.body=some (jo r0 b0 r1 b1 r2 ops0 ops1 ops2 7 (wI bS r3))) (hn:fd.ntmps=14) (hr:fd.results=#[])
  (h0:∃ o1 o2 ty,ops0.toList=[o1,o2]∧(o1.guard=none∧o1.op=.load ty (.tmp 1)∧o1.dst=some 4)∧(o2.guard=none∧o2.op=.range ty (.tmp 4)∧o2.dst=some 5)∧(fe P ty).isSome=true∧eo P ty=some (1,false))
  (h1:∃ o1 o2,ops1.toList=[o1,o2]∧o1.guard=none∧o1.op=.next (.tmp 5) false∧o1.dst=some 6∧o2.guard=none∧o2.op=.extract (.tmp 6) 0∧o2.dst=some 7)
  (N:∃ o1 l,ops2.toList=o1::l∧o1.guard=none∧o1.op=.entry (.tmp 5)∧o1.dst=some 8)
  (O:∃ u1 u2 u3 u4 t tys,bS.toList=[u1,u2,u3,u4]∧(u3.guard=none∧u3.op=.call { callee:=.value (.tmp 10),args:=#[.tmp 11],argTypes:=tys }∧u3.dst=some 12)∧(u4.guard=none∧u4.op=.unOp .not t (.tmp 12)∧u4.dst=some 13))
  {s2 s3:Nat→Nat→List G→al} (k:∀ l it g,(ef P τ ops2 (ops2.toList.drop 1) ⟨(gK l it).set 8 (.tuple [K.av g,.undef]),[]⟩ fun s=>.done .normal s).fk=some (.normal,s2 l it g)) (q:∀ l it g,(ef P τ bS (bS.toList.take 2) (s2 l it g) fun s=>.done .normal s).fk=some (.normal,s3 l it g))
  (R:∀ l it g,(s3 l it g).fr.length=14) (A:∀ l it g,(s3 l it g).fr[0]? = some (.lit (.func (.yield l) #[] #[]))) (U:∀ l it g,(s3 l it g).fr[5]? = some (.lit (.pointer (some ⟨it,0,none⟩)))) (B:∀ l it g,(s3 l it g).fr[10]? = some (.lit (.func (.yield l) #[] #[]))) (F:∀ l it g,(s3 l it g).fr[11]? = some (K.av g)):AQ P K f :=
 ⟨τ,fd,ops0,ops1,ops2,bS,r0,r1,r2,r3,b0,b1,I,⟨h0,h1,N,O,fun l it g=>⟨s2 l it g,s3 l it g,k l it g,q l it g,R l it g,A l it g,U l it g,B l it g,F l it g⟩⟩,J,M,d,hn,hr⟩
def AR(t:Tree):al:=match t.fk with
 |some (_,s)=>s
 |none=>⟨[],[]⟩
def AS(P:Program)(τ:ah)(fn:Func)(sp:ax)(d:List G):al:=match fn.body with
 |some (.seq r0 (.seq (.region _ ops _) _))=>AR (bQ P τ au r0 ⟨dY (sp.args0 d) fn.ntmps,sp.H0 d⟩ fun x s=>match x with | .normal=>ef P τ ops (ops.toList.take 1) s fun s=>.done .normal s|_=>.fail)
 |_=>⟨[],[]⟩
def Mu(P:Program)(τ:ah)(L0:LT)(fn:Func)(sp:ax)(d:List G):al:=match fn.body with
 |some (.seq r0 (.seq (.seq r1 _) _))=>AR (bQ P τ L0 r0 ⟨dY (sp.args0 d) fn.ntmps,sp.H0 d⟩ fun x s=>match x with | .normal=>bQ P τ L0 r1 s .done|_=>.fail)
 |_=>⟨[],[]⟩
def Mv(fn:Func):Code:=match fn.body with
 |some (.seq a _)=>a
 |_=>.skip
def Mw(fn:Func):Code:=match fn.body with
 |some (.seq _ (.seq (.seq b _) _))=>b
 |_=>.skip
def Mx(fn:Func):Code:=match fn.body with
 |some (.seq _ (.seq (.seq _ (.block _ (.rangeFunc _ _ a _))) _))=>a
 |_=>.skip
def My(fn:Func):Code:=match fn.body with
 |some (.seq _ (.seq (.seq _ (.block _ (.rangeFunc _ _ _ b))) _))=>b
 |_=>.skip
def Mz(fn:Func):Code:=match fn.body with
 |some (.seq _ (.seq _ c))=>c
 |_=>.skip
def AT(fn:Func):Code:=match fn.body with
 |some (.seq _ (.block _ (.loop (.seq _ (.seq _ (.block _ (.seq c _)))))))=>c
 |_=>.skip
def MA(fn:Func):Code:=match fn.body with
 |some (.seq _ (.block _ (.loop (.seq _ (.seq _ (.block _ (.seq _ (.seq c _))))))))=>c
 |_=>.skip
def iR(P:Program)(τ:ah)(K:Ct)(c:Code)(l it:Nat)(g:List G):al:=match c with
 |.region _ ops _=>AR (ef P τ ops (ops.toList.drop 1) ⟨(gK l it).set 8 (.tuple [K.av g,.undef]),[]⟩ fun s=>.done .normal s)
 |_=>⟨[],[]⟩
def my(P:Program)(τ:ah)(c:Code)(s:al):al:=match c with
 |.region _ ops _=>AR (ef P τ ops (ops.toList.take 2) s fun s=>.done .normal s)
 |_=>⟨[],[]⟩
def fU(d:List G):List (List G):=(gi d 0).rows
def mC(d:List G):Nat:=(gi d 1).int.toNat
def jQ(d:List G):Bool:=eC (fU d) (mC d)&&Nat.ble (fU d).length 1048576
theorem MB(hm:P.follows .mixedOrders=true)(A:ai P τ){K V:Ct}{M:FuncId}(hk:AQ P K M){L0:LT}(k:∀ m c,ay P m L0 c){sp:ax}{fn:Func}(hf:P.funcs[sp.f]? = some fn)(hfr:iP sp.aK=true)(hln:Nat.ble sp.aK.length 3=true){r0 r1 assign body rest:Code}{b:Nat}{g p0:Tmp}
  (N:fn.body=some (.seq r0 (.seq (.seq r1 (.block b (.rangeFunc (.tmp g) #[p0] assign body))) rest))) (F:(d_ assign&&d_ body)=true) {inv:kD} {ps psr:List gX} {pre:List G→al} {D:List G→List (List G)→List G} {st:List G→List G→Option (List G)} {tl:List G→Option (List G)} {R:List G→List (List G)→List G}
  (W:∀ d,(bQ P τ L0 r0 ⟨dY (sp.args0 d) fn.ntmps,sp.H0 d⟩ fun x s=>match x with | .normal=>bQ P τ L0 r1 s .done|_=>.fail).fk=some (.normal,pre d))
  (hg:∀ d,(pre d).fr.getD g .undef=.clo M [.ptr 0 0 0 0 0]) (hH1:∀ d,(pre d).H[1]? = some (.map K V (fU d) (mC d))) (hin:∀ d,gY 3 inv ps (pre d)=some (true,D d [])) (Y:∀ d,kG 3 (aM inv d).fr=true)
  (hI0:∀ d,(aM inv d).H[0]? = some (.raw (.box [.map 1]))) (hI1:∀ d p,(aM inv (D d p)).H[1]? = some (.map K V (fU d) (mC d)))
  (hr : ∀ r d, (bQ P τ L0 assign ⟨(aM inv d).fr.set p0 (K.av r), (aM inv d).H⟩ fun x s1 => match x with
   | .normal=>bQ P τ L0 body s1 fun x s2=>match x with
    |.normal=>.done .normal ⟨(aM inv d).fr,s2.H⟩
    |_=>.fail
   |_=>.fail).leaf (nB 3 inv psr)=st r d)
  (hst:∀ d p r,p.length<1048576→st (gi r 0).row (D d p)=some (D d (p++[r])))
  (htl:∀ d,(bQ P τ L0 rest (aM inv d) .done).leaf (eY P fn.results.toList sp)=tl d) (hT:∀ d p,tl (D d p)=some (R d p)) {d:List G} (aL:jQ d=true) :
  gp P sp d (fun p=>p.Perm (fU d)) (R d):=by
 have hbo:aN fn=.seq r0 (.seq (.seq r1 (.block b (.rangeFunc (.tmp g) #[p0] assign body))) rest):=by unfold aN; rw[N]
 unfold jQ at aL;simp only[aw]at aL F;obtain⟨hnd,hlt⟩:=Aq aL.1;have hlen:=j9 aL.2;obtain⟨τk,fd,ops0,ops1,ops2,bS,k0,k1,k2,O,b0,b1,htk,ho,hfd,hbd,hbk,hnt,hre⟩:=hk;obtain⟨x,s',g1,g2⟩:=dK hm A (m:=sp.aK.length) r0 _ _ (k _ _) (pt (W d));cases x with
 |exit _=>exact g2.elim
 |ret=>exact g2.elim
 |normal =>
 obtain⟨x,s1',g3,g4⟩:=dK hm A (m:=sp.aK.length) r1 _ _ (k _ _) g2;obtain⟨rfl,rfl⟩:=g4;have hkr:Fh P 3 K (fU d) p0 assign body fun p=>(aM inv (D d p)).den:=by
  refine⟨F.1,F.2,fun p=>Y _,fun p r q I=>?_⟩;have hpl:p.length<1048576:=by
   have:=I.length_eq;simp only[List.length_append,di]at this;omega
  have h:=hst d p r hpl;rw[←hr]at h;obtain⟨x,s1,q1,J⟩:=dK hm A (m:=3) assign _ _ (k _ _) (iu h);cases x with
  |exit _=>exact J.elim
  |ret=>exact J.elim
  | normal =>
   obtain⟨x,s2,q3,B⟩:=dK hm A (m:=3) body _ _ (k _ _) J;cases x with
   |exit _=>exact B.elim
   |ret=>exact B.elim
   | normal =>
    have B:nB 3 inv psr .normal ⟨(aM inv (D d p)).fr,s2.H⟩=some (true,D d (p++[r])):=B;exact⟨s1.den,s2.den,q1,q3,jm (s:=⟨(aM inv (D d p)).fr,s2.H⟩) B⟩
 have key:∀ p,∃ q:bk × al,bU P sp.aK.length rest (aM inv (D d p)).den q.1 q.2.den∧eY P fn.results.toList sp q.1 q.2=some (true,R d p):=fun p=>by
  have:=htl (D d p);rw[hT d p]at this;obtain⟨x,s3,O,k4⟩:=dK hm A (m:=sp.aK.length) rest _ .done (k _ _) (iu this);exact⟨(x,s3),O,k4⟩
 obtain⟨q,U⟩:=CB key;refine AP (x:=fun p=>(q p).1) (s0:=fun p=>(q p).2) hf (by rw[N]; rfl) hfr ?_ fun p _=>(U p).2;rw[hbo];refine tx g1 (AO (S:=fun p=>(aM inv (D d p)).den) (tx g3 (XA ?_)) fun p _=>(U p).1);intro ro hro E a hs;obtain rfl:ro=none:=hro.resolve_right (by simp[d_]);have:=XF (P:=P) (K:=K) (V:=V) (S:=fun p=>(aM inv (D d p)).den) (Nat.le_succ 2) htk ho hfd hbd hbk hnt hre hnd hlt hkr (clock:=mC d) (fun p=>bl (hI1 d p)) (bl (hI0 _)) (g:=g) (s:=(pre d).den) (hg d) (jm (hin d)) (bl (hH1 d)) E a hs;refine wpIn_mono this fun e a1 w1 ⟨he,p,I,hM⟩=>⟨p,I,he,hM.AE (j9 hln)⟩
noncomputable def tz(g:List G→List (List G)→List G)(tl:List G→Option (List G))(d:List G):Option (List G):=bif jQ d then pz (fU d) fun _ p=>tl (g d p) else none
theorem gp.same{sp:ax}{d r:List G}{α:Type}{Ps:α→Prop}{R:α→List G}(h:gp P sp d Ps R)(k:∀ p,Ps p→R p=r):cg P sp.f (sp.args0 d) (aj (sp.H0 d)) (sp.out r) (aj (sp.H1 r)) :=
 ff.mono h fun v H' ⟨p,q,h1,g⟩=>by rw[k p q]at h1 g; exact⟨h1,g⟩
theorem MC(hm:P.follows .mixedOrders=true){k:ah}(M:ai P τ)(I:ai P k){g sp:ax}{q:List G→List (List G)→List G}{fn:Func}(N:P.funcs[sp.f]? = some fn)(J:iP sp.aK=true)
  (O:∀ d,jQ d=true→gp P g d (fun p=>p.Perm (fU d)) (q d)) (iA:dE P g.f=true) {r0 rest:Code} {id:Nat} {ops:Array Oper} (U:fn.body=some (.seq r0 (.seq (.region id ops false) rest))) {l1 l2:List Oper} {oc:Oper} (A:ops.toList=l1++oc::l2) (W:oc.guard=none) {t:Tmp} (Y:oc.dst=some t)
  {s1:List G→al} (h1:∀ d,(bQ P τ au r0 ⟨dY (sp.args0 d) fn.ntmps,sp.H0 d⟩ fun x s=>match x with | .normal=>ef P τ ops l1 s fun s=>.done .normal s|_=>.fail).fk=some (.normal,s1 d))
  (hc:∀ d,eU (s1 d).den.eval oc.op=some (g.f,g.args0 d)) (hH:∀ d,(s1 d).H=g.H0 d) {tl:List G→Option (List G)}
  (h2:∀ d e,(ef P k ops l2 ⟨(s1 d).fr.set t (g.out e),g.H1 e⟩ fun s=>bQ P k au rest s .done).leaf (eY P fn.results.toList sp)=tl e) (hF:∀ d,sp.F d=tz q tl d):aU P sp:=by
 intro d r h;rw[hF]at h;unfold tz at h;cases aL:jQ d with
 |false=>rw[aL]at h; cases h
 | true =>
  rw[aL]at h;have B:=Ap h 0;exact(Ms (R:=fun _=>r) hm M I N J (O d aL) iA U A W Y (h1 d) (hc d) (hH d) (h2 d) fun p hp=>B p hp).same fun _ _=>rfl
theorem MD(hm:P.follows .mixedOrders=true)(k:ai P τ){g sp:ax}{q R:List G→List (List G)→List G}{fn:Func}(F:P.funcs[sp.f]? = some fn)(B:iP sp.aK=true)
  (I:∀ d,jQ d=true→gp P g d (fun p=>p.Perm (fU d)) (q d)) (iA:dE P g.f=true) {r0 rest:Code} {id:Nat} {ops:Array Oper} (J:fn.body=some (.seq r0 (.seq (.region id ops false) rest))) {l1 l2:List Oper} {oc:Oper} (A:ops.toList=l1++oc::l2) (M:oc.guard=none) {t:Tmp} (N:oc.dst=some t)
  {s1:List G→al} (h1:∀ d,(bQ P τ au r0 ⟨dY (sp.args0 d) fn.ntmps,sp.H0 d⟩ fun x s=>match x with | .normal=>ef P τ ops l1 s fun s=>.done .normal s|_=>.fail).fk=some (.normal,s1 d))
  (hc:∀ d,eU (s1 d).den.eval oc.op=some (g.f,g.args0 d)) (hH:∀ d,(s1 d).H=g.H0 d) {tl:List G→Option (List G)}
  (O:∀ d e,(ef P τ ops l2 ⟨(s1 d).fr.set t (g.out e),g.H1 e⟩ fun s=>bQ P τ au rest s .done).leaf (eY P fn.results.toList sp)=tl e) (U:∀ d p,tl (q d p)=some (R d p)):∀ d,jQ d=true→gp P sp d (fun p=>p.Perm (fU d)) (R d) :=
 fun d aL=>Ms hm k k F B (I d aL) iA J A M N (h1 d) (hc d) (hH d) (O d) fun p _=>U d p
end Go.AL

namespace Go.AL
open Go Go.ChangeMaps
variable [Dr]
variable {P:Program} {τ:ah}
def wJ(sp:ax)(d:List AV)(H:List ak):Option (Bool × List G) :=
 match iw H (fun i=>d.getD i .undef) sp.ps []with
 |none=>none
 | some ids=>match nodupB ids&&mw (a_ H ids) 0 sp.dQ with
  |false=>none
  | true=>match ir H (a_ H ids) (lC (fj sp) ids) sp.aK ids,eg H (a_ H ids) (lC (fj sp) ids) sp.args d with
   |some (b,g),some (k,q)=>some (b&&k,g++q)
   |_,_=>none
def iB(sp:ax)(d:List AV)(H:List ak)(r:List G):AV × List ak :=
 match iw H (fun i=>d.getD i .undef) sp.ps []with
 |none=>(.undef,[])
 |some ids=>((sp.out r).cF (a_ H ids),ix (a_ H ids) H (sp.H1 r))
theorem XH{sp:ax}(hp:qR sp=true){asx:List AV}{H:List ak}{Y:List G}(h:wJ sp asx H=some (true,Y)){Ps:List G→Prop}(hc:gp P sp Y Ps id) :
  ff P sp.f asx (aj H) fun v H'=>∃ r,Ps r∧v=(iB sp asx H r).1∧H'=aj (iB sp asx H r).2:=by
 simp only[qR,aw]at hp;obtain⟨hfr,hle,hlab⟩:=hp;have hle:=j9 hle;unfold wJ at h;split at h
 ·cases h
 rename_i ids hids;split at h
 ·cases h
 rename_i hck;simp only[aw]at hck;obtain⟨hnd,hup⟩:=hck;have hnd:=pe hnd;split at h
 case h_2=>cases h
 rename_i b g b' k h1 h2;simp only[aT,aZ,aw]at h;obtain⟨⟨rfl,rfl⟩,rfl⟩:=h;obtain⟨p0,p1,p2,p3⟩:=qN h1 k (bB sp.aK (g++k));have hd:dv (kA sp.aK) (g++k)=k:=by rw[←p0]; exact mr g k
 have hlen:ids.length=(aj (sp.H0 (g++k))).length:=by rw[dU]; simp only[ax.H0,p1,p2]
 have hat:∀ j,j<ids.length→ids[j]? = some ((a_ H ids).at j):=fun j A=>gk (e:=a_ H ids) A;have hobjs:∀ j,j<ids.length→∃ sh o g1 I,sp.aK[j]? = some sh∧H[(a_ H ids).at j]? = some o∧gV H (a_ H ids) (lC (fj sp) ids) sh o=some (true,g1) ∧
   (sp.H0 (g++k))[j]? = some (eX (bB sp.aK (g++k)) sh (g1++I)) ∧
   (bB sp.aK (g++k)).ae j=sh.up∧(∀ ks v rows,o=.vec ks v rows→(bB sp.aK (g++k)).len j=rows.length)∧sh.up=0∧(a_ H ids).up j=qK o:=by
  intro j A;have hj':j<sp.aK.length:=by omega
  obtain⟨i,o,g1,I,R,F,M,J,W,q6⟩:=p3 j sp.aK[j] (bE hj');have q1':=R;rw[hat j A]at R;cases R;refine⟨sp.aK[j],o,g1,I,bE hj',F,M,J,W,q6,?_,?_⟩
  ·have := List.all_eq_true.1 hfr sp.aK[j] (sb hj')
   exact Nat.eq_of_beq_eq_true this
  ·simp only [bJ.up, a_, cH, cq]
   rw[q1'];simp only[Option.map_some,Option.getD_some,qL];rw[F]
 have hK:∀ E E0,E.H=aj H→ar E→qH (a_ H ids) (bif fj sp then (fp H.length).filter (fS ids) else []) E E0→E0.H=aj (sp.H0 (g++k)) →
   gW H (a_ H ids) (lC (fj sp) ids) (bB sp.aK (g++k)) E E0:=by
  intro E E0 O HE N U;refine { hH:=O,HE:=HE,free:=fun i hi b n hb=>?_,dm:=N.toKeepIn,obj:=fun j o q=>?_ }
  ·refine N.Lc i ?_ b n hb
   have hlt:=aJ hb;rw[HE.len,O,dU]at hlt;unfold lC at hi;split at hi
   ·rename_i B
    rw[B];simp only[cond_true,ga,List.mem_range];exact⟨hlt,hi⟩
   ·cases hi
  ·have A:j<ids.length:=by
    rcases Nat.lt_or_ge j ids.length with hlt|hge
    ·exact hlt
    ·have h1 := aJ q
     have h2:=qI (e:=a_ H ids) hge;have h3:(a_ H ids).base=H.length:=rfl;omega
   refine⟨A,?_⟩;obtain⟨sh,o',g1,I,R,F,M,J,W,q6,q7,q8⟩:=hobjs j A;rw[q]at F;cases F;obtain⟨r1,r2,r3⟩:=vX (lens:=bB sp.aK (g++k)) (d:=g1++I) M;exact⟨r1,⟨_,by rw[U]; exact bl J,by rw[W]; exact r2⟩,q6,fun _=>by rw[W]; exact q7⟩
 have:=Ll (P:=P) (f:=sp.f) (fj sp) (bif fj sp then (fp H.length).filter (fS ids) else []) (e:=a_ H ids) (H:=aj H) (args:=sp.args0 (g++k)) (H0:=aj (sp.H0 (g++k)))
  (Ps:=Ps) (Vf:=fun r=>sp.out r) (Hf:=fun r=>aj (sp.H1 r)) (args0:=asx) hc hlen (by rw[dU]; rfl) hnd ?_ ?_ (fun _ _=>qQ hup) ?_ (fun B=>by rw[B]; rfl) ?_ ?_ ?_ ?_ ?_ ?_
 ·refine ff.mono this fun v' H'' ⟨r, hr, h3, h4⟩ => ⟨r, hr, ?_, ?_⟩
  ·rw [h3]
   unfold iB;rw[hids]
  ·rw [h4]
   unfold iB;rw[hids];exact(LH ..).symm
 ·intro j o q
  have A:j<ids.length:=by rw[hlen]; exact aJ q
  obtain⟨sh,o',g1,I,R,F,M,J,W,q6,q7,q8⟩:=hobjs j A;obtain⟨r1,r2,r3⟩:=vX (lens:=bB sp.aK (g++k)) (d:=g1++I) M;rw[bl J]at q;cases q;refine⟨o'.den,bl F,fun v=>?_⟩;rw[r1,r2,q7,q8];simp only[aT];constructor
  ·rintro rfl
   exact⟨0,rfl,by omega⟩
  ·rintro ⟨u, rfl, rfl⟩
   omega
 ·intro E E0 O HE N U j o q
  have A:j<ids.length:=by rw[hlen]; exact aJ q
  obtain⟨sh,o',g1,I,R,F,M,J,W,q6,q7,q8⟩:=hobjs j A;rw[bl J]at q;cases q;exact Ep (hK E E0 O HE N U) M I A (fun l hl=>N.jk j _ l (by rw[U]; exact bl J) (by rw[pd,hl])) (HE.obj _ _ (by rw[O]; exact bl F))
 ·intro r _
  rw[dU,dU];simp only[ax.H0,ax.H1,wb];exact hle
 ·intro B r _
  simp only[fj,aw]at B;exact LD (EL B.1)
 ·intro B r _
  simp only[fj,aw]at B;exact EM B.2
 ·intro i hi
  cases B:fj sp with
  | true =>
   rw[B]at hi;simp only[cond_true,ga]at hi;exact Et hi.2
  | false =>
   rw[B]at hi;simp at hi
 ·intro j o o' q ho'
  have A:j<ids.length:=by rw[hlen]; exact aJ q
  obtain⟨sh,o2,g1,I,R,F,M,J,_⟩:=hobjs j A;rw[bl J]at q;rw[bl F]at ho';cases q;cases ho';rw[En M,pd]
 ·intro r _ j o l q hl
  obtain⟨sh,h5,h6⟩:=LR (show (aj (bZ (bB sp.dQ r) sp.dQ r))[j]? = some o from q);obtain⟨sh0,h7,h8⟩:=zX hlab j sh l h5 (by rw[←h6,hl]);obtain⟨o0,h9,h10⟩:=EO (bB sp.aK (g++k)) sp.aK (g++k) j sh0 h7;exact⟨o0,h9,by rw[h10,h8]⟩
 ·intro E E0 cs O HE N U hr
  have hS:=(qM (hK E E0 O HE N U) h2 []).2.2.2 cs hr;rw[gS]at hS;simp only[ax.args0,hd];exact hS
def tA(x:bk)(s:al):Option (Bool × al):=match x with
 |.normal=>some (true,s)
 |_=>none
def tC(fn:Func):Code:=match fn.body with
 |some (.seq a _)=>a
 |_=>.skip
def ME(fn:Func):Code:=match fn.body with
 |some (.seq _ (.seq b _))=>b
 |_=>.skip
def AU(fn:Func):Code:=match fn.body with
 |some (.seq _ (.seq _ c))=>c
 |_=>.skip
def g_(fn:Func):Array Oper:=match ME fn with
 |.region _ ops _=>ops
 |_=>#[]
def wK(fn:Func)(n:Nat):Oper:=(g_ fn).toList.getD n default
def sL(P:Program)(τ:ah)(fn:Func)(sp:ax)(n:Nat)(d:List G):al:=((bQ P τ au (tC fn) ⟨dY (sp.args0 d) fn.ntmps,sp.H0 d⟩ fun x s=>match x with | .normal=>ef P τ (g_ fn) ((g_ fn).toList.take n) s fun s=>.done .normal s|_=>.fail).leaf tA).getD ⟨[],[]⟩
def pE(fn:Func)(n:Nat)(s:al):List AV:=match eU s.den.eval (wK fn n).op with
 |some (_,d)=>d
 |none=>[]
theorem MF{β:Type}{t:Option (List G)}{k:List G→Option β}{r:β}(h:ao t k=some r):∃ g,t=some g∧k g=some r:=by
 unfold ao at h;cases t with
 |none=>cases h
 |some g=>exact⟨g,rfl,h⟩
theorem MG(hm:P.follows .mixedOrders=true){F:ah}(O:ai P τ)(M:ai P F){L:LT}{g sp:ax}{fn:Func}(hf:P.funcs[sp.f]? = some fn)(hfr:iP sp.aK=true){d r Y:List G}{Ps:List G→Prop}(hN:gp P g Y Ps id)(hE:qR g=true)(hbN:dE P g.f=true)
  {r0 rest:Code} {id:Nat} {ops:Array Oper} (U:fn.body=some (.seq r0 (.seq (.region id ops false) rest))) (W:ay P sp.aK.length L (aN fn)) {l1 l2:List Oper} {oc:Oper} (hops:ops.toList=l1++oc::l2) (hg:oc.guard=none) {t:Tmp} (hd:oc.dst=some t) {S1:al}
  (h1:(bQ P τ au r0 ⟨dY (sp.args0 d) fn.ntmps,sp.H0 d⟩ fun x s=>match x with | .normal=>ef P τ ops l1 s fun s=>.done .normal s|_=>.fail).leaf tA=some S1)
  {A:List AV} (hc:eU S1.den.eval oc.op=some (g.f,A)) (hY:wJ g A S1.H=some (true,Y)) {tl:List G→Option (List G)}
  (h2:∀ e,(ef P F ops l2 ⟨S1.fr.set t (iB g A S1.H e).1,(iB g A S1.H e).2⟩ fun s=>bQ P F L rest s .done).leaf (eY P fn.results.toList sp)=tl e) (hT:∀ e,Ps e→tl e=some r) :
  cg P sp.f (sp.args0 d) (aj (sp.H0 d)) (sp.out r) (aj (sp.H1 r)):=by
 have N:aN fn=.seq r0 (.seq (.region id ops false) rest):=by unfold aN; rw[U]
 rw[N]at W;have hLr:ay P sp.aK.length L rest:=W.sub (fun p I=>by simp only[bC,bV]; exact .inr (.inr I)) (fun p I=>by
  simp only[bA,bV]
  first
  |exact .inr (.inr I)
  |exact .inr (.inr (.inr I))
  |exact .inr (.inr (.inr (.inr I))))
 obtain⟨x,s',g1,g2⟩:=dK hm O (m:=sp.aK.length) r0 _ _ (aG _ _ _) (iu h1);cases x with
 |exit _=>exact g2.elim
 |ret=>exact g2.elim
 |normal =>
 obtain⟨B,g3,g4⟩:=o9 O g2;have g4:tA .normal B=some (true,S1):=g4;simp only[tA,aT,aZ,true_and]at g4;subst g4;have key:∀ e,Ps e→∃ s2 x s3,eO P F.pf ops l2 ⟨B.fr.set t (iB g A B.H e).1,aj (iB g A B.H e).2⟩ s2∧bU P sp.aK.length rest s2 x s3.den∧eY P fn.results.toList sp x s3=some (true,r):=fun e he=>by
  have:=h2 e;rw[hT e he]at this;obtain⟨s2,k1,k2⟩:=o9 M (iu this);obtain⟨x,s3,k3,k4⟩:=dK hm M (m:=sp.aK.length) rest s2 .done hLr k2;exact⟨s2.den,x,s3,k1,k3,k4⟩
 have hx:∀ e,∃ q:St × bk × al,Ps e→eO P F.pf ops l2 ⟨B.fr.set t (iB g A B.H e).1,aj (iB g A B.H e).2⟩ q.1∧bU P sp.aK.length rest q.1 q.2.1 q.2.2.den∧eY P fn.results.toList sp q.2.1 q.2.2=some (true,r):=fun e=>by
  by_cases he:Ps e
  ·obtain ⟨s2, x, s3, k⟩ := key e he
   exact⟨(s2,x,s3),fun _=>k⟩
  ·exact⟨(⟨[],[]⟩,.normal,⟨[],[]⟩),fun h=>(he h).elim⟩
 obtain⟨q,J⟩:=CB hx;refine gp.same (Ps:=Ps) (R:=fun _=>r) (AP (x:=fun e=>(q e).2.1) (s0:=fun e=>(q e).2.2) hf (by rw[U]; rfl) hfr ?_ fun e he=>(J e he).2.2) fun _ _=>rfl;rw[N];refine tx g1 (AO (S:=fun e=>(q e).1) ?_ fun e he=>(J e he).2.1);exact Mr hops g3 hg hd (V:=fun e=>(iB g A B.H e).1) (HH:=fun e=>aj (iB g A B.H e).2) hc hbN (XH hE hY hN) fun e he=>(J e he).1
def mD(sp:eB)(tl:List G→Option (List G))(d:List G)(b:Nat)(p:List (List G)):Option (List G):=bif sp.side d b then (cQ sp.st sp.br p (sp.init d b)).bind tl else none
def AW(sp:eB)(tl:List G→Option (List G))(rows:List (List G))(d e:List G):Prop:=∃ b p,p.Perm rows∧mD sp tl d b p=some e
noncomputable def tD{β:Type}(sp:eB)(tl:List G→Option (List G))(rows:List (List G))(clock:Nat)(d:List G)(k:List G→Option β):Option β:=bif eC rows clock then pz rows (fun b p=>(mD sp tl d b p).bind k) else none
theorem MH{β:Type}{sp:eB}{tl:List G→Option (List G)}{rows:List (List G)}{clock:Nat}{d:List G}{k:List G→Option β}{r:β}(h:tD sp tl rows clock d k=some r):eC rows clock=true∧(∀ b p,p.Perm rows→(mD sp tl d b p).isSome=true)∧∀ e,AW sp tl rows d e→k e=some r:=by
 unfold tD at h;cases aL:eC rows clock with
 |false=>rw[aL]at h; cases h
 | true =>
  rw[aL]at h;have q:=Ap h;refine⟨rfl,fun b p g=>?_,fun e ⟨b,p,g,he⟩=>?_⟩
  ·have := q b p g
   cases A:mD sp tl d b p with
   |none=>rw[A]at this; cases this
   |some e=>rfl
  ·have := q b p g
   rw[he]at this;exact this
theorem XI(hm:P.follows .mixedOrders=true)(F:ai P τ){rs:eB}{sp:ax}{fn:Func}(A:P.funcs[sp.f]? = some fn)(hfr:iP sp.aK=true){ra rb rbody rest:Code}{r0 b0 r1 b1 r2:Nat}{ops0 ops1 ops2:Array Oper}
  (O:fn.body=some (.seq ra (.seq rb (.seq (jo r0 b0 r1 b1 r2 ops0 ops1 ops2 rs.t2 rbody) rest)))) {inv:kD} {ps:List gX} {ini:List G→List G} {ri rows:List G→List (List G)} {ci clock:List G→Nat}
  (W:∀ d,(bQ P τ au ra ⟨dY (sp.args0 d) fn.ntmps,sp.H0 d⟩ fun x s=>match x with | .normal=>bQ P τ au rb s .done|_=>.fail).leaf (nB sp.aK.length inv ps)=some (ini d))
  (Y:∀ d,(aM rs.inv d).H[rs.id]? = some (.map rs.K rs.V (ri d) (ci d))) (U:∀ r d d',rs.st r d=some d'→ri d'=ri d∧ci d'=ci d) (him:Nat.blt rs.id sp.aK.length=true) (M:(As P rs ops0&&Au rs ops1&&Av rs ops2)=true)
  (hr:lE P τ au sp.aK.length rs ops2 rbody) (hu1:∀ d,(aM rs.inv d).fr[rs.t1]? = some .undef) (hu2:∀ d,(aM rs.inv d).fr[rs.t2]? = some .undef) (hut:∀ d,(aM rs.inv d).fr[rs.it]? = some (.lit (.pointer (some ⟨rs.br d,0,none⟩))))
  {pre:List G→al} (hy:∀ d,(ef P τ ops0 ops0.toList.dropLast (aM inv d) fun s=>.done .normal s).fk=some (.normal,pre d)) (hx:∀ d,(pre d).eval (.tmp rs.y)=.map rs.id) (hid:∀ d,(pre d).H[rs.id]? = some (.map rs.K rs.V (rows d) (clock d)))
  (hin:∀ d b,gY sp.aK.length rs.inv rs.ps (gH rs.opens (rs.tu (pre d) b))=some (rs.side d b,rs.init d b)) (hadr:∀ d b,rs.br (rs.init d b)=b) (hri:∀ d b,ri (rs.init d b)=rows d∧ci (rs.init d b)=clock d) {tl:List G→Option (List G)}
  (htl:∀ d,(bQ P τ au rest (aM rs.inv d) .done).leaf (eY P fn.results.toList sp)=tl d) {d:List G} (aL:eC (rows (ini d)) (clock (ini d))=true) (hall:∀ b p,p.Perm (rows (ini d))→(mD rs tl (ini d) b p).isSome=true) :
  gp P sp d (AW rs tl (rows (ini d)) (ini d)) id:=by
 have hbo:aN fn=.seq ra (.seq rb (.seq (jo r0 b0 r1 b1 r2 ops0 ops1 ops2 rs.t2 rbody) rest)):=by unfold aN; rw[O]
 obtain⟨hn,hlt⟩:=Aq aL;simp only[aw]at M;obtain⟨x,s',g1,g2⟩:=dK hm F (m:=sp.aK.length) ra _ _ (aG _ _ _) (iu (W d));cases x with
 |exit _=>exact g2.elim
 |ret=>exact g2.elim
 |normal =>
 obtain⟨x,s1',g3,g4⟩:=dK hm F (m:=sp.aK.length) rb _ _ (aG _ _ _) g2;cases x with
 |exit _=>exact(by cases g4)
 |ret=>exact(by cases g4)
 |normal =>
 have g4:gY sp.aK.length inv ps s1'=some (true,ini d):=g4;generalize hd2:ini d=d2 at *;have I:∀ b p,p.Perm (rows d2)→rs.side d2 b=true∧∃ d1,cQ rs.st rs.br p (rs.init d2 b)=some d1∧∃ e,tl d1=some e:=fun b p g=>by
  have:=hall b p g;unfold mD at this;cases N:rs.side d2 b with
  |false=>rw[N]at this; cases this
  | true =>
   rw[N]at this;simp only[cond_true]at this;cases A:cQ rs.st rs.br p (rs.init d2 b)with
   |none=>rw[A]at this; cases this
   | some d1 =>
    rw[A]at this;have this:(tl d1).isSome=true:=this;exact⟨rfl,d1,rfl,n_.1 this⟩
 have key:∀ e,∃ q:List G × bk × al,AW rs tl (rows d2) d2 e→True:=fun e=>⟨([],.normal,⟨[],[]⟩),fun _=>trivial⟩
 let α:=Nat × List (List G)
 have B:∀ o:α,∃ q:List G × bk × al,o.2.Perm (rows d2)→cQ rs.st rs.br o.2 (rs.init d2 o.1)=some q.1∧bU P sp.aK.length rest (aM rs.inv q.1).den q.2.1 q.2.2.den∧∃ e,tl q.1=some e∧eY P fn.results.toList sp q.2.1 q.2.2=some (true,e):=fun o=>by
  by_cases g:o.2.Perm (rows d2)
  ·obtain ⟨_, d1, h1, e, k⟩ := I o.1 o.2 g
   have R:=htl d1;rw[k]at R;obtain⟨x,s3,k3,k4⟩:=dK hm F (m:=sp.aK.length) rest _ .done (aG _ _ _) (iu R);exact⟨(d1,x,s3),fun _=>⟨h1,k3,e,k,k4⟩⟩
  ·exact⟨([],.normal,⟨[],[]⟩),fun h=>(g h).elim⟩
 obtain⟨q,B⟩:=CB B;have J:∀ o:α,∃ e,o.2.Perm (rows d2)→tl (q o).1=some e∧eY P fn.results.toList sp (q o).2.1 (q o).2.2=some (true,e):=fun o=>by
  by_cases g:o.2.Perm (rows d2)
  ·obtain ⟨_, _, e, h1, k⟩ := B o g
   exact⟨e,fun _=>⟨h1,k⟩⟩
  ·exact⟨[],fun h=>(g h).elim⟩
 obtain⟨res,J⟩:=CB J;have main:gp P sp d (fun o:α=>o.2.Perm (rows d2)) res:=by
  refine AP (x:=fun o=>(q o).2.1) (s0:=fun o=>(q o).2.2) A (by rw[O]; rfl) hfr ?_ fun o g=>(J o g).2;rw[hbo];refine tx g1 (tx (qs g3 (jm g4)) (AO (S:=fun o=>(aM rs.inv (q o).1).den) ?_ fun o g=>(B o g).2.1));intro ro hro E a hs;refine wpIn_mono (Mf hm F (aG _ _ _) hr (L6 M.1.1 M.1.2 M.2) hu1 hu2 hut Y U (by rw[←gB]; exact him) (Ax F (hy d2)) (hx d2) (hid d2) hn hlt (fun b=>by rw[hin d2 b,(I b (rows d2) (sc _)).1]) (hadr d2) (hri d2) (fun b p g=>?_) E a hs ro (L2 hro)) fun e a1 w1 hh=>?_
  ·obtain ⟨_, d1, k, _⟩ := I b p g
   rw[k];rfl
  ·obtain ⟨rfl, b, p, d1, g, A, hM⟩ := hh
   have:=(B (b,p) g).1;rw[A]at this;cases this;exact⟨(b,p),g,rfl,hM⟩
 refine ff.mono main fun v H' ⟨o,g,h1,k⟩=>⟨res o,⟨o.1,o.2,g,?_⟩,h1,k⟩
 unfold mD;rw[(I o.1 o.2 g).1,(B o g).1];exact(J o g).1
end Go.AL

namespace Go.AL
open Go Go.Proofs
variable [Dr]
def Fi(d:List G):Option (List G):=some [.l (gi d 0).rows,.i (((gi d 1).int.toNat:Nat):Int),.l (gi d 0).rows,.i (((gi d 1).int.toNat:Nat):Int)]
theorem XJ{P:Program}{ρ:Go.Shelf.Ren}(L:SlLaysW.n5 P ρ)(K V:Ct)(d r:List G)(h:Fi d=some r) :
  cg P (ρ.f 5) (dL (bB [.map K V] d) [.s (.map 0)] (dv 2 d)) (aj (bZ (bB [.map K V] d) [.map K V] d))
   (ct (dL (bB [.map K V,.map K V] r) [.s (.map 1)] (dv 4 r))) (aj (bZ (bB [.map K V,.map K V] r) [.map K V,.map K V] r)):=by
 have e0:gi d 0=d.headD default:=rfl;have e1:gi d 1=d.tail.headD default:=by
  cases d with
  |nil=>rfl
  |cons x l=>cases l<;>rfl
 unfold Fi at h;cases h;rw[e0,e1];generalize M:(d.headD default).rows=rows;generalize R:(d.tail.headD default).int.toNat=clock;intro E cargs hH HE k;simp only[dL,lz,eA,bZ,eX,aj,List.map_cons,List.map_nil,ak.den,dv,cn.sz,ew.sz,Sh.sz,mq,Nat.add_zero,ct]at hH k⊢;rw[M,R]at hH;simp only[List.headD_cons,List.tail_cons,G.rows,G.int,Int.toNat_natCast];obtain⟨cs⟩:=cargs
 match cs,k with
 | [c0],k =>
 simp only[ad,and_true,rel]at k;obtain⟨_,_,N⟩:=k;have F:E.H[0]? = some (af.map (cN K V rows) clock):=by rw[hH]; rfl
 obtain⟨b,n,U,rfl⟩:=N ⟨_,F,rfl⟩;obtain⟨J,g,ms,q,W,O⟩:=HE.obj 0 _ F;have Y:J=b:=by
  rw[U]at q;cases q;rfl
 subst Y;refine(AnyW.maps_Clone L J ms clock E.w W).mono ?_;rintro e w' ⟨rfl,rfl⟩;have B:Ext E.w (E.w.alloc (.map ms clock)):=Ext.push E.w (.map ms clock);have hle:=Env.jJ (E:=E) (w':=E.w.alloc (.map ms clock)) (o:=.map (cN K V rows) clock) (l:=some (E.w.heap.size,g)) HE.len B (fun b n h=>by cases h; exact aI _);have hlen:E.loc.length=1:=by rw[HE.len,hH]; rfl
 have A:(E.push (E.w.alloc (.map ms clock)) (.map (cN K V rows) clock) (some (E.w.heap.size,g))).loc[1]? = some (some (E.w.heap.size,g)):=by
  show (E.loc++[_])[1]? = _
  rw[gx (by omega),hlen];rfl
 have hob:aO (E.push (E.w.alloc (.map ms clock)) (.map (cN K V rows) clock) (some (E.w.heap.size,g))) E.H.length (.map (cN K V rows) clock):=by
  rw[show E.H.length=1 by rw[hH]; rfl];simp only[aO];exact⟨_,_,ms,A,Cy E.w (.map ms clock),l7 (fun a c h=>cC hle a h) O⟩
 have hhr:=ar.push (E:=E) (w':=E.w.alloc (.map ms clock)) (o:=.map (cN K V rows) clock) (l:=some (E.w.heap.size,g)) HE B (fun b n h=>by cases h; exact⟨aI _,by rw[l4]; omega⟩) hob;have I:E.H++[.map (cN K V rows) clock]=[.map (cN K V rows) clock,.map (cN K V rows) clock]:=by rw[hH]; rfl
 refine⟨_,_,_,rfl,⟨rfl,rfl⟩,E.loc++[some (E.w.heap.size,g)],E.X.r,?_,?_,?_⟩
 ·simp only [rel]
  refine⟨⟨_,rfl⟩,⟨.map (cN K V rows) clock,rfl,fun v hv=>j5 _⟩,fun _=>⟨E.w.heap.size,g,A,rfl⟩⟩
 ·rw [← I]
  exact hhr
 ·rw [← I]
  exact hle
end Go.AL
