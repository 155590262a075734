/-
 What is proved here: the function that maps.Keys hands back,called with a round's body: each key of the map comes once,in some order. No program in sight; no condition but that the function's text is the library's.
-/
import Derived.Test.YtpgfflhcmodgdaaGreatDoorMG
set_option linter.all false
open Array renaming getElem?_eq_some_iff->kh,replicate->rG,toList_append->xG,toList_replicate->Jk
open Bool renaming and_eq_true->aO
open Classical renaming axiomOfChoice->ZN
open Go renaming FuncId->bJ,Program->ak,Oper->aQ
open Go.Deferred renaming ofValue->ZG
open Go.MapKept renaming heap_set->OV
open Go.Oper renaming semAt_eq->rF
open Go.Region renaming wanted->Jh
open Go.World renaming putObj_heap_same->asm,size_alloc->Js,alloc_heap_new->asn
open List renaming append_nil->dY,getElem?_eq_getElem->cB,mem_of_getElem?->gg,getD_eq_getElem?_getD->dc,range'->mW,range'_succ->Eg,mem_cons->c_,getElem?_of_mem->sT,mem_append->dm,replicate->cn,range->fm,range_eq_range'->Jj,mem_filter->mn,getElem_mem->vp
open Nat renaming le_refl->aV,le_add_right->gI,zero_add->dj,le_of_ble_eq_true->vo
open Option.some renaming injEq->bD
open Prod.mk renaming injEq->bM
namespace Go.AL
open Go Go.ChangeMaps
variable [Dr]
def kS(l it:Nat):List AV:=[.lit (.func (.yield l) #[] #[]),.undef,.undef,.undef,.undef,.lit (.pointer (some ⟨it,0,none⟩)),.undef,.undef,.undef,.undef,.undef,.undef,.undef,.undef]
def CD(f_:Array aQ)(r3:Nat):Code:=.seq (.region r3 f_ false) (.cond (.tmp 13) .ret .skip)
structure Mq (P:ak) (τ:aF) (K:Ct) (db dC cD f_:Array aQ):Prop where
 r0:∃o1 o2 ty,db.toList=[o1,o2]/\(o1.guard=none/\o1.op=.load ty (.tmp 1)/\o1.dst=some 4)/\(o2.guard=none/\o2.op=.range ty (.tmp 4)/\o2.dst=some 5)/\(eT P ty).isSome=true/\gL P ty=some (1,false)
 r1:∃o1 o2,dC.toList=[o1,o2]/\o1.guard=none/\o1.op=.next (.tmp 5) false/\o1.dst=some 6/\o2.guard=none/\o2.op=.extract (.tmp 6) 0/\o2.dst=some 7
 r2:∃o1 l,cD.toList=o1::l/\o1.guard=none/\o1.op=.entry (.tmp 5)/\o1.dst=some 8
 r3:∃u1 u2 u3 u4 t iG,f_.toList=[u1,u2,u3,u4]/\(u3.guard=none/\u3.op=.call { callee:=.value (.tmp 10),args:=#[.tmp 11],argTypes:=iG }/\u3.dst=some 12)/\(u4.guard=none/\u4.op=.unOp .not t (.tmp 12)/\u4.dst=some 13)
 ae:∀(l it:Nat) (g:LG),∃s2 s3:aG,(g_ P τ cD (cD.toList.drop 1) ⟨(kS l it).set 8 (.tuple [K.av g,.undef]),[]⟩ fun s=>.done .normal s).kR=some (.normal,s2) /\
  (g_ P τ f_ (f_.toList.take 2) s2 fun s=>.done .normal s).kR=some (.normal,s3)/\s3.fr.length=14/\s3.fr[0]?=some (.lit (.func (.yield l) #[] #[]))/\s3.fr[5]?=some (.lit (.pointer (some ⟨it,0,none⟩)))/\s3.fr[10]?=some (.lit (.func (.yield l) #[] #[]))/\s3.fr[11]?=some (K.av g)
def mI(E:ah):ah:=(lv E).qg
variable {E:ah}
theorem aeI(HE:aJ E):aJ (mI E):=(L3 HE).fF (vW (L3 HE))
theorem Mr(b:Nat):¬ (mI E).af b:=by
 rintro(⟨id,c,d⟩|⟨l,k,c,h⟩)<;>simp_all[mI,lv,ah.qg,fK]
theorem aeJ:E.ct (mI E):=⟨fun b hb=>⟨⟨hb.1,Mr b,fun d=>d.elim hb.2.2 hb.2.1⟩,rfl⟩⟩
theorem GH{l it:Nat}{fr:List AV}{H:List aj}{E0 E':ah}{a:Act}(d:cQ ⟨fr,H⟩ E0 a)(v:∀ b,¬ E0.X.z b)(h:fr.length=14) (h0:fr[0]? = some (.lit (.func (.yield l) #[] #[]))) (y:fr[5]? = some (.lit (.pointer (some ⟨it,0,none⟩)))) (k:aJ E') :
  cQ ⟨kS l it,[]⟩ (mI E') a:=by
 have hm:cQ ⟨kS l it,H⟩ E0 a:=by
  refine⟨d.H,Sw d.fr (by rw[h]; rfl) fun j b hb=>?_,d.defers,d.heap⟩
  match j,hb with
  |0,hb=>exact .inr (by rw[h0]; exact hb)
  |5,hb=>exact .inr (by rw[y]; exact hb)
  |1,hb=>exact .inl (by cases hb; rfl)
  |2,hb=>exact .inl (by cases hb; rfl)
  |3,hb=>exact .inl (by cases hb; rfl)
  |4,hb=>exact .inl (by cases hb; rfl)
  |j+6,hb=>
   left;have I:kS l it=[.lit (.func (.yield l) #[] #[]),.undef,.undef,.undef,.undef,.lit (.pointer (some ⟨it,0,none⟩))]++cn 8 .undef:=rfl
   grind
 refine⟨rfl,Sx hm.fr fun b hb=>?_,?_,aeI k⟩
 ·simp only[kS,c_,List.not_mem_nil,or_false]at hb
  grind
 ·rw[GB d.defers v]
  exact tn _ _
section ky
variable {P:ak} {τ:aF} {K V:Ct} {db dC cD f_:Array aQ}
theorem aeK(ht:aH P τ)(ho:Mq P τ K db dC cD f_){f:bJ}{fn:Func}{r0 r1 r2 r3 b0 b1:Nat}(hf:P.funcs[f]? = some fn) (hb:fn.body=some (ph r0 b0 r1 b1 r2 db dC cD 7 (CD f_ r3))) (hn:fn.ntmps=14) (hr:fn.results=#[])
  {l mb nn y:Nat} {rZ:LL} (hnd:(rZ.map dM).Nodup) (hlt:∀r∈rZ,dM r<y) (J:LL->ah->Prop) (hJ:∀p E,J p E->aJ E)
  (hJs:∀p E E',J p E->E.le E'->aJ E'->E'.H=E.H->J p E')
  (hJa:∀p E o,J p E->J p { w:=E.w.alloc o,H:=E.H,ae:=E.ae,X:=E.X.or fun b=>b=E.w.heap.size })
  (hJi:∀p E w' d,J p E->l<d->E.X d->(∃q c s z,E.w.heap[d]?=some (.mapIter q c s z))->w'.heap.size=E.w.heap.size->(∀b,b≠d->w'.heap[b]?=E.w.heap[b]?)->fl E.w w'->J p { E with w:=w' })
  (hJl:∀p E,J p E->l<E.w.heap.size)
  (hmap:∀p E,J p E->E.H[1]?=some (.map (dA K V rZ) y)/\E.ae[1]?=some (some (mb,nn)))
  (hround:∀p r q E (cs:Array Value),(p++r::q).Perm rZ->J p E->aw E [K.av (gi r 0).rV] cs.toList->YieldAt (fz none) 0 P l cs E.w fun e W'=>e=.returned (.bool true)/\∃E',E'.w=W'/\J (p++[r]) E'/\(∀b,E.X b->E'.X b)/\∀b,b<E.w.heap.size->E.X b->b≠l->W'.heap[b]?=E.w.heap[b]?)
  {E0:ah} {c:Value} (h0:J [] E0) (hbox:E0.H[0]?=some (.box [.map 1])) (hcp:ad E0 (.ptr 0 0 0 0 0) c) :
  CallsIn (fz none) 0 P f #[.func (.yield l) #[] #[],c] E0.w fun e W'=>(∃v,e=.returned v)/\∃E' p,E'.w=W'/\p.Perm rZ/\J p E':=by
 obtain⟨o1,o2,ty,q0,⟨g1,p1,d1⟩,⟨g2,p2,d2⟩,hty,hvar⟩:=ho.r0;refine callsIn_of_wp_marks hf hb trivial ?_;have HE0:=hJ _ _ h0;have hsz0:db.size=2:=by
  have:db.toList.length=2:=by rw[q0]; rfl
  omega
 have hs0:cQ ⟨.lit (.func (.yield l) #[] #[])::.ptr 0 0 0 0 0::cn 12 .undef,E0.H⟩ E0.qg { tmps:=#[.func (.yield l) #[] #[],c]++rG (fn.ntmps-2) undef,defers:=[] }:=by
  refine⟨rfl,?_,tn _ _,HE0.fF (vW HE0)⟩;rw[hn];simp only[xG,Jk];show aw E0.qg ([.lit (.func (.yield l) #[] #[]),.ptr 0 0 0 0 0]++cn 12 .undef) ([.func (.yield l) #[] #[],c]++cn 12 undef)
  refine oS (by simp only[aw]; exact⟨by simp[ad],KG (vW HE0) _ hcp,trivial⟩) ?_;exact yp (cn 12 undef)
 refine wpIn_seq (wpIn_region ?_);rw[hsz0];show wpOpsIn (fz none) 0 P db _ (mW 0 1++[1]) _ E0.w
 refine aew (pf:=fun _=>false) (J:=J []) (l:=[o1]) (k:=0) (hJs []) (fun j o W=>?_) hs0 h0 (fr':=(.lit (.func (.yield l) #[] #[])::.ptr 0 0 0 0 0::cn 12 .undef).set 4 (.map 1)) ?_ fun a1 I hj1 hs1=>?_
 ·have hlt:j<1 :=gB
  have:j=0:=ab;subst this;rw[pj q0];exact W
 ·refine Sy (v:=.map 1) (aet g1 (by rw[p1]; rfl) ?_) d1 Sz
  rw[p1];show nm P ty (.ptr 0 0 0 0 0) E0.H=_
  unfold nm;rw[hvar];simp only[hbox,and_self,if_true];rfl
 obtain⟨hm1,hm2⟩:=hmap _ _ hj1;have hrx:ad I.qg (.map 1) (a1.eval (.tmp 4)):=by
  have:=hs1.eval (.tmp 4)
  grind[St.eval]
 obtain⟨mb',n',ms0,hc,hloc,hmb,hre⟩:=vJ (E:=I.qg) hs1.heap hm1 hrx;have hmbe:mb'=mb:=by
  have h:I.ae[1]?=some (some (mb',n')):=hloc;rw[hm2]at h;simp only[bD,bM]at h;exact h.1.symm
 subst hmbe;obtain⟨⟨kt,et⟩,hty⟩:=Option.isSome_iff_exists.1 hty;rw[wpOpsIn_cons];refine pg (show db[1]?=some o2 by rw[pj q0]; rfl) g2 (Sp p2 hc (run_range_map I.w ty kt et mb' ms0 y (gW hty) hmb)) (fun c e=>by rw[p2]at e; cases e) none ?_;rw[d2];show (Code.block _ _).wpIn (fz none) 0 P _ _ _
 obtain⟨d,hitb⟩:∃d,d=I.w.heap.size:=⟨_,rfl⟩
 generalize hw2:I.w.alloc (.mapIter (some mb') y #[] y)=O;have hj2:=hJa [] I (.mapIter (some mb') y #[] y) hj1;rw[hw2]at hj2;have hitn:O.heap[d]?=some (.mapIter (some mb') y #[] y):=by rw[<-hw2,hitb]; exact(show (I.w.heap.push _)[I.w.heap.size]?=_ by simp)
 have hd1:a1.defers=[]:=GB hs1.defers fun _ h=>h;obtain⟨a2,ha2⟩:∃a2,a2=a1.put (some 5) (.pointer (some ⟨I.w.heap.size,0,none⟩)):=⟨_,rfl⟩
 have hs2:cQ ⟨kS l d,[]⟩ (mI { w:=O,H:=I.H,ae:=I.ae,X:=I.X.or fun b=>b=I.w.heap.size }) a2:=by
  have hp:=hs1.ox 5 (v:=.lit (.pointer (some ⟨I.w.heap.size,0,none⟩))) (u:=.pointer (some ⟨I.w.heap.size,0,none⟩)) (by simp[ad]);rw[ha2];exact GH hp (fun _ h=>h) rfl (by rfl) (by rw[hitb]; rfl) (hJ _ _ hj2)
 rw[show (a1.put (some 5) (.pointer (some ⟨I.w.heap.size,0,none⟩)))=a2 from ha2.symm];have hlt_l:l<d:=by
  have:=hJl _ _ hj1;omega
 have hne_l:d≠l:=ab;refine wpIn_block (wpIn_loop (fun a w=>∃(E:ah) (p:LL) (seen:Array Nat) (last:Nat),E.w=w/\J p E/\E.X d/\w.heap[d]? = some (.mapIter (some mb') y seen last)/\y<=last/\(p++rZ.filter fun x => !seen.contains (dM x)).Perm rZ/\cQ ⟨kS l d,[]⟩ (mI E) a)
  (fun _ w=>(rZ.filter fun x => !(w.iterSeen d).contains (dM x)).length) ⟨_,[],#[],y,rfl,hj2,.inr hitb,hitn,aV _,?_,hs2⟩ ?_)
 ·have:(rZ.filter fun x => !(#[]:Array Nat).contains (dM x))=rZ:=List.filter_eq_self.2 (fun x _=>by simp)
  rw[List.nil_append,this]
 rintro a _ ⟨E,p,seen,last,rfl,hj,hXi,hit,hcl,hp,hs⟩;have HE:=hJ _ _ hj;obtain⟨hmE1,hmE2⟩:=hmap _ _ hj;have hob:=HE.obj 1 _ hmE1;simp only[a6]at hob;obtain⟨N,nn2,U,hlo2,hmb2,hre2⟩:=hob;have hmbe2:N=mb':=by
  have h:=hlo2;rw[hmE2]at h;simp only[bD,bM]at h;exact h.1.symm
 subst hmbe2;have hne:N≠d:=fun e=>(HE.lt 1 N nn hmE2).2 (by rw[e]; exact hXi);obtain⟨i1,i2,e1,ga1,pa1,qa1,ga2,pa2,qa2⟩:=ho.r1;obtain⟨o3,l2,e3,gb,pb,qb⟩:=ho.r2;obtain⟨u1,u2,u3,u4,t7,iG,e4,⟨gc3,pc3,dc3⟩,⟨gc4,pc4,dc4⟩⟩:=ho.r3;have hsz1:dC.size=2:=by
  have:dC.toList.length=2:=by rw[e1]; rfl
  omega
 have hiv:a.eval (.tmp 5)=.pointer (some ⟨d,0,none⟩):=by
  have:=hs.eval (.tmp 5);simpa[St.eval,kS,ad]using this
 obtain⟨hlen,hen⟩:=fA.1 hre2;have hl1:(dA K V rZ).length=rZ.length:=by simp[dA]
 have row_of:∀(i:Nat) (e:MapEntry),U.toList[i]?=some e->∃r,rZ[i]?=some r/\e.born=dM r:=by
  intro i e hi;have h1:=bl hi;have h2:i<rZ.length:=ab;refine⟨rZ[i],cB h2,?_⟩;exact(hen i (K.av (gi rZ[i] 0).rV,V.av (gi rZ[i] 1).rV,(gi rZ[i] 2).iV.toNat) e (by simp[dA,h2]) hi).2.2.1
 have hold:∀x∈U.toList,x.born<y:=by
  intro x hx;obtain⟨i,hi⟩:=sT hx;obtain⟨r,h1,h2⟩:=row_of i x hi;rw[h2];exact hlt r (gg h1)
 have hbn:(U.toList.map (·.born)).Nodup:=by
  have:U.toList.map (·.born)=rZ.map dM:=by
   apply List.ext_getElem?;intro i;simp only[List.getElem?_map];cases hi:U.toList[i]? with
   |none=>
    have h1:=List.getElem?_eq_none_iff.1 hi;rw[List.getElem?_eq_none ab];rfl
   |some e=>
    obtain⟨r,h1,h2⟩:=row_of i e hi
    grind
  rw[this];exact hnd
 have hu6:(⟨kS l d,[]⟩:St).fr[6]?=some .undef:=rfl;have hu7:(⟨kS l d,[]⟩:St).fr[7]?=some .undef:=rfl;have hlt6:=Gv hs hu6;have hlt7:=Gv hs hu7;have hz:∀b,¬ (mI E).X.z b:=fun _ h=>h;refine wpIn_seq (wpIn_region ?_);rw[hsz1];show wpOpsIn (fz none) 0 P dC _ [0,1] a E.w
 rw[wpOpsIn_cons];rcases run_next_at (P:=P) E.w i1.type d N y last seen U y hit hmb2 hold hcl with⟨hz0,hrun⟩|⟨e,he,w1,hw1,hrun⟩
 ·refine pg (show dC[0]?=some i1 by rw[pj e1]; rfl) ga1 (Gx pa1 hiv hrun) (fun c e=>by rw[pa1]at e; cases e) none ?_
  rw[qa1,wpOpsIn_cons];refine pg (show dC[1]?=some i2 by rw[pj e1]; rfl) ga2 (Gw pa2 (uk hlt6) rfl) (fun c e=>by rw[pa2]at e; cases e) none ?_;rw[qa2];show (Code.seq _ _).wpIn (fz none) 0 P _ _ E.w
  refine wpIn_seq (wpIn_cond_false (uk (by simpa[Act.put]using hlt7)) (wpIn_exit ?_));simp only[Exit.then,Exit.inBlock,if_true];have hsf:=(hs.um hu6 (.tuple #[.bool false])).um hu7 (.bool false);have hd:((a.put (some 6) (.tuple #[.bool false])).put (some 7) (.bool false)).defers=[]:=GB hsf.defers fun _ h=>h;show LeavesInM (fz none) 0 P fn ((a.put (some 6) (.tuple #[.bool false])).put (some 7) (.bool false)).tmps _ ((a.put (some 6) (.tuple #[.bool false])).put (some 7) (.bool false)).defers .returning E.w
  rw[hd];refine⟨.tuple #[],?_,⟨_,rfl⟩,E,p,rfl,?_,hj⟩
  ·rw[BE,hr]
   simp
  ·have:(rZ.filter fun x => !seen.contains (dM x))=[]:=by
    rw[List.filter_eq_nil_iff];intro x hx hc;obtain⟨i,hi⟩:=sT hx;have h1:=bl hi;have h2:i<U.toList.length:=ab;obtain⟨r,h3,h4⟩:=row_of i _ (cB h2);rw[hi]at h3;cases h3;have:U.toList[i]∈(leftOf U seen).toList:=by
     unfold leftOf;rw[Array.toList_filter];refine mn.2 ⟨vp h2,?_⟩;rw[h4];exact hc
    have h5:(leftOf U seen).toList.length=0:=ab;rw[List.length_eq_zero_iff.1 h5]at this;cases this
   grind
 ·refine pg (show dC[0]?=some i1 by rw[pj e1]; rfl) ga1 (Gx pa1 hiv hrun) (fun c e=>by rw[pa1]at e; cases e) none ?_
  rw[qa1,wpOpsIn_cons];refine pg (show dC[1]?=some i2 by rw[pj e1]; rfl) ga2 (Gw pa2 (uk hlt6) rfl) (fun c e=>by rw[pa2]at e; cases e) none ?_;rw[qa2];show (Code.seq _ _).wpIn (fz none) 0 P _ _ _
  refine wpIn_seq (wpIn_cond_true (uk (by simpa[Act.put]using hlt7)) (wpIn_skip ?_));show (Code.block _ _).wpIn (fz none) 0 P _ _ _
  refine wpIn_block (wpIn_seq (wpIn_region ?_));generalize hw2:setBlock w1 d (.mapIter (some N) y (seen.push e.born) y)=O;have hw1h:w1.heap=E.w.heap:=by rcases hw1 with rfl|rfl<;>rfl
  have hos:fl E.w O:=by rw[<-hw2]; rcases hw1 with rfl|rfl<;>exact⟨rfl,rfl,rfl,by first|exact fun _=>aV _|exact fun _=>gI _ _⟩
  have hit2':O.heap[d]?=some (.mapIter (some N) y (seen.push e.born) y):=by
   rw[<-hw2];exact(OV (by rw[hw1h]; exact hit)).1
  have hother:∀b,b≠d->O.heap[b]?=E.w.heap[b]?:=by
   intro b hb;rw[<-hw2];show (w1.heap.setIfInBounds d _)[b]?=_
   rw[(OV (by rw[hw1h]; exact hit)).2 b hb,hw1h]
  have hsize:O.heap.size=E.w.heap.size:=by
   rw[<-hw2];show (w1.heap.setIfInBounds d _).size=_
   simp[hw1h]
  have hjw:=hJi p E O d hj hlt_l hXi ⟨_,_,_,_,hit⟩ hsize hother hos;obtain⟨M,hE2⟩:∃M:ah,M={ E with w:=O }:=⟨_,rfl⟩
  rw[<-hE2]at hjw;have hE2w:M.w=O:=by rw[hE2]
  have HE2:=hJ _ _ hjw;have hX2:M.X d:=by rw[hE2]; exact hXi
  have hs1:=(hs.um hu6 (.tuple #[.bool true,e.key,e.val])).um hu7 (.bool true);have hs2:cQ ⟨kS l d,[]⟩ (mI M) _:=GH hs1 hz rfl rfl rfl HE2;obtain⟨hem,hes⟩:=mem_left he;obtain⟨i,hi⟩:=sT hem;obtain⟨r,hri,hrb⟩:=row_of i e hi;have hrm:=gg hri;have hkc:(K.av (gi r 0).rV).closed=true:=K.tD _;have k1:ad M (K.av (gi r 0).rV) e.key:=by
   obtain⟨hmE1',hmE2'⟩:=hmap _ _ hjw;have hob:=HE2.obj 1 _ hmE1';simp only[a6]at hob;obtain⟨mb3,nn3,ms3,hlo3,hmb3,hre3⟩:=hob;have h3:mb3=N:=by
    have h:=hlo3;rw[hmE2']at h;simp only[bD,bM]at h;exact h.1.symm
   subst h3;have hmm:ms3=U:=by
    rw[hE2w,hother mb3 hne,hmb2]at hmb3;cases hmb3;rfl
   subst hmm;exact((fA.1 hre3).2 i (K.av (gi r 0).rV,V.av (gi r 1).rV,(gi r 2).iV.toNat) e (by simp[dA,hri]) hi).1
  have k1h:ad (mI M) (K.av (gi r 0).rV) e.key:=gk aeJ _ hkc k1;have hsz2:cD.size=l2.length+1:=by
   have:cD.toList.length=l2.length+1:=by rw[e3]; rfl
   omega
  have hl2:cD.toList.drop 1=l2:=by rw[e3]; rfl
  obtain⟨s2,s3,hv2,hv3,f14,f0,f5,f10,f11⟩:=ho.ae l d (gi r 0).rV;have ao2:=Mn ht hv2;have ao3:=Mn ht hv3;have hlp:(p++(r::rZ.filter fun x => !(seen.push (dM r)).contains (dM x))).Perm rZ:=
   (List.Perm.append_left p (Gu hnd hrm (by rw[<-hrb]; exact hes)).symm).trans hp
  have hmb2':O.heap[N]?=some (.map U y):=by rw[hother N hne]; exact hmb2
  rw[hsz2,Jj,Eg,wpOpsIn_cons];have hiv1:((a.put (some 6) (.tuple #[.bool true,e.key,e.val])).put (some 7) (.bool true)).eval (.tmp 5)=.pointer (some ⟨d,0,none⟩):=by
   have:=hs2.eval (.tmp 5);simpa[St.eval,kS,ad]using this
  refine pg (show cD[0]?=some o3 by rw[pj e3]; rfl) gb (Sn pb hiv1 (run_entry_at (P:=P) O d N y seen U y e hit2' hmb2' hem hbn)) (fun c e=>by rw[pb]at e; cases e) none ?_;rw[qb];have hs3:=hs2.ox 8 (v:=.tuple [K.av (gi r 0).rV,.undef]) (u:=.tuple #[e.key,e.val]) (by simp only[ad]; exact⟨_,rfl,by simp only[aw]; grind[ad]⟩);have hnil:mW (0+1) l2.length=mW 1 l2.length++[]:=gB;rw[hnil];rw[<-hE2w];refine uj (pf:=τ.pf) none l2 1 _ _ (mI M) _ [] (fun j o W=>?_) (by rw[hl2]at ao2; exact ao2) hs3 fun a4 w4 hc4=>?_
  ·rw[pj e3]
   grind
  obtain⟨loc4,rr4,hs4,hle4⟩:=hc4;show (CD f_ r3).wpIn (fz none) 0 P _ a4 w4
  have hsz3:f_.size=4:=by
   have:f_.toList.length=4:=by rw[e4]; rfl
   omega
  refine wpIn_seq (wpIn_region ?_);rw[hsz3];show wpOpsIn (fz none) 0 P f_ _ (mW 0 2++[2,3]) a4 w4
  refine uj (pf:=τ.pf) none [u1,u2] 0 _ _ { w:=w4,H:=s2.ao.H,ae:=loc4,X:=(mI M).X.re rr4 } a4 [2,3] (fun j o W=>?_) (by rw[e4]at ao3; exact ao3) hs4 fun a5 w5 hc5=>?_
  ·rw[pj e4,dj]
   have hlt:j<2:=by simpa using bl W
   match j,W with
   |0,W=>exact W
   |1,W=>exact W
  obtain⟨loc5,rr5,hs5,hle5⟩:=hc5;have hle:=hle4.trans hle5;have hext:Ext M.w w5:=⟨hle.size,fun b hb=>hle.same b hb (Mr b),hle.env⟩
  have hj5:J p { M with w:=w5 }:=hJs p M _ hjw (ah.lN hext) (HE2.ext hext) rfl;have h10:a5.eval (.tmp 10)=.func (.yield l) #[] #[]:=by
   have:=hs5.eval (.tmp 10);have e:s3.ao.eval (.tmp 10)=.lit (.func (.yield l) #[] #[]):=by
    show s3.fr.getD 10 .undef=_
    rw[dc,f10];rfl
   rw[e]at this
   grind[ad]
  have hk5:ad { M with w:=w5 } (K.av (gi r 0).rV) (a5.eval (.tmp 11)):=by
   have:=hs5.eval (.tmp 11);have e:s3.ao.eval (.tmp 11)=K.av (gi r 0).rV:=by
    show s3.fr.getD 11 .undef=_
    rw[dc,f11];rfl
   rw[e]at this;have hlc:ah.ct { w:=w5,H:=s3.ao.H,ae:=loc5,X:=((mI M).X.re rr4).re rr5 } { M with w:=w5 }:=⟨fun b hb=>⟨⟨hb.1,fun ho=>hb.2.2 (.inr ho),fun hx=>hb.2.2 (.inl hx)⟩,rfl⟩⟩
   grind[gk]
  obtain⟨fn',tmps',asg,bod,hy1,hR⟩:=hround p r _ { M with w:=w5 } #[a5.eval (.tmp 11)] hlp hj5 (by simp only[aw]; grind);rw[wpOpsIn_cons];unfold wpOpIn;have hp2:f_[2]?=some u3:=by rw[pj e4]; rfl
  simp only[hp2];rw[iP (by simp[Jh,gc3])];refine⟨fun _ _=>trivial,?_⟩;rw[rF _ _ _ (fun c e=>by rw[pc3]at e; cases e)];have hrun2:(execOp a5.eval u3).run P w5=.ok (.round l fn' tmps' asg bod) w5:=by
   obtain⟨dst,op,type,pos,after,guard⟩:=u3;simp only[]at pc3;subst pc3;simp[execOp,resolve,h10,ZG,invoke,hy1]
  rw[hrun2,Oper.uponIn_round];refine⟨fun h=>(by cases h),hR.mono ?_⟩;rintro ee _ ⟨rfl,E',rfl,hj',hXk,hkeep⟩;show wpOpsIn (fz none) 0 P f_ _ (mW 3 1++[]) _ E'.w
  rw[dc3];have hd5:a5.defers=[]:=GB hs5.defers fun _ h=>h;have HE':=hJ _ _ hj';have hs6:cQ ⟨kS l d,[]⟩ (mI E') a5:=GH hs5 (fun _ h=>h) f14 f0 f5 HE';have hs7:=hs6.ox 12 (v:=.lit (.bool true)) (u:=.bool true) (by simp[ad]);have ao4:gX P τ.pf f_ [u4] ⟨(kS l d).set 12 (.lit (.bool true)),[]⟩ ⟨((kS l d).set 12 (.lit (.bool true))).set 13 (.lit (.bool false)),[]⟩:=Sy (v:=.lit (.bool false)) (aeu gc4 (by rw[pc4]; rfl) (by rw[pc4]; rfl)) dc4 Sz;refine uj (pf:=τ.pf) none [u4] 3 _ _ (mI E') _ [] (fun j o W=>?_) ao4 hs7 fun a8 w8 hc8=>?_
  ·have hlt:j<1 :=gB
   have:j=0:=ab;subst this;rw[pj e4];exact W
  obtain⟨loc8,rr8,hs8,hle8⟩:=hc8;have hext8:Ext E'.w w8:=⟨hle8.size,fun b hb=>hle8.same b hb (Mr b),hle8.env⟩
  have hj8:J (p++[r]) { E' with w:=w8 }:=hJs _ E' _ hj' (ah.lN hext8) (HE'.ext hext8) rfl;show (Code.cond _ _ _).wpIn (fz none) 0 P _ _ _
  have h13:a8.eval (.tmp 13)=.bool false:=by
   have:=hs8.eval (.tmp 13);simpa[St.eval,kS,ad]using this
  refine wpIn_cond_false h13 (wpIn_skip ?_);have hilt:d<O.heap.size:=yS hit2';have hit5:w5.heap[d]?=some (.mapIter (some N) y (seen.push e.born) y):=by
   rw[hext.same d (by rw[hE2w]; exact hilt),hE2w];exact hit2'
  have hit6:E'.w.heap[d]?=some (.mapIter (some N) y (seen.push e.born) y):=by
   rw[hkeep d (yS hit5) hX2 hne_l];exact hit5
  have hit8:w8.heap[d]?=some (.mapIter (some N) y (seen.push e.born) y):=by
   rw[hext8.same d (yS hit6)];exact hit6
  refine⟨⟨_,p++[r],seen.push e.born,y,rfl,hj8,hXk d hX2,hit8,aV _,?_,GH hs8 (fun _ h=>h) rfl rfl rfl (hJ _ _ hj8)⟩,?_⟩
  ·rw[hrb,List.append_assoc]
   exact hlp
  ·show (rZ.filter fun x => !(w8.iterSeen d).contains (dM x)).length<(rZ.filter fun x => !(E.w.iterSeen d).contains (dM x)).length
   rw[Gy hit8,Gy hit];have:=(Gu hnd hrm (by rw[<-hrb]; exact hes)).length_eq;rw[<-hrb]at this
   grind
end ky
end Go.AL

namespace Go.AL
open Go Go.ChangeMaps
variable [Dr]
def qh(P:ak)(m:Nat)(c:Code)(s:St){α:Type}(Ps:α->Prop)(X:α->cu)(S:α->St):Prop:=
 ∀(d:Option Nat),iW d c->∀(E:ah) (a:Act),cQ s E a->c.wpIn (fz d) 0 P (fun e h k=>∃p,Ps p/\e=(X p).toExit/\ft m E (S p) h k) a E.w
section aeL
variable {P:ak} {m:Nat} {s s' s1:St} {x:cu} {α:Type} {Ps:α->Prop} {X:α->cu} {S S':α->St}
theorem GJ{d h:Code}(h1:dU P m d s .normal s1)(v:qh P m h s1 Ps X S):qh P m (.seq d h) s Ps X S:=fun k ho E a y=>
 wpIn_seq (wpIn_mono (h1 k ho.seq1 E a y) fun e I w1 ⟨he,ae,X,M,N⟩=>by
  subst he;exact wpIn_mono (v k ho.Fm _ I M) fun e a2 w2 ⟨p,O,U,W⟩=>⟨p,O,U,ft.after N W⟩)
theorem Ms{d h:Code}(h1:qh P m d s Ps (fun _=>.normal) S)(y:∀p,Ps p->dU P m h (S p) (X p) (S' p)):qh P m (.seq d h) s Ps X S':=fun k ho E a I=>
 wpIn_seq (wpIn_mono (h1 k ho.seq1 E a I) fun e M w1 ⟨p,v,he,ae,X,N,O⟩=>by
  subst he;exact wpIn_mono (y p v k ho.Fm _ M N) fun e a2 w2 ⟨U,W⟩=>⟨p,v,U,ft.after O W⟩)
theorem aeM{id:Nat}{c:Code}(h:qh P m c s Ps (fun _=>.normal) S):qh P m (.block id c) s Ps (fun _=>.normal) S:=fun d ho E a k=>
 wpIn_block (wpIn_mono (h d ho.block E a k) fun e y I ⟨p,v,he,h⟩=>by
  subst he;exact⟨p,v,rfl,h⟩)
end aeL
structure Mt (P:ak) (m:Nat) (K:Ct) (rZ:LL) (p0:Tmp) (assign body:Code) (S:LL->St):Prop where
 na:jq assign=true
 nb:jq body=true
 fix:∀p,sq m (S p).fr=true
 round:∀p r q,(p++r::q).Perm rZ->∃s1 s2,dU P m assign ⟨(S p).fr.set p0 (K.av (gi r 0).rV),(S p).H⟩ .normal s1/\dU P m body s1 .normal s2/\bO m ⟨(S p).fr,s2.H⟩ (S (p++[r]))
variable {E:ah}
section kyw
variable {P:ak} {m:Nat} {K V:Ct} {rZ:LL} {p0:Tmp} {assign body:Code} {S:LL->St}
theorem aeO(hr:Mt P m K rZ p0 assign body S){p q:LL}{r:LG}(hp:(p++r::q).Perm rZ){fn:bJ}{D l:Nat}{a:Act}{tmps:Array Value}(htm:tmps=a.tmps)(d:cQ (S p) E a)(hX:E.X l)
  (M:E.w.heap[l]?=some (.loop { state:=.ready,pending:=none,fn,tmps,params:=#[p0],assign,body,defers:=D })) {cs:Array Value} (hc:aw E [K.av (gi r 0).rV] cs.toList) :
  YieldAt (fz none) 0 P l cs E.w fun e W'=>e=.returned (.bool true)/\∃E',E'.w=W'/\cQ (S (p++[r])) E' a/\E.fX m E'/\E'.X l /\
   E'.w.heap[l]?=some (.loop { state:=.ready,pending:=none,fn,tmps,params:=#[p0],assign,body,defers:=D }):=by
 obtain⟨s1,s2,hA,hB,hle⟩:=hr.round p r q hp;obtain⟨v,rfl⟩:∃v,cs=#[v]:=by
  have:=jh hc
  match h:cs.toList,this with
  |[v],_=>grind
 simp only[aw]at hc;obtain⟨hc0,_⟩:=hc;refine⟨_,_,_,_,run_yield M au,roundIn_of_wpIn (F:=fz none) trivial ?_⟩;have hlt:l<E.w.heap.size:=(kh.1 M).1;have hs0:cQ ⟨(S p).fr.set p0 (K.av (gi r 0).rV),(S p).H⟩ E { tmps:=a.tmps.setIfInBounds p0 v,defers:=[] }:=by
  refine⟨d.H,?_,tn _ _,d.heap⟩;simp only[Array.toList_setIfInBounds];exact Kw p0 d.fr hc0
 have e0:((#[p0]:Array Tmp).zip #[v]).foldl (fun tmps (t,a)=>tmps.setIfInBounds t a) tmps=a.tmps.setIfInBounds p0 v:=by
  rw[htm];simp
 rw[e0];refine wpIn_mono (hA (some l) (.inr hr.na) E _ hs0) fun e a1 y ⟨he,loc1,X1,hs1,I⟩=>?_;subst he;have hno:¬ E.af l:=d.heap.rL hX;have hl1:y.heap[l]?=some (.loop { state:=.ready,pending:=none,fn,tmps,params:=#[p0],assign,body,defers:=D }):=by rw[I.same l hlt hno]; exact M
 have hX1:X1 l:=(I.X l hlt).1.2 hX;have U:l<y.heap.size:=(kh.1 hl1).1;refine⟨_,run_beginRound hl1 rfl,?_⟩;have hs1':=hs1.fF (Mo (o:=.loop { state:=.busy,pending:=none,fn,tmps,params:=#[p0],assign,body,defers:=D }) hX1 hs1.heap) (SB hs1.defers hl1);refine wpIn_mono (hB (some l) (.inr hr.nb) _ a1 hs1') fun e a2 w3 ⟨he,od,N,hs2,W⟩=>?_;subst he;have hno1:¬ ah.af { w:=y,H:=s1.H,ae:=loc1,X:=X1 } l:=I.af l hlt hno;have hl3:w3.heap[l]?=some (.loop { state:=.busy,pending:=none,fn,tmps,params:=#[p0],assign,body,defers:=D }):=by
  rw[W.same l (by show l<(y.putObj _ _).heap.size; simpa using U) hno1];exact asm U
 have hX2:N l:=(W.X l (by show l<(y.putObj _ _).heap.size; simpa using U)).1.2 hX1;have hlt3:l<w3.heap.size:=(kh.1 hl3).1;refine⟨_,_,run_endRound (P:=P) none hl3,rfl,?_⟩;obtain⟨k,hw4⟩:∃k,w3.putObj l (.loop { state:=.ready,pending:=none,fn,tmps,params:=#[p0],assign,body,defers:=D })=k:=⟨_,rfl⟩
 have hl4:k.heap[l]?=some (.loop { state:=.ready,pending:=none,fn,tmps,params:=#[p0],assign,body,defers:=D }):=by
  rw[<-hw4];exact asm hlt3
 have O:E.fX m { w:=k,H:=s2.H,ae:=od,X:=N }:=by
  refine ah.qT.toM (l:=l) (I.toX.trans (Mp.trans (W.toX.trans ?_))) (fun _=>by rw[show ah.w _=k from rfl,hl4,M]);rw[<-hw4];exact Mp
 have hR4:aJ { w:=k,H:=s2.H,ae:=od,X:=N }:=by
  rw[<-hw4];exact hs2.heap.fF (Mo hX2 hs2.heap)
 have hsr:cQ ⟨(S p).fr,s2.H⟩ { w:=k,H:=s2.H,ae:=od,X:=N } a:=by
  refine⟨rfl,Cy O _ (hr.fix p) d.fr,EJ d.defers (fun b h1 h2=>?_) (fun b h1 _=>O.same b (d.heap.X b h1) (d.heap.rL h1)),hR4⟩;have:=O.X b (d.heap.X b h1)
  grind
 obtain⟨loc7,X7,hs7,hle7⟩:=hle _ a hsr;refine⟨{ w:=k,H:=(S (p++[r])).H,ae:=loc7,X:=X7 },?_,hs7,O.trans hle7,(hle7.X l (by show l<k.heap.size; exact(kh.1 hl4).1)).1.2 hX2,hl4⟩
 grind
theorem aeP{o:Obj}(HE:aJ E):ln E { w:=E.w.alloc o,H:=E.H,ae:=E.ae,X:=E.X.or fun b=>b=E.w.heap.size }:=
 ⟨rfl,rfl,by rw[Js]; omega,fun b hb d=>⟨fun h=>h.elim d fun e=>by omega,by
   show (E.w.heap.push _)[b]?=_
   grind⟩,fun b hb=>by
   show b<(E.w.alloc o).heap.size
   rw[Js];rcases hb with h|h
   ·have:=HE.X b h
    omega
   ·omega,rfl⟩
theorem aeQ{o:Obj}:E.fX m { w:=E.w.alloc o,H:=E.H,ae:=E.ae,X:=E.X.or fun b=>b=E.w.heap.size }:=
 ⟨fun _ _ h=>h,by show E.w.heap.size<=(E.w.alloc o).heap.size; rw[Js]; omega,fun b hb _=>by
   show (E.w.heap.push _)[b]?=_
   grind,fun _ _ h=>h,fun _ _ _ h=>⟨h,rfl⟩,fun b hb=>⟨⟨fun h=>h.elim id fun e=>by omega,.inl⟩,Iff.rfl⟩,fun _ _ h=>⟨h,fun _ hq=>hq⟩,⟨rfl,rfl,rfl,by first|exact fun _=>aV _|exact fun _=>gI _ _⟩,
  fun id _ l o h1 d k=>⟨⟨[],by simp[XS.or]⟩,o,h1,d⟩⟩
theorem aeR(hm:2<=m){τ:aF}{db dC cD f_:Array aQ}(ht:aH P τ)(ho:Mq P τ K db dC cD f_){f:bJ}{fd:Func}{r0 r1 r2 r3 b0 b1:Nat}(hf:P.funcs[f]? = some fd)(hbd:gr P f=true)
  (hb:fd.body=some (ph r0 b0 r1 b1 r2 db dC cD 7 (CD f_ r3))) (hn:fd.ntmps=14) (hre:fd.results=#[]) {clock:Nat} (hnd:(rZ.map dM).Nodup) (hlt:∀r∈rZ,dM r<clock)
  (hr:Mt P m K rZ p0 assign body S) (hS:∀p,(S p).H[1]?=some (.map (dA K V rZ) clock)) (hS0:(S []).H[0]?=some (.box [.map 1]))
  {g:Tmp} {s:St} (hg:s.eval (.tmp g)=.clo f [.ptr 0 0 0 0 0]) (h0:bO m s (S [])) (hH1:s.H[1]?=some (.map (dA K V rZ) clock))
  (E:ah) (a:Act) (O:cQ s E a):(Code.rangeFunc (.tmp g) #[p0] assign body).wpIn (fz none) 0 P (fun e a1 y=>e=.normal/\∃p,p.Perm rZ/\ft m E (S p) a1 y) a E.w:=by
 have hgv:=O.eval (.tmp g);rw[hg]at hgv;simp only[ad]at hgv;obtain⟨cs,hgv,cC⟩:=hgv;obtain⟨c,rfl⟩:∃c,cs=#[c]:=by
  have:=jh cC
  match h:cs.toList,this with
  |[c],_=>grind
 have hcp:ad E (.ptr 0 0 0 0 0) c:=cC.1;have hH1E:E.H[1]?=some (.map (dA K V rZ) clock):=by rw[O.H]; exact hH1
 obtain⟨mb,nn,_,hloc1,_,_⟩:=O.heap.obj 1 _ hH1E;have hpast1:E.bF 1 0:=⟨_,hH1E,rfl,fun v _=>Nat.zero_le _⟩
 obtain⟨D,hD⟩:∃D,E.w.heap.size=D:=⟨_,rfl⟩
 refine wpIn_rangeFunc ?_;intro fn _;obtain⟨rec,hrec⟩:∃rec:Loop,rec={ state:=.ready,pending:=none,fn,tmps:=a.tmps,params:=#[p0],assign,body,defers:=D }:=⟨_,rfl⟩
 obtain⟨y,hw1⟩:∃y,(E.w.alloc (.deferred (some []))).alloc (.loop rec)=y:=⟨_,rfl⟩
 have hsz:y.heap.size=D+2:=by grind[Js]
 have hl1:y.heap[D+1]?=some (.loop rec):=by
  rw[<-hw1];have:=asn (E.w.alloc (.deferred (some []))) (.loop rec)
  simp_all
 have hold2:∀b,b<D+1->y.heap[b]?=(E.w.alloc (.deferred (some []))).heap[b]?:=fun b hb=>by
  rw[<-hw1];show ((E.w.alloc (.deferred (some []))).heap.push _)[b]?=_
  grind[Js]
 have hD1:y.heap[D]?=some (.deferred (some [])):=by
  rw[hold2 D ab];have:=asn E.w (.deferred (some []))
  grind
 have hold:∀b,b<D->y.heap[b]?=E.w.heap[b]?:=fun b hb=>by
  rw[hold2 b ab];show (E.w.heap.push _)[b]?=_
  grind
 have hos:fl E.w y:=by rw[<-hw1]; exact⟨rfl,rfl,rfl,by first|exact fun _=>aV _|exact fun _=>gI _ _⟩
 obtain⟨U,hX2⟩:∃U:XS,U=⟨fun b=>E.X b\/b=D\/b=D+1,fun b=>E.X.z b\/b=D,E.X.r⟩:=⟨_,rfl⟩
 obtain⟨mk,hmk⟩:∃mk:Deferred,mk={ target:=.collected D,args:=#[] }:=⟨_,rfl⟩
 have fF:ln E { w:=y,H:=E.H,ae:=E.ae,X:=U }:=
  ⟨rfl,rfl,by show E.w.heap.size<=y.heap.size; omega,fun b hb hx=>by
   have hb:b<D:=by rw[<-hD]; exact hb
   refine⟨fun h=>?_,hold b hb⟩;rw[hX2]at h
   grind,fun b hb=>by
   show b<y.heap.size
   rw[hX2]at hb;rcases hb with h|h|h
   ·have:=O.heap.X b h
    omega
   ·omega
   ·omega,by show U.r=E.X.r; rw[hX2]⟩
 have hs2:cQ s { w:=y,H:=E.H,ae:=E.ae,X:=U } { a with defers:=mk::a.defers }:=by
  refine O.fF fF ⟨?_,fun d hd=>?_⟩
  ·refine List.nodup_cons.2 ⟨fun h=>?_,O.defers.1⟩
   obtain⟨D',e,h1,W,_⟩:=O.defers.2 mk h
   grind
  ·rcases c_.1 hd with rfl | hd
   simp_all
   ·obtain⟨D',e,h1,W,h3⟩:=O.defers.2 d hd
    have:=O.heap.X D' W
    simp_all
 have hle2:E.fX m { w:=y,H:=E.H,ae:=E.ae,X:=U }:=by
  refine⟨fun _ _ h=>h,by show E.w.heap.size<=y.heap.size; omega,fun b hb _=>hold b (by rw[<-hD]; exact hb),fun b _ h ho=>h ((fF.af b).1 ho),fun _ _ _ h=>⟨h,rfl⟩,fun b hb=>?_,fun l h hk=>by rw[hX2]; exact⟨hk,fun _ hq=>hq⟩,hos,fun id _ l o h1 W h3=>⟨⟨[],by rw[hX2]; simp⟩,o,h1,W⟩⟩;have hb:b<D:=by rw[<-hD]; exact hb
  show (U b↔E.X b)/\(U.z b↔E.X.z b)
  rw[hX2]
  grind
 obtain⟨yT,X3,hs3,hle3⟩:=h0 _ _ hs2;have hX3:X3 (D+1):=(hle3.X (D+1) (by show D+1<y.heap.size; omega)).1.2 (by show U (D+1); rw[hX2]; exact .inr (.inr rfl));have hcp3:ad { w:=y,H:=(S []).H,ae:=yT,X:=X3 } (.ptr 0 0 0 0 0) c:=SA (hle2.trans hle3) _ (by simp only[pk,aO,Nat.blt_eq]; exact⟨ab,rfl⟩) hcp;refine⟨D+1,[mk],y,{ target:=.fn (.func f) #[c],args:=#[.func (.yield (D+1)) #[] #[]] },y,f,#[.func (.yield (D+1)) #[] #[],c],y,?_,?_,fun _ _=>trivial,?_,fun h=>(by cases h),?_⟩
 ·rw[<- hw1,hrec,hmk,<- hD]
  exact run_enterLoop_outer _ _ _ _ _
 ·have hcst:a.eval (.const (.func (.yield (D+1)) #[] #[]))=.func (.yield (D+1)) #[] #[]:=rfl
  simp_all[resolve,ZG]
 ·simp[invoke,Kt hbd]
 ·have hcall:=aeK (P:=P) (K:=K) (V:=V) ht ho hf hb hn hre (l:=D+1) (mb:=mb) (nn:=nn) hnd hlt (fun p E'=>cQ (S p) E' { a with defers:=mk::a.defers }/\E.fX m E'/\E'.X (D+1)/\E'.w.heap[D+1]? = some (.loop rec)) (fun p E' h=>h.1.heap)
   (fun p I E2 h hle hR hH=>?_) (fun p I o h=>?_) (fun p I w' itb h hlt hX hi hsz hoth hos=>?_) (fun p I h=>(kh.1 h.2.2.2).1) (fun p I h=>?_) (fun p r q E' cs hp h hc=>?_) (c:=c) (E0:={ w:=y,H:=(S []).H,ae:=yT,X:=X3 }) ⟨hs3,hle2.trans hle3,hX3,hl1⟩ hS0 hcp3
  ·refine hcall.mono fun e w3 ⟨⟨v,hv⟩,E4,p,hw4,hp,hs4,hle4,hX4,hl4⟩=>?_
   subst hv;subst hw4;obtain⟨w4,H4,loc4,X4⟩:=E4;have hH4:H4=(S p).H:=hs4.H;subst hH4;have hend:=run_endLoop (P:=P) hl4 (by rw[hrec]; simp);refine⟨_,_,hend,?_⟩;rw[hrec];refine⟨rfl,p,hp,loc4,X4,?_,?_⟩
   ·rw[<- hrec]
    exact hs4.fF (Mo hX4 hs4.heap) (SB hs4.defers hl4)
   ·exact(hle4.toX.trans Mp).toM (l:=D+1) (fun h=>absurd h ab)
  ·obtain⟨k,g2,M,N⟩:=h
   have hlt:D+1<I.w.heap.size:=(kh.1 N).1;refine⟨⟨by rw[hH]; exact k.H,eX hle _ k.fr,Bf k.heap hle k.defers,hR⟩,g2.trans hle.toM,by rw[hle.X.1]; exact M,?_⟩;rw[hle.same (D+1) hlt (k.heap.rL M)];exact N
  ·obtain⟨k,g2,M,N⟩:=h
   have hlt:D+1<I.w.heap.size:=(kh.1 N).1;have hn:=aeQ (m:=m) (E:=I) (o:=o);refine⟨k.fF (aeP k.heap) (EJ k.defers (fun b h1 W=>⟨.inl h1,W⟩) fun b h1 _=>hn.same b (k.heap.X b h1) (k.heap.rL h1)),g2.trans hn,.inl M,?_⟩;rw[hn.same (D+1) hlt (k.heap.rL M)];exact N
  ·obtain⟨k,g2,M,N⟩:=h
   obtain⟨qq,cc,ss,zz,hi⟩:=hi;have hc:ln I { I with w:=w' }:=⟨rfl,rfl,by show I.w.heap.size<=w'.heap.size; omega,fun b hb hx=>⟨hx,hoth b fun e=>hx (by rw[e]; exact hX)⟩,fun b hb=>by
    show b<w'.heap.size
    rw[hsz];exact k.heap.X b hb,rfl⟩
   refine⟨k.fF hc ⟨k.defers.1,fun d hd=>?_⟩,ah.qT.toM (l:=itb) (g2.toX.trans ⟨fun _ _ h=>h,by show I.w.heap.size<=w'.heap.size; omega,fun b _ _ h=>hoth b h,fun _ _ h=>h,fun _ _ _ h=>⟨h,rfl⟩,fun _ _=>⟨Iff.rfl,Iff.rfl⟩,fun _ _ h=>⟨h,fun _ hq=>hq⟩,hos,fun id _ l o h1 W h3=>⟨⟨[],au⟩,o,h1,W⟩⟩) (fun h=>absurd h ab),M,?_⟩
   ·obtain⟨D',e,h1,W,h3⟩:=k.defers.2 d hd
    grind
   grind
  ·obtain⟨k,g2,M,N⟩:=h
   have hm1:I.H[1]?=some (.map (dA K V rZ) clock):=by rw[k.H]; exact hS p
   refine⟨hm1,?_⟩;rw[(g2.live 1 ab hpast1 ⟨_,hm1,rfl⟩).2];exact hloc1
  ·obtain⟨k,g2,M,N⟩:=h
   rw[hrec]at N;obtain⟨fn',tm,asx,bo,k1,k2⟩:=aeO hr hp rfl k M N hc;refine⟨fn',tm,asx,bo,k1,k2.mono fun e W' ⟨he,E'',hw,q1,q2,q3,q4⟩=>⟨he,E'',hw,⟨q1,g2.trans q2,q3,by rw[hrec]; exact q4⟩,fun b hb=>(q2.X b (k.heap.X b hb)).1.2 hb,fun b hb hx _=>?_⟩⟩;rw[<-hw];exact q2.same b hb (k.heap.rL hx)
end kyw
end Go.AL

namespace Go.AL
open Go Go.ChangeMaps
variable [Dr]
variable {P:ak} {τ:aF}
variable {d:LG} {fn:Func} {sp:aL} {α:Type}
theorem aeS(hfr:lu sp.bI=true){r:LG}{x:cu}{s0:aG}(I:jY P fn.results.toList sp x s0=some (true,r)){E:ah}(hH:E.H=ay (sp.H0 d))(HE:aJ E){e:Exit}{a1:Act}{N:World}
  (h3:e=x.toExit) (O:ft sp.bI.length { E with X:=⟨E.X.x,fun _=>False,E.X.r⟩ } s0.ao a1 N) :
  (e=.normal\/e=.ret)/\∃X,nh N X a1.defers/\∀w',w'.heap.size=N.heap.size->(∀b,w'.heap[b]?≠N.heap[b]?->X b/\X.z b)->fl N w'->∃v,(results fn a1.tmps).run P w'=.ok v w' /\
   ∃c v' H',Ending.returned v=.returned c/\(v'=sp.out r/\H'=ay (sp.H1 r))/\dP E v' H' c w':=by
 have O:=O.weaken (qQ sp.opens s0);generalize hs':mG sp.opens s0=s' at O;obtain⟨loc',X',M,h5⟩:=O;have hxx:(x=.normal\/x=.ret)/\∃vs az g k,ll P s'.ao fn.results.toList=some vs/\(nodupB az&&qO s'.H 0 sp.bI.length az sp.fO)=true /\
   lX s'.H (bZ s'.H az) (jX az) sp.fO az=some (true,g)/\gu s'.H (bZ s'.H az) (jX az) sp.res vs=some (true,k)/\g++k=r:=by
  have I:jY P fn.results.toList sp x s0=some (true,r):=I;unfold jY at I;split at I
  ·cases I
  ·rename_i hx
   simp only[hs']at I;refine⟨by cases x with|normal=>grind|ret=>grind|exit i=>grind,?_⟩
   grind
 obtain⟨hx,vs,az,g,k,hvs,U,q1,q2,rfl⟩:=hxx;simp only[aO]at U;refine⟨by subst h3; rcases hx with rfl|rfl; exact .inl rfl; exact .inr rfl,X',M.defers,fun w1 k1 k2 k3=>?_⟩;obtain⟨M,h5⟩:=Fs HE M h5 k1 k2 k3;obtain⟨us,g1,g2⟩:=BD M fn.results.toList vs hvs;have hres:(results fn a1.tmps).run P w1=.ok (if h:us.toArray.size=1 then us.toArray[0] else .tuple us.toArray) w1:=by
  rw[BE];simp only[Sem.run_bind];rw[Array.mapM_eq_mapM_toList,Sem.run_map,g1];rfl
 generalize W:({ w:=w1,H:=s'.ao.H,ae:=loc',X:=E.X.re X'.r }:ah)=y at M h5 g1 g2;have hH1:y.H=ay s'.H:=by rw[<-W]; rfl
 obtain⟨hK,hHR⟩:=LR hH1 M.heap (ua U.1) q1 k;obtain⟨p0,p1,p2,p3⟩:=wD q1 k (cY sp.fO (g++k));have hd:fM (pc sp.fO) (g++k)=k:=by rw[<-p0]; exact qM g k
 have hS:=wC hK q2 [];rw[dY]at hS;have hrl:=hS.2.2.2 us g2;have hleM:=LS (m:=sp.bI.length) hH1 hK ⟨rfl,rfl⟩ (LO y _ az) U.2 (fun j hj=>by
  obtain⟨r1,o',r2,_⟩:=Ci U.2 j hj;obtain⟨i,o,g1,rest1,t1,t2,t3,t4,t5,t6⟩:=p3 j o' r2;have hat:=jW (e:=bZ s'.H az) (j:=j) (bl t1)
  grind[bZ]) (fun b=>LP)
 have hle:E.le (lY y (ay (dL (cY sp.fO (g++k)) sp.fO (g++k))) az):=
  (h5.trans hleM).full (by rw[<-W]; exact⟨rfl,rfl⟩) (by rw[hH,fB]; simp only[aL.H0,Cm]; exact aV _) (by rw[hH]; exact L2 _ _ hfr)
 have hw1:y.w=w1:=by rw[<-W]
 have hX1:∀r,y.X.re r=E.X.re r:=fun r=>by rw[<-W]; rfl
 refine⟨_,hres,_,_,_,rfl,⟨rfl,rfl⟩,az.map (fun i=>y.ae.getD i none),qN y (ay (dL (cY sp.fO (g++k)) sp.fO (g++k))),?_,?_,?_⟩<;>grind[LB,aL.out,aL.H1,lY]
def ly(P:ak)(sp:aL)(d:LG)(Ps:α->Prop)(R:α->LG):Prop:=
 jn P sp.f (sp.ew d) (ay (sp.H0 d)) fun v H'=>∃p,Ps p/\v=sp.out (R p)/\H'=ay (sp.H1 (R p))
theorem ly.img{P:ak}{Ps:α->Prop}{R:α->LG}(h:ly P sp d Ps R):ly P sp d (fun e=>∃p,Ps p/\R p=e) id:=
 jn.mono h fun _ _ ⟨p,k,v,hH⟩=>⟨R p,⟨p,k,rfl⟩,v,hH⟩
theorem Mu{Ps:α->Prop}(U:P.funcs[sp.f]? = some fn)(hb:fn.body.isSome=true)(N:lu sp.bI=true){r:α->LG}{x:α->cu}{s0:α->aG}
  (h1:qh P sp.bI.length (bf fn) (aG.ao ⟨gY (sp.ew d) fn.ntmps,sp.H0 d⟩) Ps x (fun p=>(s0 p).ao)) (W:∀p,Ps p->jY P fn.results.toList sp (x p) (s0 p)=some (true,r p)):ly P sp d Ps r:=by
 have I:fn.body=some (bf fn):=by
  unfold bf;cases hx:fn.body<;>grind
 intro E h hH HE k;refine Fq U I ?_;have v:=vW HE;have y:=r7 v _ k;have M:cQ ⟨gY (sp.ew d) fn.ntmps,ay (sp.H0 d)⟩ { E with X:=⟨E.X.x,fun _=>False,E.X.r⟩ } { tmps:=h++rG (fn.ntmps-h.size) undef,defers:=[] }:=by
  refine⟨hH,?_,tn _ _,HE.fF v⟩;simp only[gY,xG,Jk];refine oS y ?_;have:=jh k;have e:(sp.ew d).length=h.size:=ab;rw[e];have:=yp (E:={ E with X:=⟨E.X.x,fun _=>False,E.X.r⟩ }) (cn (fn.ntmps-h.size) undef)
  grind
 refine wpIn_mono (h1 none (Fo _) { E with X:=⟨E.X.x,fun _=>False,E.X.r⟩ } _ M) fun e a1 w0 ⟨p,hp,h3,O⟩=>?_;obtain⟨g1,X',g2,g3⟩:=aeS N (W p hp) hH HE h3 O
 grind
theorem SJ{Ps:α->Prop}{m:Nat}{pf pf':bJ->Bool}{id:Nat}{ai:Array aQ}{l1 l2:List aQ}{d:aQ}(W:ai.toList=l1++d::l2){s s1:St}(h1:gX P pf ai l1 s s1)(hg:d.guard=none){t:Tmp}(hd:d.dst=some t)
  {f:bJ} {args:List AV} (I:il s1.eval d.op=some (f,args)) (hb:gr P f=true) {V:α->AV} {HH:α->List aj} (hcall:jn P f args s1.H fun v H'=>∃p,Ps p/\v=V p/\H'=HH p)
  {S:α->St} (h2:∀p,Ps p->gX P pf' ai l2 ⟨s1.fr.set t (V p),HH p⟩ (S p)):qh P m (.region id ai false) s Ps (fun _=>.normal) S:=fun M _ E a hs=>by
 have pos:∀i,ai[i]?=(l1++d::l2)[i]?:=pj W;have hsz:ai.size=l1.length+(l2.length+1):=by
  have:ai.toList.length=l1.length+(l2.length+1):=by rw[W]; simp
  omega
 refine wpIn_region ?_;have hr:fm ai.size=mW 0 l1.length++(l1.length::mW (l1.length+1) l2.length):=by
  rw[Jj,hsz,<-List.range'_append_1,dj,Eg]
 rw[hr];refine uj M l1 0 s s1 E a _ (fun j o N=>by rw[pos,dj,List.getElem?_append_left (bl N)]; exact N) h1 hs fun a1 w1 hc1=>?_;obtain⟨loc1,y,k,hle1⟩:=hc1;rw[wpOpsIn_cons];unfold wpOpIn;have hp1:ai[l1.length]?=some d:=by rw[pos,List.getElem?_append_right (aV _)]; simp
 simp only[hp1];rw[iP (by simp[Jh,hg])];have hnd:∀c,d.op≠.defer c:=fun c e=>by rw[e]at I; cases I
 obtain⟨cargs,g1,g2⟩:=Ku (P:=P) (E:={ w:=w1,H:=s1.H,ae:=loc1,X:=E.X.re y }) (fun x=>k.eval x) I hb;unfold Oper.wpIn;rw[rF _ _ _ hnd,g1];refine⟨fun _ _=>trivial,fun h=>(by cases h),Ky ((hcall _ cargs rfl k.heap g2).mono ?_)⟩;rintro _ O ⟨c,v,H',rfl,⟨p,hp,rfl,rfl⟩,od,r2,q1,q2,U⟩;have hs2:cQ ⟨s1.fr.set t (V p),HH p⟩ { w:=O,H:=HH p,ae:=od,X:=(E.X.re y).re r2 } (a1.put d.dst c):=by
  refine⟨rfl,?_,by rw[put_defers]; exact Bf k.heap U k.defers,q2⟩;have:=Kx k.fr U (some t) q1;rw[hd];exact this
 show wpOpsIn (fz M) 0 P ai _ (mW (l1.length+1) l2.length) _ O
 have hnil:mW (l1.length+1) l2.length=mW (l1.length+1) l2.length++[]:=by rw[dY]
 rw[hnil];refine uj M l2 (l1.length+1) _ _ { w:=O,H:=HH p,ae:=od,X:=(E.X.re y).re r2 } _ [] (fun j o N=>?_) (h2 p hp) hs2 fun a3 w3 hc3=>?_
 grind
 ·exact⟨p,hp,rfl,ft.after (hle1.toM.trans U.toM) hc3.toM⟩
theorem qh.mono{Ps:α->Prop}{X:α->cu}{S:α->St}{m m':Nat}{c:Code}{s:St}(h:qh P m' c s Ps X S)(hm:m<=m'):qh P m c s Ps X S:=fun d ho E a k=>
 wpIn_mono (h d ho E a k) fun _ _ _ ⟨p,v,h1,y⟩=>⟨p,v,h1,y.GD hm⟩
theorem aeU{Ps:α->Prop}(hm:P.follows .mixedOrders=true){M:aF}(ht:aH P τ)(W:aH P M){k:aL}{v R:α->LG}(hf:P.funcs[sp.f]? = some fn)(hfr:lu sp.bI=true)
  (hA:ly P k d Ps v) (hbA:gr P k.f=true) {r0 I:Code} {id:Nat} {ai:Array aQ} (hb:fn.body=some (.seq r0 (.seq (.region id ai false) I))) {l1 l2:List aQ} {N:aQ} (hops:ai.toList=l1++N::l2) (hg:N.guard=none) {t:Tmp} (hd:N.dst=some t)
  {s1:aG} (h1:(eH P τ bx r0 ⟨gY (sp.ew d) fn.ntmps,sp.H0 d⟩ fun x s=>match x with | .normal=>g_ P τ ai l1 s fun s=>.done .normal s|_=>.fail).kR=some (.normal,s1))
  (hc:il s1.ao.eval N.op=some (k.f,k.ew d)) (hH:s1.H=k.H0 d) {tl:LG->Option LG}
  (h2:∀e,(g_ P M ai l2 ⟨s1.fr.set t (k.out e),k.H1 e⟩ fun s=>eH P M bx I s .done).leaf (jY P fn.results.toList sp)=tl e) (hT:∀p,Ps p->tl (v p)=some (R p)):ly P sp d Ps R:=by
 have hbo:bf fn=.seq r0 (.seq (.region id ai false) I):=by unfold bf; rw[hb]
 obtain⟨x,s',g1,U⟩:=jt hm ht (m:=sp.bI.length) r0 _ _ (bG _ _ _) (wK h1);cases x with
 |exit _=>exact U.elim
 |ret=>exact U.elim
 |normal=>
 obtain⟨O,g3,g4⟩:=tV ht U;obtain⟨_,rfl⟩:=g4;have key:∀p,Ps p->∃s2 x s3,gX P M.pf ai l2 ⟨O.fr.set t (k.out (v p)),ay (k.H1 (v p))⟩ s2/\dU P sp.bI.length I s2 x s3.ao/\jY P fn.results.toList sp x s3=some (true,R p):=fun p y=>by
  have:=h2 (v p);rw[hT p y]at this;obtain⟨s2,k1,k2⟩:=tV W (ot this);obtain⟨x,s3,k3,k4⟩:=jt hm W (m:=sp.bI.length) I s2 .done (bG _ _ _) k2;exact⟨s2.ao,x,s3,k1,k3,k4⟩
 have hx:∀p,∃q:St × cu × aG,Ps p->gX P M.pf ai l2 ⟨O.fr.set t (k.out (v p)),ay (k.H1 (v p))⟩ q.1/\dU P sp.bI.length I q.1 q.2.1 q.2.2.ao/\jY P fn.results.toList sp q.2.1 q.2.2=some (true,R p):=fun p=>by
  by_cases y:Ps p
  simp_all
  ·exact⟨(⟨[],[]⟩,.normal,⟨[],[]⟩),fun h=>(y h).elim⟩
 obtain⟨q,hq⟩:=ZN hx;refine Mu (x:=fun p=>(q p).2.1) (s0:=fun p=>(q p).2.2) hf (by rw[hb]; rfl) hfr ?_ fun p y=>(hq p y).2.2;rw[hbo];refine GJ g1 (Ms (S:=fun p=>(q p).1) ?_ fun p y=>(hq p y).2.1);refine SJ hops g3 hg hd (V:=fun p=>k.out (v p)) (HH:=fun p=>ay (k.H1 (v p))) hc hbA ?_ fun p y=>(hq p y).1;have hH2:O.ao.H=ay (k.H0 d):=by rw[<-hH]; rfl
 rw[hH2];exact hA
def Mv(P:ak)(K:Ct)(f:bJ):Prop:=∃(τ:aF) (d:Func) (db dC cD f_:Array aQ) (r0 r1 r2 r3 h k:Nat),aH P τ/\Mq P τ K db dC cD f_/\P.funcs[f]?=some d/\gr P f=true /\
 d.body=some (ph r0 h r1 k r2 db dC cD 7 (CD f_ r3))/\d.ntmps=14/\d.results=#[]
theorem aeV{K:Ct}{f:bJ}{d:Func}{db dC cD f_:Array aQ}{r0 r1 r2 r3 h k:Nat}(U:aH P τ)(W:P.funcs[f]? = some d)(hb:gr P f=true) (v:d.body=some (ph r0 h r1 k r2 db dC cD 7 (CD f_ r3))) (hn:d.ntmps=14) (hr:d.results=#[])
  (h0:∃o1 o2 ty,db.toList=[o1,o2]/\(o1.guard=none/\o1.op=.load ty (.tmp 1)/\o1.dst=some 4)/\(o2.guard=none/\o2.op=.range ty (.tmp 4)/\o2.dst=some 5)/\(eT P ty).isSome=true/\gL P ty=some (1,false))
  (h1:∃o1 o2,dC.toList=[o1,o2]/\o1.guard=none/\o1.op=.next (.tmp 5) false/\o1.dst=some 6/\o2.guard=none/\o2.op=.extract (.tmp 6) 0/\o2.dst=some 7)
  (h2:∃o1 l,cD.toList=o1::l/\o1.guard=none/\o1.op=.entry (.tmp 5)/\o1.dst=some 8)
  (h3:∃u1 u2 u3 u4 t iG,f_.toList=[u1,u2,u3,u4]/\(u3.guard=none/\u3.op=.call { callee:=.value (.tmp 10),args:=#[.tmp 11],argTypes:=iG }/\u3.dst=some 12)/\(u4.guard=none/\u4.op=.unOp .not t (.tmp 12)/\u4.dst=some 13))
  {s2 s3:Nat->Nat->LG->aG} (y:∀l it g,(g_ P τ cD (cD.toList.drop 1) ⟨(kS l it).set 8 (.tuple [K.av g,.undef]),[]⟩ fun s=>.done .normal s).kR=some (.normal,s2 l it g)) (I:∀l it g,(g_ P τ f_ (f_.toList.take 2) (s2 l it g) fun s=>.done .normal s).kR=some (.normal,s3 l it g))
  (hl:∀l it g,(s3 l it g).fr.length=14) (M:∀l it g,(s3 l it g).fr[0]?=some (.lit (.func (.yield l) #[] #[]))) (h5:∀l it g,(s3 l it g).fr[5]?=some (.lit (.pointer (some ⟨it,0,none⟩)))) (N:∀l it g,(s3 l it g).fr[10]?=some (.lit (.func (.yield l) #[] #[]))) (O:∀l it g,(s3 l it g).fr[11]?=some (K.av g)):Mv P K f:=
 ⟨τ,d,db,dC,cD,f_,r0,r1,r2,r3,h,k,U,⟨h0,h1,h2,h3,fun l it g=>⟨s2 l it g,s3 l it g,y l it g,I l it g,hl l it g,M l it g,h5 l it g,N l it g,O l it g⟩⟩,W,hb,v,hn,hr⟩
def GL(t:br):aG:=match t.kR with
 |some (_,s)=>s
 |none=>⟨[],[]⟩
def aeW(P:ak)(τ:aF)(fn:Func)(sp:aL)(d:LG):aG:=match fn.body with
 |some (.seq r0 (.seq (.region _ ai _) _))=>GL (eH P τ bx r0 ⟨gY (sp.ew d) fn.ntmps,sp.H0 d⟩ fun x s=>match x with | .normal=>g_ P τ ai (ai.toList.take 1) s fun s=>.done .normal s|_=>.fail)
 |_=>⟨[],[]⟩
def aeX(P:ak)(τ:aF)(h:LT)(fn:Func)(sp:aL)(d:LG):aG:=match fn.body with
 |some (.seq r0 (.seq (.seq r1 _) _))=>GL (eH P τ h r0 ⟨gY (sp.ew d) fn.ntmps,sp.H0 d⟩ fun x s=>match x with | .normal=>eH P τ h r1 s .done|_=>.fail)
 |_=>⟨[],[]⟩
def apA(fn:Func):Code:=match fn.body with
 |some (.seq a _)=>a
 |_=>.skip
def apB(fn:Func):Code:=match fn.body with
 |some (.seq _ (.seq (.seq b _) _))=>b
 |_=>.skip
def ae0(fn:Func):Code:=match fn.body with
 |some (.seq _ (.seq (.seq _ (.block _ (.rangeFunc _ _ a _))) _))=>a
 |_=>.skip
def ae1(fn:Func):Code:=match fn.body with
 |some (.seq _ (.seq (.seq _ (.block _ (.rangeFunc _ _ _ b))) _))=>b
 |_=>.skip
def ae2(fn:Func):Code:=match fn.body with
 |some (.seq _ (.seq _ c))=>c
 |_=>.skip
def SL(fn:Func):Code:=match fn.body with
 |some (.seq _ (.block _ (.loop (.seq _ (.seq _ (.block _ (.seq c _)))))))=>c
 |_=>.skip
def ae3(fn:Func):Code:=match fn.body with
 |some (.seq _ (.block _ (.loop (.seq _ (.seq _ (.block _ (.seq _ (.seq c _))))))))=>c
 |_=>.skip
def od(P:ak)(τ:aF)(K:Ct)(c:Code)(l it:Nat)(g:LG):aG:=match c with
 |.region _ ai _=>GL (g_ P τ ai (ai.toList.drop 1) ⟨(kS l it).set 8 (.tuple [K.av g,.undef]),[]⟩ fun s=>.done .normal s)
 |_=>⟨[],[]⟩
def yT(P:ak)(τ:aF)(c:Code)(s:aG):aG:=match c with
 |.region _ ai _=>GL (g_ P τ ai (ai.toList.take 2) s fun s=>.done .normal s)
 |_=>⟨[],[]⟩
def jZ(d:LG):LL:=(gi d 0).rZ
def sr(d:LG):Nat:=(gi d 1).iV.toNat
def mJ(d:LG):Bool:=mH (jZ d) (sr d)&&Nat.ble (jZ d).length 1048576
theorem apN(hm:P.follows .mixedOrders=true)(v:aH P τ){K V:Ct}{W:bJ}(hk:Mv P K W){L0:LT}(k:∀ m c,aT P m L0 c)(hf:P.funcs[sp.f]? = some fn)(hfr:lu sp.bI=true)(hln:Nat.ble sp.bI.length 3=true){r0 r1 assign body rest:Code}{b:Nat}{g p0:Tmp}
  (hb:fn.body=some (.seq r0 (.seq (.seq r1 (.block b (.rangeFunc (.tmp g) #[p0] assign body))) rest))) (M:(jq assign&&jq body)=true) {inv:qP} {ps psr:List fN} {pre:LG->aG} {D:LG->LL->LG} {st:LG->LG->Option LG} {tl:LG->Option LG} {R:LG->LL->LG}
  (hpre:∀d,(eH P τ L0 r0 ⟨gY (sp.ew d) fn.ntmps,sp.H0 d⟩ fun x s=>match x with | .normal=>eH P τ L0 r1 s .done|_=>.fail).kR=some (.normal,pre d))
  (hg:∀d,(pre d).fr.getD g .undef=.clo W [.ptr 0 0 0 0 0]) (hH1:∀d,(pre d).H[1]?=some (.map K V (jZ d) (sr d))) (hin:∀d,ow 3 inv ps (pre d)=some (true,D d [])) (hfix:∀d,sq 3 (b_ inv d).fr=true)
  (hI0:∀d,(b_ inv d).H[0]?=some (.raw (.box [.map 1]))) (hI1:∀d p,(b_ inv (D d p)).H[1]?=some (.map K V (jZ d) (sr d)))
  (hr:∀r d,(eH P τ L0 assign ⟨(b_ inv d).fr.set p0 (K.av r),(b_ inv d).H⟩ fun x s1=>match x with
   |.normal=>eH P τ L0 body s1 fun x s2=>match x with
    |.normal=>.done .normal ⟨(b_ inv d).fr,s2.H⟩
    |_=>.fail
   |_=>.fail).leaf (yR 3 inv psr)=st r d)
  (hst:∀d p r,p.length<1048576->st (gi r 0).rV (D d p)=some (D d (p++[r])))
  (htl:∀d,(eH P τ L0 rest (b_ inv d) .done).leaf (jY P fn.results.toList sp)=tl d) (hT:∀d p,tl (D d p)=some (R d p)) {d:LG} (I:mJ d=true) :
  ly P sp d (fun p=>p.Perm (jZ d)) (R d):=by
 have hbo:bf fn=.seq r0 (.seq (.seq r1 (.block b (.rangeFunc (.tmp g) #[p0] assign body))) rest):=by unfold bf; rw[hb]
 unfold mJ at I;simp only[aO]at I M;obtain⟨hnd,hlt⟩:=Sq I.1;have hlen:=vo I.2;obtain⟨τk,fd,db,dC,cD,f_,k0,k1,k2,k3,b0,b1,htk,ho,hfd,hbd,hbk,hnt,hre⟩:=hk;obtain⟨x,s',g1,N⟩:=jt hm v (m:=sp.bI.length) r0 _ _ (k _ _) (wK (hpre d));cases x with
 |exit _=>exact N.elim
 |ret=>exact N.elim
 |normal=>
 obtain⟨x,s1',g3,g4⟩:=jt hm v (m:=sp.bI.length) r1 _ _ (k _ _) N;obtain⟨rfl,rfl⟩:=g4;have hkr:Mt P 3 K (jZ d) p0 assign body fun p=>(b_ inv (D d p)).ao:=by
  refine⟨M.1,M.2,fun p=>hfix _,fun p r q O=>?_⟩;have hpl:p.length<1048576:=by
   have:=O.length_eq;simp only[List.length_append,List.length_cons]at this;omega
  have h:=hst d p r hpl;rw[<-hr]at h;obtain⟨x,s1,q1,U⟩:=jt hm v (m:=3) assign _ _ (k _ _) (ot h);cases x with
  |exit _=>exact U.elim
  |ret=>exact U.elim
  |normal=>
   obtain⟨x,s2,q3,y⟩:=jt hm v (m:=3) body _ _ (k _ _) U;cases x with
   |exit _=>exact y.elim
   |ret=>exact y.elim
   |normal=>
    have y:yR 3 inv psr .normal ⟨(b_ inv (D d p)).fr,s2.H⟩=some (true,D d (p++[r])):=y;exact⟨s1.ao,s2.ao,q1,q3,qe (s:=⟨(b_ inv (D d p)).fr,s2.H⟩) y⟩
 have key:∀p,∃q:cu × aG,dU P sp.bI.length rest (b_ inv (D d p)).ao q.1 q.2.ao/\jY P fn.results.toList sp q.1 q.2=some (true,R d p):=fun p=>by
  have:=htl (D d p);rw[hT d p]at this;obtain⟨x,s3,k3,k4⟩:=jt hm v (m:=sp.bI.length) rest _ .done (k _ _) (ot this);exact⟨(x,s3),k3,k4⟩
 obtain⟨q,hq⟩:=ZN key;refine Mu (x:=fun p=>(q p).1) (s0:=fun p=>(q p).2) hf (by rw[hb]; rfl) hfr ?_ fun p _=>(hq p).2;rw[hbo];refine GJ g1 (Ms (S:=fun p=>(b_ inv (D d p)).ao) (GJ g3 (aeM ?_)) fun p _=>(hq p).1);intro ro hro E a hs;obtain rfl:ro=none:=hro.resolve_right (by simp[jq]);have:=aeR (P:=P) (K:=K) (V:=V) (S:=fun p=>(b_ inv (D d p)).ao) (Nat.le_succ 2) htk ho hfd hbd hbk hnt hre hnd hlt hkr (clock:=sr d) (fun p=>bt (hI1 d p)) (bt (hI0 _)) (g:=g) (s:=(pre d).ao) (hg d) (qe (hin d)) (bt (hH1 d)) E a hs;refine wpIn_mono this fun e a1 w1 ⟨he,p,O,hM⟩=>⟨p,O,he,hM.GD (vo hln)⟩
theorem ly.same{r:LG}{Ps:α->Prop}{R:α->LG}(h:ly P sp d Ps R)(y:∀p,Ps p->R p=r):fL P sp.f (sp.ew d) (ay (sp.H0 d)) (sp.out r) (ay (sp.H1 r)):=
 jn.mono h fun v H' ⟨p,I,h1,k⟩=>by rw[y p I]at h1 k; exact⟨h1,k⟩
theorem ae5(hm:P.follows .mixedOrders=true)(y:aH P τ){h:aL}{I R:LG->LL->LG}(W:P.funcs[sp.f]? = some fn)(N:lu sp.bI=true)
  (hA:∀d,mJ d=true->ly P h d (fun p=>p.Perm (jZ d)) (I d)) (O:gr P h.f=true) {r0 v:Code} {id:Nat} {ai:Array aQ} (hb:fn.body=some (.seq r0 (.seq (.region id ai false) v))) {l1 l2:List aQ} {k:aQ} (M:ai.toList=l1++k::l2) (hg:k.guard=none) {t:Tmp} (hd:k.dst=some t)
  {s1:LG->aG} (h1:∀d,(eH P τ bx r0 ⟨gY (sp.ew d) fn.ntmps,sp.H0 d⟩ fun x s=>match x with | .normal=>g_ P τ ai l1 s fun s=>.done .normal s|_=>.fail).kR=some (.normal,s1 d))
  (hc:∀d,il (s1 d).ao.eval k.op=some (h.f,h.ew d)) (hH:∀d,(s1 d).H=h.H0 d) {tl:LG->Option LG}
  (h2:∀d e,(g_ P τ ai l2 ⟨(s1 d).fr.set t (h.out e),h.H1 e⟩ fun s=>eH P τ bx v s .done).leaf (jY P fn.results.toList sp)=tl e) (hT:∀d p,tl (I d p)=some (R d p)):∀d,mJ d=true->ly P sp d (fun p=>p.Perm (jZ d)) (R d):=
 fun d U=>aeU hm y y W N (hA d U) O hb M hg hd (h1 d) (hc d) (hH d) (h2 d) fun p _=>hT d p
end Go.AL

namespace Go.AL
open Go Go.ChangeMaps
variable [Dr]
variable {P:ak} {τ:aF}
def CE(sp:aL)(d:List AV)(H:List ax):Option (Bool × LG):=
 match lZ H (fun i=>d.getD i .undef) sp.ps []with
 |none=>none
 |some az=>match nodupB az&&oy (bZ H az) 0 sp.fO with
  |false=>none
  |true=>match lX H (bZ H az) (qf (iZ sp) az) sp.bI az,gu H (bZ H az) (qf (iZ sp) az) sp.args d with
   |some (b,g),some (h,k)=>some (b&&h,g++k)
   |_,_=>none
def mL(sp:aL)(d:List AV)(H:List ax)(r:LG):AV × List ax:=
 match lZ H (fun i=>d.getD i .undef) sp.ps []with
 |none=>(.undef,[])
 |some az=>((sp.out r).cW (bZ H az),ox (bZ H az) H (sp.H1 r))
theorem ae6{sp:aL}(hp:sf sp=true){asx:List AV}{H:List ax}{Y:LG}(h:CE sp asx H=some (true,Y)){Ps:LG->Prop}(hc:ly P sp Y Ps id) :
  jn P sp.f asx (ay H) fun v H'=>∃r,Ps r/\v=(mL sp asx H r).1/\H'=ay (mL sp asx H r).2:=by
 simp only[sf,aO]at hp;obtain⟨hfr,hle,hlab⟩:=hp;have hle:=vo hle;unfold CE at h;split at h
 ·cases h
 rename_i az hids;split at h
 ·cases h
 rename_i hck;simp only[aO]at hck;obtain⟨hnd,hup⟩:=hck;have hnd:=ua hnd;split at h
 case h_2=>cases h
 rename_i b g b' k h1 h2;simp only[bD,bM,aO]at h;obtain⟨⟨rfl,rfl⟩,rfl⟩:=h;obtain⟨p0,p1,p2,p3⟩:=wD h1 k (cY sp.bI (g++k));have hd:fM (pc sp.bI) (g++k)=k:=by rw[<-p0]; exact qM g k
 have hlen:az.length=(ay (sp.H0 (g++k))).length:=by rw[fB]; grind[aL.H0]
 have hat:∀j,j<az.length->az[j]?=some ((bZ H az).at j):=fun j y=>jW (e:=bZ H az) y;have hobjs:∀j,j<az.length->∃sh o O N,sp.bI[j]?=some sh/\H[(bZ H az).at j]?=some o/\ku H (bZ H az) (qf (iZ sp) az) sh o=some (true,O) /\
   (sp.H0 (g++k))[j]?=some (gO (cY sp.bI (g++k)) sh (O++N)) /\
   (cY sp.bI (g++k)).aq j=sh.up/\(∀ks v rZ,o=.vQ ks v rZ->(cY sp.bI (g++k)).len j=rZ.length)/\sh.up=0/\(bZ H az).up j=wA o:=by
  intro j y;have hj':j<sp.bI.length:=ab;obtain⟨i,o,O,N,q1,M,U,I,q5,q6⟩:=p3 j sp.bI[j] (cB hj');have q1':=q1;rw[hat j y]at q1;cases q1;refine⟨sp.bI[j],o,O,N,cB hj',M,U,I,q5,q6,?_,?_⟩
  ·have:=List.all_eq_true.1 hfr sp.bI[j] (vp hj')
   simp_all
  grind[cJ.up,bZ,wB]
 have hK:∀E E0,E.H=ay H->aJ E->wu (bZ H az) (bif iZ sp then (fm H.length).filter (jX az) else []) E E0->E0.H=ay (sp.H0 (g++k)) ->
   ls H (bZ H az) (qf (iZ sp) az) (cY sp.bI (g++k)) E E0:=by
  intro E E0 hEH HE hlin hE0H;refine { hH:=hEH,HE:=HE,free:=fun i hi b n hb=>?_,en:=hlin.toKeepIn,obj:=fun j o ho=>?_ }
  ·refine hlin.Rv i ?_ b n hb
   have hlt:=bl hb;rw[HE.len,hEH,fB]at hlt
   grind[qf]
  ·have y:j<az.length:=by
    rcases Nat.lt_or_ge j az.length with hlt|hge
    ·exact hlt
    grind[wx,bZ]
   refine⟨y,?_⟩;obtain⟨sh,o',O,N,q1,M,U,I,q5,q6,q7,q8⟩:=hobjs j y;rw[ho]at M;cases M;obtain⟨r1,r2,r3⟩:=Ch (lens:=cY sp.bI (g++k)) (d:=O++N) U;exact⟨r1,⟨_,by rw[hE0H]; exact bt I,by rw[q5]; exact r2⟩,fun o0 h0=>by rw[hE0H,bt I]at h0; cases h0; rw[Cf,Cg U],q6,fun _=>by rw[q5]; exact q7⟩
 have:=RG (P:=P) (f:=sp.f) (iZ sp) (bif iZ sp then (fm H.length).filter (jX az) else []) (e:=bZ H az) (H:=ay H) (args:=sp.ew (g++k)) (H0:=ay (sp.H0 (g++k)))
  (Ps:=Ps) (Vf:=fun r=>sp.out r) (Hf:=fun r=>ay (sp.H1 r)) (ew:=asx) hc hlen (by rw[fB]; rfl) hnd ?_ ?_ (fun _ _=>qR hup) ?_ (fun W=>by rw[W]; rfl) ?_ ?_ ?_ ?_ ?_ ?_ ?_
 grind[mL,R6]
 ·intro j o ho
  have y:j<az.length:=by rw[hlen]; exact bl ho
  obtain⟨sh,o',O,N,q1,M,U,I,q5,q6,q7,q8⟩:=hobjs j y;obtain⟨r1,r2,r3⟩:=Ch (lens:=cY sp.bI (g++k)) (d:=O++N) U;rw[bt I]at ho;cases ho;refine⟨o'.ao,bt M,aj.ED r2,fun v=>?_⟩
  grind
 ·intro E E0 hEH HE hlin hE0H j o ho
  have y:j<az.length:=by rw[hlen]; exact bl ho
  obtain⟨sh,o',O,N,q1,M,U,I,q5,q6,q7,q8⟩:=hobjs j y;rw[bt I]at ho;cases ho;exact LN (hK E E0 hEH HE hlin hE0H) U N y (fun l hl=>hlin.mE j _ l (by rw[hE0H]; exact bt I) (by rw[t_,hl])) (HE.obj _ _ (by rw[hEH]; exact bt M))
 grind[fB,aL.H1,Cm]
 ·intro W r _
  simp only[iZ,aO]at W;exact R0 (L5 W.1)
 ·intro W r _
  simp only[iZ,aO]at W;exact L6 W.2
 ·intro i hi
  cases W:iZ sp with
  |true=>
   rw[W]at hi;simp only[cT,mn]at hi;exact LQ hi.2
  |false=>
   grind
 ·intro j o o' ho ho'
  have y:j<az.length:=by rw[hlen]; exact bl ho
  obtain⟨sh,o2,O,N,q1,M,U,I,_⟩:=hobjs j y;rw[bt I]at ho;rw[bt M]at ho'
  grind[LK,t_]
 ·intro r _ j o l ho hl
  obtain⟨sh,h5,h6⟩:=Sd (show (ay (dL (cY sp.fO r) sp.fO r))[j]?=some o from ho);obtain⟨sh0,h7,h8⟩:=Ga hlab j sh l h5 (by rw[<-h6,hl]);obtain⟨o0,h9,h10⟩:=L8 (cY sp.bI (g++k)) sp.bI (g++k) j sh0 h7;exact⟨o0,h9,by rw[h10,h8]⟩
 ·intro j o o' ho ho'
  have y:j<az.length:=by rw[hlen]; exact bl ho
  obtain⟨sh,o2,O,N,q1,M,U,I,_⟩:=hobjs j y;rw[bt I]at ho;rw[bt M]at ho'
  grind[Cg,Cf]
 ·intro E E0 cs hEH HE hlin hE0H hr
  have hS:=(wC (hK E E0 hEH HE hlin hE0H) h2 []).2.2.2 cs hr
  grind[aL.ew]
def yV(x:cu)(s:aG):Option (Bool × aG):=match x with
 |.normal=>some (true,s)
 |_=>none
def CF(fn:Func):Code:=match fn.body with
 |some (.seq a _)=>a
 |_=>.skip
def ae7(fn:Func):Code:=match fn.body with
 |some (.seq _ (.seq b _))=>b
 |_=>.skip
def GM(fn:Func):Code:=match fn.body with
 |some (.seq _ (.seq _ c))=>c
 |_=>.skip
def lz(fn:Func):Array aQ:=match ae7 fn with
 |.region _ ai _=>ai
 |_=>#[]
def CG(fn:Func)(n:Nat):aQ:=(lz fn).toList.getD n default
def sL(P:ak)(τ:aF)(fn:Func)(sp:aL)(n:Nat)(d:LG):aG:=((eH P τ bx (CF fn) ⟨gY (sp.ew d) fn.ntmps,sp.H0 d⟩ fun x s=>match x with | .normal=>g_ P τ (lz fn) ((lz fn).toList.take n) s fun s=>.done .normal s|_=>.fail).leaf yV).getD ⟨[],[]⟩
def uq(fn:Func)(n:Nat)(s:aG):List AV:=match il s.ao.eval (CG fn n).op with
 |some (_,d)=>d
 |none=>[]
theorem SM(hm:P.follows .mixedOrders=true){I:aF}(ht:aH P τ)(U:aH P I){L:LT}{k sp:aL}{fn:Func}(hf:P.funcs[sp.f]? = some fn)(hfr:lu sp.bI=true){d r Y:LG}{Ps:LG->Prop}(hN:ly P k Y Ps id)(hE:sf k=true)(hbN:gr P k.f=true)
  {r0 rest:Code} {id:Nat} {ai:Array aQ} (hb:fn.body=some (.seq r0 (.seq (.region id ai false) rest))) (hL:aT P sp.bI.length L (bf fn)) {l1 l2:List aQ} {oc:aQ} (hops:ai.toList=l1++oc::l2) (hg:oc.guard=none) {t:Tmp} (hd:oc.dst=some t) {S1:aG}
  (h1:(eH P τ bx r0 ⟨gY (sp.ew d) fn.ntmps,sp.H0 d⟩ fun x s=>match x with | .normal=>g_ P τ ai l1 s fun s=>.done .normal s|_=>.fail).leaf yV=some S1)
  {v:List AV} (hc:il S1.ao.eval oc.op=some (k.f,v)) (hY:CE k v S1.H=some (true,Y)) {tl:LG->Option LG}
  (h2:∀e,(g_ P I ai l2 ⟨S1.fr.set t (mL k v S1.H e).1,(mL k v S1.H e).2⟩ fun s=>eH P I L rest s .done).leaf (jY P fn.results.toList sp)=tl e) (hT:∀e,Ps e->tl e=some r) :
  fL P sp.f (sp.ew d) (ay (sp.H0 d)) (sp.out r) (ay (sp.H1 r)):=by
 have W:bf fn=.seq r0 (.seq (.region id ai false) rest):=by unfold bf; rw[hb]
 rw[W]at hL;have hLr:aT P sp.bI.length L rest:=hL.sub (fun p M=>by simp only[cI,dm]; exact .inr (.inr M)) (fun p M=>by
  simp only[cN,dm]
  first
  |exact .inr (.inr M)
  |exact .inr (.inr (.inr M))
  |exact .inr (.inr (.inr (.inr M))))
 obtain⟨x,s',g1,O⟩:=jt hm ht (m:=sp.bI.length) r0 _ _ (bG _ _ _) (ot h1);cases x with
 |exit _=>exact O.elim
 |ret=>exact O.elim
 |normal=>
 obtain⟨y,g3,N⟩:=tV ht O;have N:yV .normal y=some (true,S1):=N;simp only[yV,bD,bM,true_and]at N;subst N;have key:∀e,Ps e->∃s2 x s3,gX P I.pf ai l2 ⟨y.fr.set t (mL k v y.H e).1,ay (mL k v y.H e).2⟩ s2/\dU P sp.bI.length rest s2 x s3.ao/\jY P fn.results.toList sp x s3=some (true,r):=fun e he=>by
  have:=h2 e;rw[hT e he]at this;obtain⟨s2,k1,k2⟩:=tV U (ot this);obtain⟨x,s3,k3,k4⟩:=jt hm U (m:=sp.bI.length) rest s2 .done hLr k2;exact⟨s2.ao,x,s3,k1,k3,k4⟩
 have hx:∀e,∃q:St × cu × aG,Ps e->gX P I.pf ai l2 ⟨y.fr.set t (mL k v y.H e).1,ay (mL k v y.H e).2⟩ q.1/\dU P sp.bI.length rest q.1 q.2.1 q.2.2.ao/\jY P fn.results.toList sp q.2.1 q.2.2=some (true,r):=fun e=>by
  by_cases he:Ps e
  simp_all
  ·exact⟨(⟨[],[]⟩,.normal,⟨[],[]⟩),fun h=>(he h).elim⟩
 obtain⟨q,hq⟩:=ZN hx;refine ly.same (Ps:=Ps) (R:=fun _=>r) (Mu (x:=fun e=>(q e).2.1) (s0:=fun e=>(q e).2.2) hf (by rw[hb]; rfl) hfr ?_ fun e he=>(hq e he).2.2) fun _ _=>rfl;rw[W];refine GJ g1 (Ms (S:=fun e=>(q e).1) ?_ fun e he=>(hq e he).2.1);exact SJ hops g3 hg hd (V:=fun e=>(mL k v y.H e).1) (HH:=fun e=>ay (mL k v y.H e).2) hc hbN (ae6 hE hY hN) fun e he=>(hq e he).1
end Go.AL
