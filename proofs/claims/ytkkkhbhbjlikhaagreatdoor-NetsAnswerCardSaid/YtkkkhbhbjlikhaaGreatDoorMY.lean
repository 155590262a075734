/-
 What is proved here: the function that maps.Keys hands back,called with a round's body: each key of the map comes once,in some order. No program in sight; no condition but that the function's text is the library's.
-/
import Derived.Test.YtkkkhbhbjlikhaaGreatDoorMG
import Derived.Shelf.SlMaps.Clone
set_option linter.all false
open Array renaming getElem?_push->s_,getElem?_eq_some_iff->fS,replicate->pe,toList_append->xQ,toList_replicate->AT
open Bool renaming and_eq_true->aR
open Classical renaming axiomOfChoice->Jq
open Go renaming FuncId->bH,Program->ak,Oper->aN
open Go.Deferred renaming ofValue->AQ
open Go.MapKept renaming heap_set->Eg
open Go.Oper renaming semAt_eq->qn
open Go.Region renaming wanted->AR
open Go.World renaming putObj_heap_same->Eh,size_alloc->lR,alloc_heap_new->AX
open List renaming range->jh,getElem?_append_right->ml,getElem?_eq_getElem->bT,getD_eq_getElem?_getD->dj,mem_of_getElem?->jj,getElem?_map->dw,mem_cons->cy,getElem?_of_mem->oW,mem_append->cY,replicate->dz,append_nil->kL,range'->ka,range'_succ->Eb,range_eq_range'->AS,getElem_mem->nG,mem_filter->jm
open List.Perm renaming refl->xT
open Nat renaming le_refl->bl,le_add_right->gk,zero_add->fC,zero_le->lj,blt_eq->jS,le_of_ble_eq_true->lk
open Option renaming isSome_iff_exists->rC
open Option.some renaming injEq->bQ
open Prod.mk renaming injEq->cr
namespace Go.AL
open Go Go.ChangeMaps
variable [Dr]
def kE(l it:Nat):List AV:=[.lit (.func (.yield l) #[] #[]),.undef,.undef,.undef,.undef,.lit (.pointer (some ⟨it,0,none⟩)),.undef,.undef,.undef,.undef,.undef,.undef,.undef,.undef]
def Cr(cg:Array aN)(r3:Nat):Code:=.seq (.region r3 cg false) (.cond (.tmp 13) .ret .skip)
structure L8 (P:ak) (τ:ar) (K:Ct) (bq bD br cg:Array aN):Prop where
 r0:∃o1 o2 ty,bq.toList=[o1,o2]/\(o1.guard=none/\o1.op=.load ty (.tmp 1)/\o1.dst=some 4)/\(o2.guard=none/\o2.op=.range ty (.tmp 4)/\o2.dst=some 5)/\(iF P ty).isSome=true/\fj P ty=some (1,false)
 r1:∃o1 o2,bD.toList=[o1,o2]/\o1.guard=none/\o1.op=.next (.tmp 5) false/\o1.dst=some 6/\o2.guard=none/\o2.op=.extract (.tmp 6) 0/\o2.dst=some 7
 r2:∃o1 l,br.toList=o1::l/\o1.guard=none/\o1.op=.entry (.tmp 5)/\o1.dst=some 8
 r3:∃u1 u2 u3 u4 t fV,cg.toList=[u1,u2,u3,u4]/\(u3.guard=none/\u3.op=.call { callee:=.value (.tmp 10),args:=#[.tmp 11],argTypes:=fV }/\u3.dst=some 12)/\(u4.guard=none/\u4.op=.unOp .not t (.tmp 12)/\u4.dst=some 13)
 ad:∀(l it:Nat) (g:LG),∃s2 s3:aH,(fY P τ br (br.toList.drop 1) ⟨(kE l it).set 8 (.tuple [K.av g,.undef]),[]⟩ fun s=>.done .normal s).gN=some (.normal,s2) /\
  (fY P τ cg (cg.toList.take 2) s2 fun s=>.done .normal s).gN=some (.normal,s3)/\s3.fr.length=14/\s3.fr[0]?=some (.lit (.func (.yield l) #[] #[]))/\s3.fr[5]?=some (.lit (.pointer (some ⟨it,0,none⟩)))/\s3.fr[10]?=some (.lit (.func (.yield l) #[] #[]))/\s3.fr[11]?=some (K.av g)
def l5(E:af):af:=(kT E).fb
variable {E:af}
theorem aeA(HE:aO E):aO (l5 E):=(Lz HE).cG (mw (Lz HE))
theorem L9(b:Nat):¬ (l5 E).bC b:=by
 rintro(⟨id,c,d⟩|⟨l,k,c,g⟩)<;>simp_all[l5,kT,af.fb,fM]
theorem aeB:E.cQ (l5 E):=⟨fun b d=>⟨⟨d.1,L9 b,fun g=>g.elim d.2.2 d.2.1⟩,rfl⟩⟩
theorem Gj{l it:Nat}{fr:List AV}{H:List ay}{E0 E':af}{a:Act}(hs:bM ⟨fr,H⟩ E0 a)(A:∀ b,¬ E0.X.z b)(g:fr.length=14) (B:fr[0]? = some (.lit (.func (.yield l) #[] #[]))) (F:fr[5]? = some (.lit (.pointer (some ⟨it,0,none⟩)))) (q:aO E') :
  bM ⟨kE l it,[]⟩ (l5 E') a:=by
 have hm:bM ⟨kE l it,H⟩ E0 a:=by
  refine⟨hs.H,F1 hs.fr (by rw[g]; rfl) fun j b d=>?_,hs.defers,hs.heap⟩
  match j,d with
  |0,d=>exact .inr (by rw[B]; exact d)
  |5,d=>exact .inr (by rw[F]; exact d)
  |1,d=>exact .inl (by cases d; rfl)
  |2,d=>exact .inl (by cases d; rfl)
  |3,d=>exact .inl (by cases d; rfl)
  |4,d=>exact .inl (by cases d; rfl)
  |j+6,d=>
   left;have I:kE l it=[.lit (.func (.yield l) #[] #[]),.undef,.undef,.undef,.undef,.lit (.pointer (some ⟨it,0,none⟩))]++dz 8 .undef:=rfl
   grind
 refine⟨rfl,LX hm.fr fun b d=>?_,?_,aeA q⟩
 ·simp only[kE,cy,List.not_mem_nil,or_false]at d
  grind
 ·rw[uu hs.defers A]
  exact mr _ _
section ky
variable {P:ak} {τ:ar} {K V:Ct} {bq bD br cg:Array aN}
theorem aeC(ht:aw P τ)(ho:L8 P τ K bq bD br cg){f:bH}{fn:Func}{r0 r1 r2 r3 b0 b1:Nat}(hf:P.funcs[f]? = some fn) (N:fn.body=some (kV r0 b0 r1 b1 r2 bq bD br 7 (Cr cg r3))) (hn:fn.ntmps=14) (hr:fn.results=#[])
  {l mb nn aL:Nat} {rZ:LL} (hnd:(rZ.map cP).Nodup) (hlt:∀r∈rZ,cP r<aL) (J:LL->af->Prop) (hJ:∀p E,J p E->aO E)
  (hJs:∀p E E',J p E->E.le E'->aO E'->E'.H=E.H->J p E')
  (hJa:∀p E o,J p E->J p { w:=E.w.alloc o,H:=E.H,ad:=E.ad,X:=E.X.or fun b=>b=E.w.heap.size })
  (hJi:∀p E w' d,J p E->l<d->E.X d->(∃q c s z,E.w.heap[d]?=some (.mapIter q c s z))->w'.heap.size=E.w.heap.size->(∀b,b≠d->w'.heap[b]?=E.w.heap[b]?)->eV E.w w'->J p { E with w:=w' })
  (hJl:∀p E,J p E->l<E.w.heap.size)
  (hmap:∀p E,J p E->E.H[1]?=some (.map (dH K V rZ) aL)/\E.ad[1]?=some (some (mb,nn)))
  (hround:∀p r q E (cs:Array Value),(p++r::q).Perm rZ->J p E->aq E [K.av (gi r 0).rV] cs.toList->YieldAt (fz none) 0 P l cs E.w fun e W'=>e=.returned (.bool true)/\∃E',E'.w=W'/\J (p++[r]) E'/\(∀b,E.X b->E'.X b)/\∀b,b<E.w.heap.size->E.X b->b≠l->W'.heap[b]?=E.w.heap[b]?)
  {E0:af} {c:Value} (h0:J [] E0) (hbox:E0.H[0]?=some (.box [.map 1])) (hcp:ae E0 (.ptr 0 0 0 0 0) c) :
  CallsIn (fz none) 0 P f #[.func (.yield l) #[] #[],c] E0.w fun e W'=>(∃v,e=.returned v)/\∃E' p,E'.w=W'/\p.Perm rZ/\J p E':=by
 obtain⟨o1,o2,ty,q0,⟨g1,p1,d1⟩,⟨g2,p2,d2⟩,hty,hvar⟩:=ho.r0;refine callsIn_of_wp_marks hf N trivial ?_;have HE0:=hJ _ _ h0;have hsz0:bq.size=2:=by
  have:bq.toList.length=2:=by rw[q0]; rfl
  omega
 have hs0:bM ⟨.lit (.func (.yield l) #[] #[])::.ptr 0 0 0 0 0::dz 12 .undef,E0.H⟩ E0.fb { tmps:=#[.func (.yield l) #[] #[],c]++pe (fn.ntmps-2) undef,defers:=[] }:=by
  refine⟨rfl,?_,mr _ _,HE0.cG (mw HE0)⟩;rw[hn];simp only[xQ,AT];show aq E0.fb ([.lit (.func (.yield l) #[] #[]),.ptr 0 0 0 0 0]++dz 12 .undef) ([.func (.yield l) #[] #[],c]++dz 12 undef)
  refine mv (by simp only[aq]; exact⟨by simp[ae],rY (mw HE0) _ hcp,trivial⟩) ?_;exact tQ (dz 12 undef)
 refine wpIn_seq (wpIn_region ?_);rw[hsz0];show wpOpsIn (fz none) 0 P bq _ (ka 0 1++[1]) _ E0.w
 refine LW (pf:=fun _=>false) (J:=J []) (l:=[o1]) (k:=0) (hJs []) (fun j o M=>?_) hs0 h0 (fr':=(.lit (.func (.yield l) #[] #[])::.ptr 0 0 0 0 0::dz 12 .undef).set 4 (.map 1)) ?_ fun a1 g hj1 hs1=>?_
 ·have hlt:j<1 :=nJ
  have:j=0:=ab;subst this;rw[kC q0];exact M
 ·refine eO (v:=.map 1) (sg g1 (by rw[p1]; rfl) ?_) d1 l4
  rw[p1];show iS P ty (.ptr 0 0 0 0 0) E0.H=_
  unfold iS;rw[hvar];simp only[hbox,and_self,if_true];rfl
 obtain⟨hm1,hm2⟩:=hmap _ _ hj1;have hrx:ae g.fb (.map 1) (a1.eval (.tmp 4)):=by
  have:=hs1.eval (.tmp 4)
  grind[St.eval]
 obtain⟨U,n',ms0,hc,hloc,hmb,hre⟩:=vF (E:=g.fb) hs1.heap hm1 hrx;have hmbe:U=mb:=by
  have h:g.ad[1]?=some (some (U,n')):=hloc;rw[hm2]at h;simp only[bQ,cr]at h;exact h.1.symm
 subst hmbe;obtain⟨⟨kt,et⟩,hty⟩:=rC.1 hty;rw[wpOpsIn_cons];refine kB (show bq[1]?=some o2 by rw[kC q0]; rfl) g2 (LO p2 hc (run_range_map g.w ty kt et U ms0 aL (lu hty) hmb)) (fun c e=>by rw[p2]at e; cases e) none ?_;rw[d2];show (Code.block _ _).wpIn (fz none) 0 P _ _ _
 obtain⟨d,hitb⟩:∃d,d=g.w.heap.size:=⟨_,rfl⟩
 generalize Y:g.w.alloc (.mapIter (some U) aL #[] aL)=F;have hj2:=hJa [] g (.mapIter (some U) aL #[] aL) hj1;rw[Y]at hj2;have hitn:F.heap[d]?=some (.mapIter (some U) aL #[] aL):=by rw[<-Y,hitb]; exact(show (g.w.heap.push _)[g.w.heap.size]?=_ by simp)
 have hd1:a1.defers=[]:=uu hs1.defers fun _ h=>h;obtain⟨a2,ha2⟩:∃a2,a2=a1.put (some 5) (.pointer (some ⟨g.w.heap.size,0,none⟩)):=⟨_,rfl⟩
 have hs2:bM ⟨kE l d,[]⟩ (l5 { w:=F,H:=g.H,ad:=g.ad,X:=g.X.or fun b=>b=g.w.heap.size }) a2:=by
  have hp:=hs1.kU 5 (v:=.lit (.pointer (some ⟨g.w.heap.size,0,none⟩))) (u:=.pointer (some ⟨g.w.heap.size,0,none⟩)) (by simp[ae]);rw[ha2];exact Gj hp (fun _ h=>h) rfl (by rfl) (by rw[hitb]; rfl) (hJ _ _ hj2)
 rw[show (a1.put (some 5) (.pointer (some ⟨g.w.heap.size,0,none⟩)))=a2 from ha2.symm];have hlt_l:l<d:=by
  have:=hJl _ _ hj1;omega
 have hne_l:d≠l:=ab;refine wpIn_block (wpIn_loop (fun a w=>∃(E:af) (p:LL) (seen:Array Nat) (last:Nat),E.w=w/\J p E/\E.X d/\w.heap[d]? = some (.mapIter (some U) aL seen last)/\aL<=last/\(p++rZ.filter fun x => !seen.contains (cP x)).Perm rZ/\bM ⟨kE l d,[]⟩ (l5 E) a)
  (fun _ w=>(rZ.filter fun x => !(w.iterSeen d).contains (cP x)).length) ⟨_,[],#[],aL,rfl,hj2,.inr hitb,hitn,bl _,?_,hs2⟩ ?_)
 ·have:(rZ.filter fun x => !(#[]:Array Nat).contains (cP x))=rZ:=List.filter_eq_self.2 (fun x _=>by simp)
  rw[List.nil_append,this]
 rintro a _ ⟨E,p,seen,last,rfl,hj,hXi,hit,hcl,hp,hs⟩;have HE:=hJ _ _ hj;obtain⟨hmE1,hmE2⟩:=hmap _ _ hj;have hob:=HE.obj 1 _ hmE1;simp only[bK]at hob;obtain⟨B,nn2,I,hlo2,hmb2,hre2⟩:=hob;have hmbe2:B=U:=by
  have h:=hlo2;rw[hmE2]at h;simp only[bQ,cr]at h;exact h.1.symm
 subst hmbe2;have hne:B≠d:=fun e=>(HE.lt 1 B nn hmE2).2 (by rw[e]; exact hXi);obtain⟨i1,i2,e1,ga1,pa1,qa1,ga2,pa2,qa2⟩:=ho.r1;obtain⟨o3,l2,e3,gb,pb,qb⟩:=ho.r2;obtain⟨u1,u2,u3,u4,t7,fV,e4,⟨gc3,pc3,dc3⟩,⟨gc4,pc4,dc4⟩⟩:=ho.r3;have hsz1:bD.size=2:=by
  have:bD.toList.length=2:=by rw[e1]; rfl
  omega
 have hiv:a.eval (.tmp 5)=.pointer (some ⟨d,0,none⟩):=by
  have:=hs.eval (.tmp 5);simpa[St.eval,kE,ae]using this
 obtain⟨hlen,hen⟩:=iG.1 hre2;have hl1:(dH K V rZ).length=rZ.length:=by simp[dH]
 have row_of:∀(i:Nat) (e:MapEntry),I.toList[i]?=some e->∃r,rZ[i]?=some r/\e.born=cP r:=by
  intro i e hi;have h1:=bA hi;have W:i<rZ.length:=ab;refine⟨rZ[i],bT W,?_⟩;exact(hen i (K.av (gi rZ[i] 0).rV,V.av (gi rZ[i] 1).rV,(gi rZ[i] 2).iV.toNat) e (by simp[dH,W]) hi).2.2.1
 have hold:∀x∈I.toList,x.born<aL:=by
  intro x hx;obtain⟨i,hi⟩:=oW hx;obtain⟨r,h1,W⟩:=row_of i x hi;rw[W];exact hlt r (jj h1)
 have hbn:(I.toList.map (·.born)).Nodup:=by
  have:I.toList.map (·.born)=rZ.map cP:=by
   apply List.ext_getElem?;intro i;simp only[dw];cases hi:I.toList[i]? with
   |none=>
    have h1:=List.getElem?_eq_none_iff.1 hi;rw[List.getElem?_eq_none ab];rfl
   |some e=>
    obtain⟨r,h1,W⟩:=row_of i e hi
    grind
  rw[this];exact hnd
 have hu6:(⟨kE l d,[]⟩:St).fr[6]?=some .undef:=rfl;have hu7:(⟨kE l d,[]⟩:St).fr[7]?=some .undef:=rfl;have hlt6:=yK hs hu6;have hlt7:=yK hs hu7;have hz:∀b,¬ (l5 E).X.z b:=fun _ h=>h;refine wpIn_seq (wpIn_region ?_);rw[hsz1];show wpOpsIn (fz none) 0 P bD _ [0,1] a E.w
 rw[wpOpsIn_cons];rcases run_next_at (P:=P) E.w i1.type d B aL last seen I aL hit hmb2 hold hcl with⟨hz0,hrun⟩|⟨e,he,w1,hw1,hrun⟩
 ·refine kB (show bD[0]?=some i1 by rw[kC e1]; rfl) ga1 (yM pa1 hiv hrun) (fun c e=>by rw[pa1]at e; cases e) none ?_
  rw[qa1,wpOpsIn_cons];refine kB (show bD[1]?=some i2 by rw[kC e1]; rfl) ga2 (yL pa2 (oe hlt6) rfl) (fun c e=>by rw[pa2]at e; cases e) none ?_;rw[qa2];show (Code.seq _ _).wpIn (fz none) 0 P _ _ E.w
  refine wpIn_seq (wpIn_cond_false (oe (by simpa[Act.put]using hlt7)) (wpIn_exit ?_));simp only[Exit.then,Exit.inBlock,if_true];have hsf:=(hs.og hu6 (.tuple #[.bool false])).og hu7 (.bool false);have hd:((a.put (some 6) (.tuple #[.bool false])).put (some 7) (.bool false)).defers=[]:=uu hsf.defers fun _ h=>h;show LeavesInM (fz none) 0 P fn ((a.put (some 6) (.tuple #[.bool false])).put (some 7) (.bool false)).tmps _ ((a.put (some 6) (.tuple #[.bool false])).put (some 7) (.bool false)).defers .returning E.w
  rw[hd];refine⟨.tuple #[],?_,⟨_,rfl⟩,E,p,rfl,?_,hj⟩
  ·rw[vO,hr]
   simp
  ·have:(rZ.filter fun x => !seen.contains (cP x))=[]:=by
    rw[List.filter_eq_nil_iff];intro x hx hc;obtain⟨i,hi⟩:=oW hx;have h1:=bA hi;have W:i<I.toList.length:=ab;obtain⟨r,h3,h4⟩:=row_of i _ (bT W);rw[hi]at h3;cases h3;have:I.toList[i]∈(leftOf I seen).toList:=by
     unfold leftOf;rw[Array.toList_filter];refine jm.2 ⟨nG W,?_⟩;rw[h4];exact hc
    have h5:(leftOf I seen).toList.length=0:=ab;rw[List.length_eq_zero_iff.1 h5]at this;cases this
   grind
 ·refine kB (show bD[0]?=some i1 by rw[kC e1]; rfl) ga1 (yM pa1 hiv hrun) (fun c e=>by rw[pa1]at e; cases e) none ?_
  rw[qa1,wpOpsIn_cons];refine kB (show bD[1]?=some i2 by rw[kC e1]; rfl) ga2 (yL pa2 (oe hlt6) rfl) (fun c e=>by rw[pa2]at e; cases e) none ?_;rw[qa2];show (Code.seq _ _).wpIn (fz none) 0 P _ _ _
  refine wpIn_seq (wpIn_cond_true (oe (by simpa[Act.put]using hlt7)) (wpIn_skip ?_));show (Code.block _ _).wpIn (fz none) 0 P _ _ _
  refine wpIn_block (wpIn_seq (wpIn_region ?_));generalize Y:setBlock w1 d (.mapIter (some B) aL (seen.push e.born) aL)=F;have hw1h:w1.heap=E.w.heap:=by rcases hw1 with rfl|rfl<;>rfl
  have hos:eV E.w F:=by rw[<-Y]; rcases hw1 with rfl|rfl<;>exact⟨rfl,rfl,rfl,by first|exact fun _=>bl _|exact fun _=>gk _ _⟩
  have hit2':F.heap[d]?=some (.mapIter (some B) aL (seen.push e.born) aL):=by
   rw[<-Y];exact(Eg (by rw[hw1h]; exact hit)).1
  have hother:∀b,b≠d->F.heap[b]?=E.w.heap[b]?:=by
   intro b N;rw[<-Y];show (w1.heap.setIfInBounds d _)[b]?=_
   rw[(Eg (by rw[hw1h]; exact hit)).2 b N,hw1h]
  have hsize:F.heap.size=E.w.heap.size:=by
   rw[<-Y];show (w1.heap.setIfInBounds d _).size=_
   simp[hw1h]
  have hjw:=hJi p E F d hj hlt_l hXi ⟨_,_,_,_,hit⟩ hsize hother hos;obtain⟨A,hE2⟩:∃A:af,A={ E with w:=F }:=⟨_,rfl⟩
  rw[<-hE2]at hjw;have hE2w:A.w=F:=by rw[hE2]
  have HE2:=hJ _ _ hjw;have hX2:A.X d:=by rw[hE2]; exact hXi
  have hs1:=(hs.og hu6 (.tuple #[.bool true,e.key,e.val])).og hu7 (.bool true);have hs2:bM ⟨kE l d,[]⟩ (l5 A) _:=Gj hs1 hz rfl rfl rfl HE2;obtain⟨hem,hes⟩:=mem_left he;obtain⟨i,hi⟩:=oW hem;obtain⟨r,hri,hrb⟩:=row_of i e hi;have hrm:=jj hri;have hkc:(K.av (gi r 0).rV).closed=true:=K.Fc _;have k1:ae A (K.av (gi r 0).rV) e.key:=by
   obtain⟨hmE1',hmE2'⟩:=hmap _ _ hjw;have hob:=HE2.obj 1 _ hmE1';simp only[bK]at hob;obtain⟨mb3,nn3,ms3,hlo3,hmb3,hre3⟩:=hob;have h3:mb3=B:=by
    have h:=hlo3;rw[hmE2']at h;simp only[bQ,cr]at h;exact h.1.symm
   subst h3;have hmm:ms3=I:=by
    rw[hE2w,hother mb3 hne,hmb2]at hmb3;cases hmb3;rfl
   subst hmm;exact((iG.1 hre3).2 i (K.av (gi r 0).rV,V.av (gi r 1).rV,(gi r 2).iV.toNat) e (by simp[dH,hri]) hi).1
  have k1h:ae (l5 A) (K.av (gi r 0).rV) e.key:=fD aeB _ hkc k1;have hsz2:br.size=l2.length+1:=by
   have:br.toList.length=l2.length+1:=by rw[e3]; rfl
   omega
  have hl2:br.toList.drop 1=l2:=by rw[e3]; rfl
  obtain⟨s2,s3,hv2,hv3,f14,f0,f5,f10,f11⟩:=ho.ad l d (gi r 0).rV;have ao2:=Cc ht hv2;have ao3:=Cc ht hv3;have hlp:(p++(r::rZ.filter fun x => !(seen.push (cP r)).contains (cP x))).Perm rZ:=
   (List.Perm.append_left p (yJ hnd hrm (by rw[<-hrb]; exact hes)).symm).trans hp
  have hmb2':F.heap[B]?=some (.map I aL):=by rw[hother B hne]; exact hmb2
  rw[hsz2,AS,Eb,wpOpsIn_cons];have hiv1:((a.put (some 6) (.tuple #[.bool true,e.key,e.val])).put (some 7) (.bool true)).eval (.tmp 5)=.pointer (some ⟨d,0,none⟩):=by
   have:=hs2.eval (.tmp 5);simpa[St.eval,kE,ae]using this
  refine kB (show br[0]?=some o3 by rw[kC e3]; rfl) gb (LN pb hiv1 (run_entry_at (P:=P) F d B aL seen I aL e hit2' hmb2' hem hbn)) (fun c e=>by rw[pb]at e; cases e) none ?_;rw[qb];have hs3:=hs2.kU 8 (v:=.tuple [K.av (gi r 0).rV,.undef]) (u:=.tuple #[e.key,e.val]) (by simp only[ae]; exact⟨_,rfl,by simp only[aq]; grind[ae]⟩);have hnil:ka (0+1) l2.length=ka 1 l2.length++[]:=nJ;rw[hnil];rw[<-hE2w];refine qL (pf:=τ.pf) none l2 1 _ _ (l5 A) _ [] (fun j o M=>?_) (by rw[hl2]at ao2; exact ao2) hs3 fun a4 w4 hc4=>?_
  ·rw[kC e3]
   grind
  obtain⟨loc4,rr4,hs4,hle4⟩:=hc4;show (Cr cg r3).wpIn (fz none) 0 P _ a4 w4
  have hsz3:cg.size=4:=by
   have:cg.toList.length=4:=by rw[e4]; rfl
   omega
  refine wpIn_seq (wpIn_region ?_);rw[hsz3];show wpOpsIn (fz none) 0 P cg _ (ka 0 2++[2,3]) a4 w4
  refine qL (pf:=τ.pf) none [u1,u2] 0 _ _ { w:=w4,H:=s2.au.H,ad:=loc4,X:=(l5 A).X.re rr4 } a4 [2,3] (fun j o M=>?_) (by rw[e4]at ao3; exact ao3) hs4 fun a5 O hc5=>?_
  ·rw[kC e4,fC]
   have hlt:j<2:=by simpa using bA M
   match j,M with
   |0,M=>exact M
   |1,M=>exact M
  obtain⟨loc5,rr5,hs5,hle5⟩:=hc5;have hle:=hle4.trans hle5;have hext:Ext A.w O:=⟨hle.size,fun b N=>hle.same b N (L9 b),hle.env⟩
  have hj5:J p { A with w:=O }:=hJs p A _ hjw (af.jn hext) (HE2.ext hext) rfl;have h10:a5.eval (.tmp 10)=.func (.yield l) #[] #[]:=by
   have:=hs5.eval (.tmp 10);have e:s3.au.eval (.tmp 10)=.lit (.func (.yield l) #[] #[]):=by
    show s3.fr.getD 10 .undef=_
    rw[dj,f10];rfl
   rw[e]at this
   grind[ae]
  have hk5:ae { A with w:=O } (K.av (gi r 0).rV) (a5.eval (.tmp 11)):=by
   have:=hs5.eval (.tmp 11);have e:s3.au.eval (.tmp 11)=K.av (gi r 0).rV:=by
    show s3.fr.getD 11 .undef=_
    rw[dj,f11];rfl
   rw[e]at this;have hlc:af.cQ { w:=O,H:=s3.au.H,ad:=loc5,X:=((l5 A).X.re rr4).re rr5 } { A with w:=O }:=⟨fun b N=>⟨⟨N.1,fun ho=>N.2.2 (.inr ho),fun hx=>N.2.2 (.inl hx)⟩,rfl⟩⟩
   grind[fD]
  obtain⟨fn',tmps',asg,bod,hy1,hR⟩:=hround p r _ { A with w:=O } #[a5.eval (.tmp 11)] hlp hj5 (by simp only[aq]; grind);rw[wpOpsIn_cons];unfold wpOpIn;have hp2:cg[2]?=some u3:=by rw[kC e4]; rfl
  simp only[hp2];rw[iP (by simp[AR,gc3])];refine⟨fun _ _=>trivial,?_⟩;rw[qn _ _ _ (fun c e=>by rw[pc3]at e; cases e)];have hrun2:(execOp a5.eval u3).run P O=.ok (.round l fn' tmps' asg bod) O:=by
   obtain⟨dst,op,type,pos,after,guard⟩:=u3;simp only[]at pc3;subst pc3;simp[execOp,resolve,h10,AQ,invoke,hy1]
  rw[hrun2,Oper.uponIn_round];refine⟨fun h=>(by cases h),hR.mono ?_⟩;rintro ee _ ⟨rfl,E',rfl,hj',hXk,hkeep⟩;show wpOpsIn (fz none) 0 P cg _ (ka 3 1++[]) _ E'.w
  rw[dc3];have hd5:a5.defers=[]:=uu hs5.defers fun _ h=>h;have HE':=hJ _ _ hj';have hs6:bM ⟨kE l d,[]⟩ (l5 E') a5:=Gj hs5 (fun _ h=>h) f14 f0 f5 HE';have hs7:=hs6.kU 12 (v:=.lit (.bool true)) (u:=.bool true) (by simp[ae]);have ao4:fW P τ.pf cg [u4] ⟨(kE l d).set 12 (.lit (.bool true)),[]⟩ ⟨((kE l d).set 12 (.lit (.bool true))).set 13 (.lit (.bool false)),[]⟩:=eO (v:=.lit (.bool false)) (f_ gc4 (by rw[pc4]; rfl) (by rw[pc4]; rfl)) dc4 l4;refine qL (pf:=τ.pf) none [u4] 3 _ _ (l5 E') _ [] (fun j o M=>?_) ao4 hs7 fun a8 w8 hc8=>?_
  ·have hlt:j<1 :=nJ
   have:j=0:=ab;subst this;rw[kC e4];exact M
  obtain⟨loc8,rr8,hs8,hle8⟩:=hc8;have hext8:Ext E'.w w8:=⟨hle8.size,fun b N=>hle8.same b N (L9 b),hle8.env⟩
  have hj8:J (p++[r]) { E' with w:=w8 }:=hJs _ E' _ hj' (af.jn hext8) (HE'.ext hext8) rfl;show (Code.cond _ _ _).wpIn (fz none) 0 P _ _ _
  have h13:a8.eval (.tmp 13)=.bool false:=by
   have:=hs8.eval (.tmp 13);simpa[St.eval,kE,ae]using this
  refine wpIn_cond_false h13 (wpIn_skip ?_);have hilt:d<F.heap.size:=se hit2';have hit5:O.heap[d]?=some (.mapIter (some B) aL (seen.push e.born) aL):=by
   rw[hext.same d (by rw[hE2w]; exact hilt),hE2w];exact hit2'
  have hit6:E'.w.heap[d]?=some (.mapIter (some B) aL (seen.push e.born) aL):=by
   rw[hkeep d (se hit5) hX2 hne_l];exact hit5
  have hit8:w8.heap[d]?=some (.mapIter (some B) aL (seen.push e.born) aL):=by
   rw[hext8.same d (se hit6)];exact hit6
  refine⟨⟨_,p++[r],seen.push e.born,aL,rfl,hj8,hXk d hX2,hit8,bl _,?_,Gj hs8 (fun _ h=>h) rfl rfl rfl (hJ _ _ hj8)⟩,?_⟩
  ·rw[hrb,List.append_assoc]
   exact hlp
  ·show (rZ.filter fun x => !(w8.iterSeen d).contains (cP x)).length<(rZ.filter fun x => !(E.w.iterSeen d).contains (cP x)).length
   rw[yN hit8,yN hit];have:=(yJ hnd hrm (by rw[<-hrb]; exact hes)).length_eq;rw[<-hrb]at this
   grind
end ky
end Go.AL

namespace Go.AL
open Go Go.ChangeMaps
variable [Dr]
def pN(P:ak)(m:Nat)(c:Code)(s:St){α:Type}(Ps:α->Prop)(X:α->cu)(S:α->St):Prop:=
 ∀(d:Option Nat),gT d c->∀(E:af) (a:Act),bM s E a->c.wpIn (fz d) 0 P (fun e g q=>∃p,Ps p/\e=(X p).toExit/\eG m E (S p) g q) a E.w
section aeD
variable {P:ak} {m:Nat} {s s' s1:St} {x:cu} {α:Type} {Ps:α->Prop} {X:α->cu} {S S':α->St}
theorem yV{d g:Code}(B:c_ P m d s .normal s1)(F:pN P m g s1 Ps X S):pN P m (.seq d g) s Ps X S:=fun q A E a hs=>
 wpIn_seq (wpIn_mono (B q A.seq1 E a hs) fun e I W ⟨he,ad,X,J,M⟩=>by
  subst he;exact wpIn_mono (F q A.Bj _ I J) fun e Y w2 ⟨p,N,O,U⟩=>⟨p,N,O,eG.after M U⟩)
theorem Gk{d g:Code}(F:pN P m d s Ps (fun _=>.normal) S)(I:∀p,Ps p->c_ P m g (S p) (X p) (S' p)):pN P m (.seq d g) s Ps X S':=fun q A E a hs=>
 wpIn_seq (wpIn_mono (F q A.seq1 E a hs) fun e J W ⟨p,B,he,ad,X,M,N⟩=>by
  subst he;exact wpIn_mono (I p B q A.Bj _ J M) fun e Y w2 ⟨O,U⟩=>⟨p,B,O,eG.after N U⟩)
theorem aeE{id:Nat}{c:Code}(h:pN P m c s Ps (fun _=>.normal) S):pN P m (.block id c) s Ps (fun _=>.normal) S:=fun d g E a hs=>
 wpIn_block (wpIn_mono (h d g.block E a hs) fun e A B ⟨p,q,he,h⟩=>by
  subst he;exact⟨p,q,rfl,h⟩)
end aeD
structure L_ (P:ak) (m:Nat) (K:Ct) (rZ:LL) (p0:Tmp) (assign body:Code) (S:LL->St):Prop where
 na:fk assign=true
 nb:fk body=true
 fix:∀p,kY m (S p).fr=true
 round:∀p r q,(p++r::q).Perm rZ->∃s1 s2,c_ P m assign ⟨(S p).fr.set p0 (K.av (gi r 0).rV),(S p).H⟩ .normal s1/\c_ P m body s1 .normal s2/\cV m ⟨(S p).fr,s2.H⟩ (S (p++[r]))
variable {E:af}
section kyw
variable {P:ak} {m:Nat} {K V:Ct} {rZ:LL} {p0:Tmp} {assign body:Code} {S:LL->St}
theorem aeG(hr:L_ P m K rZ p0 assign body S){p q:LL}{r:LG}(hp:(p++r::q).Perm rZ){fn:bH}{D l:Nat}{a:Act}{tmps:Array Value}(htm:tmps=a.tmps)(hs:bM (S p) E a)(hX:E.X l)
  (I:E.w.heap[l]?=some (.loop { state:=.ready,pending:=none,fn,tmps,params:=#[p0],assign,body,defers:=D })) {cs:Array Value} (hc:aq E [K.av (gi r 0).rV] cs.toList) :
  YieldAt (fz none) 0 P l cs E.w fun e W'=>e=.returned (.bool true)/\∃E',E'.w=W'/\bM (S (p++[r])) E' a/\E.dO m E'/\E'.X l /\
   E'.w.heap[l]?=some (.loop { state:=.ready,pending:=none,fn,tmps,params:=#[p0],assign,body,defers:=D }):=by
 obtain⟨s1,s2,hA,hB,hle⟩:=hr.round p r q hp;obtain⟨g,rfl⟩:∃g,cs=#[g]:=by
  have:=il hc
  match h:cs.toList,this with
  |[g],_=>grind
 simp only[aq]at hc;obtain⟨hc0,_⟩:=hc;refine⟨_,_,_,_,run_yield I ai,roundIn_of_wpIn (F:=fz none) trivial ?_⟩;have W:l<E.w.heap.size:=(fS.1 I).1;have hs0:bM ⟨(S p).fr.set p0 (K.av (gi r 0).rV),(S p).H⟩ E { tmps:=a.tmps.setIfInBounds p0 g,defers:=[] }:=by
  refine⟨hs.H,?_,mr _ _,hs.heap⟩;simp only[Array.toList_setIfInBounds];exact yn p0 hs.fr hc0
 have e0:((#[p0]:Array Tmp).zip #[g]).foldl (fun tmps (t,a)=>tmps.setIfInBounds t a) tmps=a.tmps.setIfInBounds p0 g:=by
  rw[htm];simp
 rw[e0];refine wpIn_mono (hA (some l) (.inr hr.na) E _ hs0) fun e a1 A ⟨he,loc1,X1,Y,B⟩=>?_;subst he;have hno:¬ E.bC l:=hs.heap.kh hX;have hl1:A.heap[l]?=some (.loop { state:=.ready,pending:=none,fn,tmps,params:=#[p0],assign,body,defers:=D }):=by rw[B.same l W hno]; exact I
 have hX1:X1 l:=(B.X l W).1.2 hX;have O:l<A.heap.size:=(fS.1 hl1).1;refine⟨_,run_beginRound hl1 rfl,?_⟩;have hs1':=Y.cG (sn (o:=.loop { state:=.busy,pending:=none,fn,tmps,params:=#[p0],assign,body,defers:=D }) hX1 Y.heap) (yO Y.defers hl1);refine wpIn_mono (hB (some l) (.inr hr.nb) _ a1 hs1') fun e a2 w3 ⟨he,jY,J,hs2,U⟩=>?_;subst he;have hno1:¬ af.bC { w:=A,H:=s1.H,ad:=loc1,X:=X1 } l:=B.bC l W hno;have hl3:w3.heap[l]?=some (.loop { state:=.busy,pending:=none,fn,tmps,params:=#[p0],assign,body,defers:=D }):=by
  rw[U.same l (by show l<(A.putObj _ _).heap.size; simpa using O) hno1];exact Eh O
 have hX2:J l:=(U.X l (by show l<(A.putObj _ _).heap.size; simpa using O)).1.2 hX1;have hlt3:l<w3.heap.size:=(fS.1 hl3).1;refine⟨_,_,run_endRound (P:=P) none hl3,rfl,?_⟩;obtain⟨d,hw4⟩:∃d,w3.putObj l (.loop { state:=.ready,pending:=none,fn,tmps,params:=#[p0],assign,body,defers:=D })=d:=⟨_,rfl⟩
 have hl4:d.heap[l]?=some (.loop { state:=.ready,pending:=none,fn,tmps,params:=#[p0],assign,body,defers:=D }):=by
  rw[<-hw4];exact Eh hlt3
 have M:E.dO m { w:=d,H:=s2.H,ad:=jY,X:=J }:=by
  refine af.oq.toM (l:=l) (B.toX.trans (sq.trans (U.toX.trans ?_))) (fun _=>by rw[show af.w _=d from rfl,hl4,I]);rw[<-hw4];exact sq
 have hR4:aO { w:=d,H:=s2.H,ad:=jY,X:=J }:=by
  rw[<-hw4];exact hs2.heap.cG (sn hX2 hs2.heap)
 have hsr:bM ⟨(S p).fr,s2.H⟩ { w:=d,H:=s2.H,ad:=jY,X:=J } a:=by
  refine⟨rfl,sk M _ (hr.fix p) hs.fr,tv hs.defers (fun b N h2=>?_) (fun b N _=>M.same b (hs.heap.X b N) (hs.heap.kh N)),hR4⟩;have:=M.X b (hs.heap.X b N)
  grind
 obtain⟨loc7,X7,hs7,hle7⟩:=hle _ a hsr;refine⟨{ w:=d,H:=(S (p++[r])).H,ad:=loc7,X:=X7 },?_,hs7,M.trans hle7,(hle7.X l (by show l<d.heap.size; exact(fS.1 hl4).1)).1.2 hX2,hl4⟩
 grind
theorem aeH{o:Obj}(HE:aO E):iU E { w:=E.w.alloc o,H:=E.H,ad:=E.ad,X:=E.X.or fun b=>b=E.w.heap.size }:=
 ⟨rfl,rfl,by rw[lR]; omega,fun b d g=>⟨fun h=>h.elim g fun e=>by omega,by
   show (E.w.heap.push _)[b]?=_
   grind⟩,fun b d=>by
   show b<(E.w.alloc o).heap.size
   rw[lR];rcases d with h|h
   ·have:=HE.X b h
    omega
   ·omega,rfl⟩
theorem aeI{o:Obj}:E.dO m { w:=E.w.alloc o,H:=E.H,ad:=E.ad,X:=E.X.or fun b=>b=E.w.heap.size }:=
 ⟨fun _ _ h=>h,by show E.w.heap.size<=(E.w.alloc o).heap.size; rw[lR]; omega,fun b d _=>by
   show (E.w.heap.push _)[b]?=_
   rw[s_,iN ab],fun _ _ h=>h,fun _ _ _ h=>⟨h,rfl⟩,fun b d=>⟨⟨fun h=>h.elim id fun e=>by omega,.inl⟩,Iff.rfl⟩,fun _ _ h=>⟨h,fun _ g=>g⟩,⟨rfl,rfl,rfl,by first|exact fun _=>bl _|exact fun _=>gk _ _⟩⟩
theorem aeJ(hm:2<=m){τ:ar}{bq bD br cg:Array aN}(ht:aw P τ)(ho:L8 P τ K bq bD br cg){f:bH}{fd:Func}{r0 r1 r2 r3 b0 b1:Nat}(hf:P.funcs[f]? = some fd)(hbd:eC P f=true)
  (A:fd.body=some (kV r0 b0 r1 b1 r2 bq bD br 7 (Cr cg r3))) (hn:fd.ntmps=14) (hre:fd.results=#[]) {aL:Nat} (hnd:(rZ.map cP).Nodup) (hlt:∀r∈rZ,cP r<aL)
  (hr:L_ P m K rZ p0 assign body S) (hS:∀p,(S p).H[1]?=some (.map (dH K V rZ) aL)) (hS0:(S []).H[0]?=some (.box [.map 1]))
  {g:Tmp} {s:St} (hg:s.eval (.tmp g)=.clo f [.ptr 0 0 0 0 0]) (h0:cV m s (S [])) (hH1:s.H[1]?=some (.map (dH K V rZ) aL))
  (E:af) (a:Act) (hs:bM s E a):(Code.rangeFunc (.tmp g) #[p0] assign body).wpIn (fz none) 0 P (fun e a1 B=>e=.normal/\∃p,p.Perm rZ/\eG m E (S p) a1 B) a E.w:=by
 have hgv:=hs.eval (.tmp g);rw[hg]at hgv;simp only[ae]at hgv;obtain⟨cs,hgv,hcs⟩:=hgv;obtain⟨c,rfl⟩:∃c,cs=#[c]:=by
  have:=il hcs
  match h:cs.toList,this with
  |[c],_=>exact⟨c,Array.ext' (by simpa using h)⟩
 have hcp:ae E (.ptr 0 0 0 0 0) c:=hcs.1;have hH1E:E.H[1]?=some (.map (dH K V rZ) aL):=by rw[hs.H]; exact hH1
 obtain⟨mb,nn,_,hloc1,_,_⟩:=hs.heap.obj 1 _ hH1E;have hpast1:E.cf 1 0:=⟨_,hH1E,fun v _=>lj _⟩
 obtain⟨D,hD⟩:∃D,E.w.heap.size=D:=⟨_,rfl⟩
 refine wpIn_rangeFunc ?_;intro fn _;obtain⟨rec,hrec⟩:∃rec:Loop,rec={ state:=.ready,pending:=none,fn,tmps:=a.tmps,params:=#[p0],assign,body,defers:=D }:=⟨_,rfl⟩
 obtain⟨B,hw1⟩:∃B,(E.w.alloc (.deferred (some []))).alloc (.loop rec)=B:=⟨_,rfl⟩
 have hsz:B.heap.size=D+2:=by rw[<-hw1,lR,lR,hD]
 have hl1:B.heap[D+1]?=some (.loop rec):=by
  rw[<-hw1];have:=AX (E.w.alloc (.deferred (some []))) (.loop rec)
  rwa [lR,hD]at this
 have hold2:∀b,b<D+1->B.heap[b]?=(E.w.alloc (.deferred (some []))).heap[b]?:=fun b A=>by
  rw[<-hw1];show ((E.w.alloc (.deferred (some []))).heap.push _)[b]?=_
  rw[s_,iN (by rw[lR,hD]; omega)]
 have hD1:B.heap[D]?=some (.deferred (some [])):=by
  rw[hold2 D ab];have:=AX E.w (.deferred (some []))
  rwa [hD]at this
 have hold:∀b,b<D->B.heap[b]?=E.w.heap[b]?:=fun b A=>by
  rw[hold2 b ab];show (E.w.heap.push _)[b]?=_
  rw[s_,iN ab]
 have hos:eV E.w B:=by rw[<-hw1]; exact⟨rfl,rfl,rfl,by first|exact fun _=>bl _|exact fun _=>gk _ _⟩
 obtain⟨U,N⟩:∃U:XS,U=⟨fun b=>E.X b\/b=D\/b=D+1,fun b=>E.X.z b\/b=D,E.X.r⟩:=⟨_,rfl⟩
 obtain⟨mk,hmk⟩:∃mk:Deferred,mk={ target:=.collected D,args:=#[] }:=⟨_,rfl⟩
 have cG:iU E { w:=B,H:=E.H,ad:=E.ad,X:=U }:=
  ⟨rfl,rfl,by show E.w.heap.size<=B.heap.size; omega,fun b A hx=>by
   have A:b<D:=by rw[<-hD]; exact A
   refine⟨fun h=>?_,hold b A⟩;rw[N]at h;rcases h with h|h|h
   ·exact hx h
   ·omega
   ·omega,fun b A=>by
   show b<B.heap.size
   rw[N]at A;rcases A with h|h|h
   ·have:=hs.heap.X b h
    omega
   ·omega
   ·omega,by show U.r=E.X.r; rw[N]⟩
 have hs2:bM s { w:=B,H:=E.H,ad:=E.ad,X:=U } { a with defers:=mk::a.defers }:=by
  refine hs.cG cG ⟨?_,fun d hd=>?_⟩
  ·refine List.nodup_cons.2 ⟨fun h=>?_,hs.defers.1⟩
   obtain⟨W,e,J,h2,_⟩:=hs.defers.2 mk h;have:=hs.heap.X W h2;rw[hmk]at e;have e:D=W:=by
    have e:=congrArg Deferred.target e;simpa using e
   omega
  ·rcases cy.1 hd with rfl | hd
   ·exact⟨D,hmk,hD1,by rw[N]; exact .inr (.inl rfl),by rw[N]; exact .inr rfl⟩
   ·obtain⟨W,e,J,h2,h3⟩:=hs.defers.2 d hd
    have:=hs.heap.X W h2;exact⟨W,e,by rw[show af.w _=B from rfl,hold W ab]; exact J,by rw[N]; exact .inl h2,by rw[N]; exact .inl h3⟩
 have hle2:E.dO m { w:=B,H:=E.H,ad:=E.ad,X:=U }:=by
  refine⟨fun _ _ h=>h,by show E.w.heap.size<=B.heap.size; omega,fun b A _=>hold b (by rw[<-hD]; exact A),fun b _ h ho=>h ((cG.bC b).1 ho),fun _ _ _ h=>⟨h,rfl⟩,fun b A=>?_,fun l h hk=>by rw[N]; exact⟨hk,fun _ hq=>hq⟩,hos⟩;have A:b<D:=by rw[<-hD]; exact A
  show (U b↔E.X b)/\(U.z b↔E.X.z b)
  rw[N];exact⟨⟨fun h=>by rcases h with h|h|h; exact h; omega; omega,.inl⟩,⟨fun h=>by rcases h with h|h; exact h; omega,.inl⟩⟩
 obtain⟨oh,X3,hs3,hle3⟩:=h0 _ _ hs2;have hX3:X3 (D+1):=(hle3.X (D+1) (by show D+1<B.heap.size; omega)).1.2 (by show U (D+1); rw[N]; exact .inr (.inr rfl));have hcp3:ae { w:=B,H:=(S []).H,ad:=oh,X:=X3 } (.ptr 0 0 0 0 0) c:=Sx (hle2.trans hle3) _ (by simp only[qN,aR,jS]; exact⟨ab,rfl⟩) hcp;refine⟨D+1,[mk],B,{ target:=.fn (.func f) #[c],args:=#[.func (.yield (D+1)) #[] #[]] },B,f,#[.func (.yield (D+1)) #[] #[],c],B,?_,?_,fun _ _=>trivial,?_,fun h=>(by cases h),?_⟩
 ·rw[<- hw1,hrec,hmk,<- hD]
  exact run_enterLoop_outer _ _ _ _ _
 ·have hcst:a.eval (.const (.func (.yield (D+1)) #[] #[]))=.func (.yield (D+1)) #[] #[]:=rfl
  simp[resolve,hgv,hcst,AQ]
 ·simp[invoke,vJ hbd]
 ·have hcall:=aeC (P:=P) (K:=K) (V:=V) ht ho hf A hn hre (l:=D+1) (mb:=mb) (nn:=nn) hnd hlt (fun p E'=>bM (S p) E' { a with defers:=mk::a.defers }/\E.dO m E'/\E'.X (D+1)/\E'.w.heap[D+1]? = some (.loop rec)) (fun p E' h=>h.1.heap)
   (fun p I E2 h hle hR hH=>?_) (fun p I o h=>?_) (fun p I w' itb h hlt hX hi hsz hoth hos=>?_) (fun p I h=>(fS.1 h.2.2.2).1) (fun p I h=>?_) (fun p r q E' cs hp h hc=>?_) (c:=c) (E0:={ w:=B,H:=(S []).H,ad:=oh,X:=X3 }) ⟨hs3,hle2.trans hle3,hX3,hl1⟩ hS0 hcp3
  ·refine hcall.mono fun e w3 ⟨⟨v,hv⟩,E4,p,hw4,hp,hs4,hle4,hX4,hl4⟩=>?_
   subst hv;subst hw4;obtain⟨w4,H4,loc4,X4⟩:=E4;have hH4:H4=(S p).H:=hs4.H;subst hH4;have hend:=run_endLoop (P:=P) hl4 (by rw[hrec]; simp);refine⟨_,_,hend,?_⟩;rw[hrec];refine⟨rfl,p,hp,loc4,X4,?_,?_⟩
   ·rw[<- hrec]
    exact hs4.cG (sn hX4 hs4.heap) (yO hs4.defers hl4)
   ·exact(hle4.toX.trans sq).toM (l:=D+1) (fun h=>absurd h ab)
  ·obtain⟨F,Y,O,M⟩:=h
   have hlt:D+1<I.w.heap.size:=(fS.1 M).1;refine⟨⟨by rw[hH]; exact F.H,gJ hle _ F.fr,x8 F.heap hle F.defers,hR⟩,Y.trans hle.toM,by rw[hle.X.1]; exact O,?_⟩;rw[hle.same (D+1) hlt (F.heap.kh O)];exact M
  ·obtain⟨F,Y,O,M⟩:=h
   have hlt:D+1<I.w.heap.size:=(fS.1 M).1;have hn:=aeI (m:=m) (E:=I) (o:=o);refine⟨F.cG (aeH F.heap) (tv F.defers (fun b J h2=>⟨.inl J,h2⟩) fun b J _=>hn.same b (F.heap.X b J) (F.heap.kh J)),Y.trans hn,.inl O,?_⟩;rw[hn.same (D+1) hlt (F.heap.kh O)];exact M
  ·obtain⟨F,Y,O,M⟩:=h
   obtain⟨qq,cc,ss,zz,hi⟩:=hi;have hc:iU I { I with w:=w' }:=⟨rfl,rfl,by show I.w.heap.size<=w'.heap.size; omega,fun b A hx=>⟨hx,hoth b fun e=>hx (by rw[e]; exact hX)⟩,fun b A=>by
    show b<w'.heap.size
    rw[hsz];exact F.heap.X b A,rfl⟩
   refine⟨F.cG hc ⟨F.defers.1,fun d hd=>?_⟩,af.oq.toM (l:=itb) (Y.toX.trans ⟨fun _ _ h=>h,by show I.w.heap.size<=w'.heap.size; omega,fun b _ _ h=>hoth b h,fun _ _ h=>h,fun _ _ _ h=>⟨h,rfl⟩,fun _ _=>⟨Iff.rfl,Iff.rfl⟩,fun _ _ h=>⟨h,fun _ hq=>hq⟩,hos⟩) (fun h=>absurd h ab),O,?_⟩
   ·obtain⟨W,e,J,h2,h3⟩:=F.defers.2 d hd
    exact⟨W,e,by rw[show af.w _=w' from rfl,hoth W (fun e=>by rw[e,hi]at J; cases J)]; exact J,h2,h3⟩
   ·show w'.heap[D+1]?=_
    rw[hoth (D+1) ab];exact M
  ·obtain⟨F,Y,O,M⟩:=h
   have hm1:I.H[1]?=some (.map (dH K V rZ) aL):=by rw[F.H]; exact hS p
   refine⟨hm1,?_⟩;rw[(Y.live 1 ab hpast1 ⟨_,hm1,rfl⟩).2];exact hloc1
  ·obtain⟨F,Y,O,M⟩:=h
   rw[hrec]at M;obtain⟨fn',tm,asx,bo,k1,k2⟩:=aeG hr hp rfl F O M hc;refine⟨fn',tm,asx,bo,k1,k2.mono fun e W' ⟨he,E'',hw,q1,q2,q3,q4⟩=>⟨he,E'',hw,⟨q1,Y.trans q2,q3,by rw[hrec]; exact q4⟩,fun b A=>(q2.X b (F.heap.X b A)).1.2 A,fun b A hx _=>?_⟩⟩;rw[<-hw];exact q2.same b A (F.heap.kh hx)
end kyw
end Go.AL

namespace Go.AL
open Go Go.ChangeMaps
variable [Dr]
variable {P:ak} {τ:ar}
variable {d:LG} {fn:Func} {sp g:aI} {α:Type}
theorem aeK(hfr:jW sp.bj=true){r:LG}{x:cu}{I:aH}(B:iw P fn.results.toList sp x I=some (true,r)){E:af}(hH:E.H=aF (sp.H0 d))(HE:aO E){e:Exit}{U:Act}{J:World}
  (h3:e=x.toExit) (M:eG sp.bj.length { E with X:=⟨E.X.x,fun _=>False,E.X.r⟩ } I.au U J) :
  (e=.normal\/e=.ret)/\∃X,lV J X U.defers/\∀w',w'.heap.size=J.heap.size->(∀b,w'.heap[b]?≠J.heap[b]?->X b/\X.z b)->eV J w'->∃v,(results fn U.tmps).run P w'=.ok v w' /\
   ∃c v' H',Ending.returned v=.returned c/\(v'=sp.out r/\H'=aF (sp.H1 r))/\e9 E v' H' c w':=by
 have M:=M.weaken (nl sp.opens I);generalize hs':iu sp.opens I=s' at M;obtain⟨loc',X',F,W⟩:=M;have hxx:(x=.normal\/x=.ret)/\∃Y aB g q,kO P s'.au fn.results.toList=some Y/\(nodupB aB&&qH s'.H 0 sp.bj.length aB sp.fP)=true /\
   lB s'.H (bX s'.H aB) (jG aB) sp.fP aB=some (true,g)/\gv s'.H (bX s'.H aB) (jG aB) sp.res Y=some (true,q)/\g++q=r:=by
  have B:iw P fn.results.toList sp x I=some (true,r):=B;unfold iw at B;split at B
  ·cases B
  ·rename_i hx
   simp only[hs']at B;refine⟨by cases x with|normal=>grind|ret=>grind|exit i=>grind,?_⟩
   grind
 obtain⟨hx,Y,aB,g,q,hvs,N,q1,q2,rfl⟩:=hxx;simp only[aR]at N;refine⟨by subst h3; rcases hx with rfl|rfl; exact .inl rfl; exact .inr rfl,X',F.defers,fun w1 k1 k2 k3=>?_⟩;obtain⟨F,W⟩:=E_ HE F W k1 k2 k3;obtain⟨us,g1,g2⟩:=Bk F fn.results.toList Y hvs;have hres:(results fn U.tmps).run P w1=.ok (if h:us.toArray.size=1 then us.toArray[0] else .tuple us.toArray) w1:=by
  rw[vO];simp only[Sem.run_bind];rw[Array.mapM_eq_mapM_toList,Sem.run_map,g1];rfl
 generalize O:({ w:=w1,H:=s'.au.H,ad:=loc',X:=E.X.re X'.r }:af)=A at F W g1 g2;have hH1:A.H=aF s'.H:=by rw[<-O]; rfl
 obtain⟨hK,hHR⟩:=Lp hH1 F.heap (uf N.1) q1 q;obtain⟨p0,p1,p2,p3⟩:=wv q1 q (cd sp.fP (g++q));have hd:eo (oa sp.fP) (g++q)=q:=by rw[<-p0]; exact qF g q
 have hS:=wu hK q2 [];rw[kL]at hS;have hrl:=hS.2.2.2 us g2;have hleM:=Lq (m:=sp.bj.length) hH1 hK ⟨rfl,rfl⟩ (Lm A _ aB) N.2 (fun j hj=>by
  obtain⟨r1,o',r2,_⟩:=BR N.2 j hj;obtain⟨i,o,g1,rest1,t1,t2,t3,t4,t5,t6⟩:=p3 j o' r2;have hat:=jV (e:=bX s'.H aB) (j:=j) (bA t1)
  grind[bX]) (fun b=>Ln)
 have hle:E.le (lD A (aF (cX (cd sp.fP (g++q)) sp.fP (g++q))) aB):=
  (W.trans hleM).full (by rw[<-O]; exact⟨rfl,rfl⟩) (by rw[hH,fX]; simp only[aI.H0,BV]; exact bl _) (by rw[hH]; exact Ly _ _ hfr)
 have hw1:A.w=w1:=by rw[<-O]
 have hX1:∀r,A.X.re r=E.X.re r:=fun r=>by rw[<-O]; rfl
 refine⟨_,hres,_,_,_,rfl,⟨rfl,rfl⟩,aB.map (fun i=>A.ad.getD i none),qG A (aF (cX (cd sp.fP (g++q)) sp.fP (g++q))),?_,?_,?_⟩<;>grind[La,aI.out,aI.H1,lD]
def jZ(P:ak)(sp:aI)(d:LG)(Ps:α->Prop)(R:α->LG):Prop:=
 iH P sp.f (sp.dR d) (aF (sp.H0 d)) fun v H'=>∃p,Ps p/\v=sp.out (R p)/\H'=aF (sp.H1 (R p))
theorem Gl{Ps:α->Prop}(N:P.funcs[sp.f]? = some fn)(hb:fn.body.isSome=true)(J:jW sp.bj=true){r:α->LG}{x:α->cu}{s0:α->aH}
  (O:pN P sp.bj.length (bf fn) (aH.au ⟨gD (sp.dR d) fn.ntmps,sp.H0 d⟩) Ps x (fun p=>(s0 p).au)) (U:∀p,Ps p->iw P fn.results.toList sp (x p) (s0 p)=some (true,r p)):jZ P sp d Ps r:=by
 have F:fn.body=some (bf fn):=by
  unfold bf;cases hx:fn.body<;>grind
 intro E g hH HE q;refine E9 N F ?_;have A:=mw HE;have B:=nf A _ q;have I:bM ⟨gD (sp.dR d) fn.ntmps,aF (sp.H0 d)⟩ { E with X:=⟨E.X.x,fun _=>False,E.X.r⟩ } { tmps:=g++pe (fn.ntmps-g.size) undef,defers:=[] }:=by
  refine⟨hH,?_,mr _ _,HE.cG A⟩;simp only[gD,xQ,AT];refine mv B ?_;have:=il q;have e:(sp.dR d).length=g.size:=ab;rw[e];have:=tQ (E:={ E with X:=⟨E.X.x,fun _=>False,E.X.r⟩ }) (dz (fn.ntmps-g.size) undef)
  grind
 refine wpIn_mono (O none (EY _) { E with X:=⟨E.X.x,fun _=>False,E.X.r⟩ } _ I) fun e a1 w0 ⟨p,W,Y,M⟩=>?_;obtain⟨g1,X',g2,g3⟩:=aeK J (U p W) hH HE Y M
 grind
theorem SY{Ps:α->Prop}{m:Nat}{pf pf':bH->Bool}{id:Nat}{ah:Array aN}{l1 l2:List aN}{d:aN}(J:ah.toList=l1++d::l2){s s1:St}(h1:fW P pf ah l1 s s1)(hg:d.guard=none){t:Tmp}(hd:d.dst=some t)
  {f:bH} {args:List AV} (hc:g_ s1.eval d.op=some (f,args)) (hb:eC P f=true) {V:α->AV} {HH:α->List ay} (N:iH P f args s1.H fun v H'=>∃p,Ps p/\v=V p/\H'=HH p)
  {S:α->St} (h2:∀p,Ps p->fW P pf' ah l2 ⟨s1.fr.set t (V p),HH p⟩ (S p)):pN P m (.region id ah false) s Ps (fun _=>.normal) S:=fun A _ E a hs=>by
 have pos:∀i,ah[i]?=(l1++d::l2)[i]?:=kC J;have hsz:ah.size=l1.length+(l2.length+1):=by
  have:ah.toList.length=l1.length+(l2.length+1):=by rw[J]; simp
  omega
 refine wpIn_region ?_;have hr:jh ah.size=ka 0 l1.length++(l1.length::ka (l1.length+1) l2.length):=by
  rw[AS,hsz,<-List.range'_append_1,fC,Eb]
 rw[hr];refine qL A l1 0 s s1 E a _ (fun j o B=>by rw[pos,fC,List.getElem?_append_left (bA B)]; exact B) h1 hs fun a1 w1 hc1=>?_;obtain⟨U,q,g,W⟩:=hc1;rw[wpOpsIn_cons];unfold wpOpIn;have hp1:ah[l1.length]?=some d:=by rw[pos,ml (bl _)]; simp
 simp only[hp1];rw[iP (by simp[AR,hg])];have hnd:∀c,d.op≠.defer c:=fun c e=>by rw[e]at hc; cases hc
 obtain⟨O,g1,g2⟩:=Kl (P:=P) (E:={ w:=w1,H:=s1.H,ad:=U,X:=E.X.re q }) (fun x=>g.eval x) hc hb;unfold Oper.wpIn;rw[qn _ _ _ hnd,g1];refine⟨fun _ _=>trivial,fun h=>(by cases h),Kn ((N _ O rfl g.heap g2).mono ?_)⟩;rintro _ F ⟨c,v,H',rfl,⟨p,M,rfl,rfl⟩,jY,r2,q1,q2,I⟩;have hs2:bM ⟨s1.fr.set t (V p),HH p⟩ { w:=F,H:=HH p,ad:=jY,X:=(E.X.re q).re r2 } (a1.put d.dst c):=by
  refine⟨rfl,?_,by rw[put_defers]; exact x8 g.heap I g.defers,q2⟩;have:=Km g.fr I (some t) q1;rw[hd];exact this
 show wpOpsIn (fz A) 0 P ah _ (ka (l1.length+1) l2.length) _ F
 have Y:ka (l1.length+1) l2.length=ka (l1.length+1) l2.length++[]:=by rw[kL]
 rw[Y];refine qL A l2 (l1.length+1) _ _ { w:=F,H:=HH p,ad:=jY,X:=(E.X.re q).re r2 } _ [] (fun j o B=>?_) (h2 p M) hs2 fun a3 w3 hc3=>?_
 grind
 ·exact⟨p,M,rfl,eG.after (W.toM.trans I.toM) hc3.toM⟩
theorem pN.mono{Ps:α->Prop}{X:α->cu}{S:α->St}{m m':Nat}{c:Code}{s:St}(h:pN P m' c s Ps X S)(hm:m<=m'):pN P m c s Ps X S:=fun d g E a hs=>
 wpIn_mono (h d g E a hs) fun _ _ _ ⟨p,q,A,B⟩=>⟨p,q,A,B.F6 hm⟩
theorem SZ{Ps:α->Prop}(hm:P.follows .mixedOrders=true){F:ar}(U:aw P τ)(O:aw P F){A R:α->LG}(hf:P.funcs[sp.f]? = some fn)(hfr:jW sp.bj=true)
  (hA:jZ P g d Ps A) (jJ:eC P g.f=true) {r0 rest:Code} {id:Nat} {ah:Array aN} (W:fn.body=some (.seq r0 (.seq (.region id ah false) rest))) {l1 l2:List aN} {I:aN} (Y:ah.toList=l1++I::l2) (hg:I.guard=none) {t:Tmp} (hd:I.dst=some t)
  {s1:aH} (h1:(db P τ bz r0 ⟨gD (sp.dR d) fn.ntmps,sp.H0 d⟩ fun x s=>match x with | .normal=>fY P τ ah l1 s fun s=>.done .normal s|_=>.fail).gN=some (.normal,s1))
  (hc:g_ s1.au.eval I.op=some (g.f,g.dR d)) (hH:s1.H=g.H0 d) {tl:LG->Option LG}
  (h2:∀e,(fY P F ah l2 ⟨s1.fr.set t (g.out e),g.H1 e⟩ fun s=>db P F bz rest s .done).leaf (iw P fn.results.toList sp)=tl e) (hT:∀p,Ps p->tl (A p)=some (R p)):jZ P sp d Ps R:=by
 have hbo:bf fn=.seq r0 (.seq (.region id ah false) rest):=by unfold bf; rw[W]
 obtain⟨x,s',g1,M⟩:=fo hm U (m:=sp.bj.length) r0 _ _ (bN _ _ _) (sb h1);cases x with
 |exit _=>exact M.elim
 |ret=>exact M.elim
 |normal=>
 obtain⟨J,g3,g4⟩:=uc U M;obtain⟨_,rfl⟩:=g4;have key:∀p,Ps p->∃s2 x s3,fW P F.pf ah l2 ⟨J.fr.set t (g.out (A p)),aF (g.H1 (A p))⟩ s2/\c_ P sp.bj.length rest s2 x s3.au/\iw P fn.results.toList sp x s3=some (true,R p):=fun p B=>by
  have:=h2 (A p);rw[hT p B]at this;obtain⟨s2,k1,k2⟩:=uc O (kR this);obtain⟨x,s3,k3,k4⟩:=fo hm O (m:=sp.bj.length) rest s2 .done (bN _ _ _) k2;exact⟨s2.au,x,s3,k1,k3,k4⟩
 have hx:∀p,∃q:St × cu × aH,Ps p->fW P F.pf ah l2 ⟨J.fr.set t (g.out (A p)),aF (g.H1 (A p))⟩ q.1/\c_ P sp.bj.length rest q.1 q.2.1 q.2.2.au/\iw P fn.results.toList sp q.2.1 q.2.2=some (true,R p):=fun p=>by
  by_cases B:Ps p
  simp_all
  ·exact⟨(⟨[],[]⟩,.normal,⟨[],[]⟩),fun h=>(B h).elim⟩
 obtain⟨q,N⟩:=Jq hx;refine Gl (x:=fun p=>(q p).2.1) (s0:=fun p=>(q p).2.2) hf (by rw[W]; rfl) hfr ?_ fun p B=>(N p B).2.2;rw[hbo];refine yV g1 (Gk (S:=fun p=>(q p).1) ?_ fun p B=>(N p B).2.1);refine SY Y g3 hg hd (V:=fun p=>g.out (A p)) (HH:=fun p=>aF (g.H1 (A p))) hc jJ ?_ fun p B=>(N p B).1;have hH2:J.au.H=aF (g.H0 d):=by rw[<-hH]; rfl
 rw[hH2];exact hA
def Gm(P:ak)(K:Ct)(f:bH):Prop:=∃(τ:ar) (d:Func) (bq bD br cg:Array aN) (r0 r1 r2 r3 g q:Nat),aw P τ/\L8 P τ K bq bD br cg/\P.funcs[f]?=some d/\eC P f=true /\
 d.body=some (kV r0 g r1 q r2 bq bD br 7 (Cr cg r3))/\d.ntmps=14/\d.results=#[]
theorem S0{K:Ct}{f:bH}{d:Func}{bq bD br cg:Array aN}{r0 r1 r2 r3 q A:Nat}(O:aw P τ)(U:P.funcs[f]? = some d)(W:eC P f=true) (B:d.body=some (kV r0 q r1 A r2 bq bD br 7 (Cr cg r3))) (hn:d.ntmps=14) (hr:d.results=#[])
  (Y:∃o1 o2 ty,bq.toList=[o1,o2]/\(o1.guard=none/\o1.op=.load ty (.tmp 1)/\o1.dst=some 4)/\(o2.guard=none/\o2.op=.range ty (.tmp 4)/\o2.dst=some 5)/\(iF P ty).isSome=true/\fj P ty=some (1,false))
  (h1:∃o1 o2,bD.toList=[o1,o2]/\o1.guard=none/\o1.op=.next (.tmp 5) false/\o1.dst=some 6/\o2.guard=none/\o2.op=.extract (.tmp 6) 0/\o2.dst=some 7)
  (h2:∃o1 l,br.toList=o1::l/\o1.guard=none/\o1.op=.entry (.tmp 5)/\o1.dst=some 8)
  (h3:∃u1 u2 u3 u4 t fV,cg.toList=[u1,u2,u3,u4]/\(u3.guard=none/\u3.op=.call { callee:=.value (.tmp 10),args:=#[.tmp 11],argTypes:=fV }/\u3.dst=some 12)/\(u4.guard=none/\u4.op=.unOp .not t (.tmp 12)/\u4.dst=some 13))
  {s2 s3:Nat->Nat->LG->aH} (F:∀l it g,(fY P τ br (br.toList.drop 1) ⟨(kE l it).set 8 (.tuple [K.av g,.undef]),[]⟩ fun s=>.done .normal s).gN=some (.normal,s2 l it g)) (I:∀l it g,(fY P τ cg (cg.toList.take 2) (s2 l it g) fun s=>.done .normal s).gN=some (.normal,s3 l it g))
  (hl:∀l it g,(s3 l it g).fr.length=14) (J:∀l it g,(s3 l it g).fr[0]?=some (.lit (.func (.yield l) #[] #[]))) (h5:∀l it g,(s3 l it g).fr[5]?=some (.lit (.pointer (some ⟨it,0,none⟩)))) (M:∀l it g,(s3 l it g).fr[10]?=some (.lit (.func (.yield l) #[] #[]))) (N:∀l it g,(s3 l it g).fr[11]?=some (K.av g)):Gm P K f:=
 ⟨τ,d,bq,bD,br,cg,r0,r1,r2,r3,q,A,O,⟨Y,h1,h2,h3,fun l it g=>⟨s2 l it g,s3 l it g,F l it g,I l it g,hl l it g,J l it g,h5 l it g,M l it g,N l it g⟩⟩,U,W,B,hn,hr⟩
def Gn(t:bB):aH:=match t.gN with
 |some (_,s)=>s
 |none=>⟨[],[]⟩
def Gp(P:ak)(τ:ar)(fn:Func)(sp:aI)(d:LG):aH:=match fn.body with
 |some (.seq r0 (.seq (.region _ ah _) _))=>Gn (db P τ bz r0 ⟨gD (sp.dR d) fn.ntmps,sp.H0 d⟩ fun x s=>match x with | .normal=>fY P τ ah (ah.toList.take 1) s fun s=>.done .normal s|_=>.fail)
 |_=>⟨[],[]⟩
def S2(P:ak)(τ:ar)(g:LT)(fn:Func)(sp:aI)(d:LG):aH:=match fn.body with
 |some (.seq r0 (.seq (.seq r1 _) _))=>Gn (db P τ g r0 ⟨gD (sp.dR d) fn.ntmps,sp.H0 d⟩ fun x s=>match x with | .normal=>db P τ g r1 s .done|_=>.fail)
 |_=>⟨[],[]⟩
def S3(fn:Func):Code:=match fn.body with
 |some (.seq a _)=>a
 |_=>.skip
def S4(fn:Func):Code:=match fn.body with
 |some (.seq _ (.seq (.seq b _) _))=>b
 |_=>.skip
def S5(fn:Func):Code:=match fn.body with
 |some (.seq _ (.seq (.seq _ (.block _ (.rangeFunc _ _ a _))) _))=>a
 |_=>.skip
def S6(fn:Func):Code:=match fn.body with
 |some (.seq _ (.seq (.seq _ (.block _ (.rangeFunc _ _ _ b))) _))=>b
 |_=>.skip
def S7(fn:Func):Code:=match fn.body with
 |some (.seq _ (.seq _ c))=>c
 |_=>.skip
def Gq(fn:Func):Code:=match fn.body with
 |some (.seq _ (.block _ (.loop (.seq _ (.seq _ (.block _ (.seq c _)))))))=>c
 |_=>.skip
def S8(fn:Func):Code:=match fn.body with
 |some (.seq _ (.block _ (.loop (.seq _ (.seq _ (.block _ (.seq _ (.seq c _))))))))=>c
 |_=>.skip
def jY(P:ak)(τ:ar)(K:Ct)(c:Code)(l it:Nat)(g:LG):aH:=match c with
 |.region _ ah _=>Gn (fY P τ ah (ah.toList.drop 1) ⟨(kE l it).set 8 (.tuple [K.av g,.undef]),[]⟩ fun s=>.done .normal s)
 |_=>⟨[],[]⟩
def oh(P:ak)(τ:ar)(c:Code)(s:aH):aH:=match c with
 |.region _ ah _=>Gn (fY P τ ah (ah.toList.take 2) s fun s=>.done .normal s)
 |_=>⟨[],[]⟩
def jK(d:LG):LL:=(gi d 0).rZ
def qR(d:LG):Nat:=(gi d 1).iV.toNat
def nr(d:LG):Bool:=gq (jK d) (qR d)&&Nat.ble (jK d).length 1048576
theorem S9(hm:P.follows .mixedOrders=true)(B:aw P τ){K V:Ct}{O:bH}(hk:Gm P K O){L0:LT}(A:∀ m c,aQ P m L0 c)(hf:P.funcs[sp.f]? = some fn)(hfr:jW sp.bj=true)(hln:Nat.ble sp.bj.length 3=true){r0 r1 assign body rest:Code}{b:Nat}{g p0:Tmp}
  (U:fn.body=some (.seq r0 (.seq (.seq r1 (.block b (.rangeFunc (.tmp g) #[p0] assign body))) rest))) (I:(fk assign&&fk body)=true) {inv:nk} {ps psr:List eH} {pre:LG->aH} {D:LG->LL->LG} {st:LG->LG->Option LG} {tl:LG->Option LG} {R:LG->LL->LG}
  (hpre:∀d,(db P τ L0 r0 ⟨gD (sp.dR d) fn.ntmps,sp.H0 d⟩ fun x s=>match x with | .normal=>db P τ L0 r1 s .done|_=>.fail).gN=some (.normal,pre d))
  (hg:∀d,(pre d).fr.getD g .undef=.clo O [.ptr 0 0 0 0 0]) (hH1:∀d,(pre d).H[1]?=some (.map K V (jK d) (qR d))) (hin:∀d,iI 3 inv ps (pre d)=some (true,D d [])) (hfix:∀d,kY 3 (aX inv d).fr=true)
  (hI0:∀d,(aX inv d).H[0]?=some (.raw (.box [.map 1]))) (hI1:∀d p,(aX inv (D d p)).H[1]?=some (.map K V (jK d) (qR d)))
  (hr:∀r d,(db P τ L0 assign ⟨(aX inv d).fr.set p0 (K.av r),(aX inv d).H⟩ fun x s1=>match x with
   |.normal=>db P τ L0 body s1 fun x s2=>match x with
    |.normal=>.done .normal ⟨(aX inv d).fr,s2.H⟩
    |_=>.fail
   |_=>.fail).leaf (pI 3 inv psr)=st r d)
  (hst:∀d p r,p.length<1048576->st (gi r 0).rV (D d p)=some (D d (p++[r])))
  (htl:∀d,(db P τ L0 rest (aX inv d) .done).leaf (iw P fn.results.toList sp)=tl d) (hT:∀d p,tl (D d p)=some (R d p)) {d:LG} (aV:nr d=true) :
  jZ P sp d (fun p=>p.Perm (jK d)) (R d):=by
 have hbo:bf fn=.seq r0 (.seq (.seq r1 (.block b (.rangeFunc (.tmp g) #[p0] assign body))) rest):=by unfold bf; rw[U]
 unfold nr at aV;simp only[aR]at aV I;obtain⟨hnd,hlt⟩:=B6 aV.1;have hlen:=lk aV.2;obtain⟨τk,fd,bq,bD,br,cg,k0,k1,k2,W,b0,b1,htk,ho,hfd,hbd,hbk,hnt,hre⟩:=hk;obtain⟨x,s',g1,J⟩:=fo hm B (m:=sp.bj.length) r0 _ _ (A _ _) (sb (hpre d));cases x with
 |exit _=>exact J.elim
 |ret=>exact J.elim
 |normal=>
 obtain⟨x,s1',g3,g4⟩:=fo hm B (m:=sp.bj.length) r1 _ _ (A _ _) J;obtain⟨rfl,rfl⟩:=g4;have hkr:L_ P 3 K (jK d) p0 assign body fun p=>(aX inv (D d p)).au:=by
  refine⟨I.1,I.2,fun p=>hfix _,fun p r q M=>?_⟩;have hpl:p.length<1048576:=by
   have:=M.length_eq;simp only[List.length_append,List.length_cons]at this;omega
  have h:=hst d p r hpl;rw[<-hr]at h;obtain⟨x,s1,q1,N⟩:=fo hm B (m:=3) assign _ _ (A _ _) (kR h);cases x with
  |exit _=>exact N.elim
  |ret=>exact N.elim
  |normal=>
   obtain⟨x,s2,q3,F⟩:=fo hm B (m:=3) body _ _ (A _ _) N;cases x with
   |exit _=>exact F.elim
   |ret=>exact F.elim
   |normal=>
    have F:pI 3 inv psr .normal ⟨(aX inv (D d p)).fr,s2.H⟩=some (true,D d (p++[r])):=F;exact⟨s1.au,s2.au,q1,q3,kS (s:=⟨(aX inv (D d p)).fr,s2.H⟩) F⟩
 have key:∀p,∃q:cu × aH,c_ P sp.bj.length rest (aX inv (D d p)).au q.1 q.2.au/\iw P fn.results.toList sp q.1 q.2=some (true,R d p):=fun p=>by
  have:=htl (D d p);rw[hT d p]at this;obtain⟨x,s3,W,k4⟩:=fo hm B (m:=sp.bj.length) rest _ .done (A _ _) (kR this);exact⟨(x,s3),W,k4⟩
 obtain⟨q,Y⟩:=Jq key;refine Gl (x:=fun p=>(q p).1) (s0:=fun p=>(q p).2) hf (by rw[U]; rfl) hfr ?_ fun p _=>(Y p).2;rw[hbo];refine yV g1 (Gk (S:=fun p=>(aX inv (D d p)).au) (yV g3 (aeE ?_)) fun p _=>(Y p).1);intro ro hro E a hs;obtain rfl:ro=none:=hro.resolve_right (by simp[fk]);have:=aeJ (P:=P) (K:=K) (V:=V) (S:=fun p=>(aX inv (D d p)).au) (Nat.le_succ 2) htk ho hfd hbd hbk hnt hre hnd hlt hkr (aL:=qR d) (fun p=>cn (hI1 d p)) (cn (hI0 _)) (g:=g) (s:=(pre d).au) (hg d) (kS (hin d)) (cn (hH1 d)) E a hs;refine wpIn_mono this fun e a1 w1 ⟨he,p,M,hM⟩=>⟨p,M,he,hM.F6 (lk hln)⟩
noncomputable def yW(g:LG->LL->LG)(tl:LG->Option LG)(d:LG):Option LG:=bif nr d then ur (jK d) fun _ p=>tl (g d p) else none
theorem jZ.same{r:LG}{Ps:α->Prop}{R:α->LG}(h:jZ P sp d Ps R)(A:∀p,Ps p->R p=r):e_ P sp.f (sp.dR d) (aF (sp.H0 d)) (sp.out r) (aF (sp.H1 r)):=
 iH.mono h fun v H' ⟨p,B,g,q⟩=>by rw[A p B]at g q; exact⟨g,q⟩
theorem S_(hm:P.follows .mixedOrders=true){A:ar}(O:aw P τ)(M:aw P A){B:LG->LL->LG}(U:P.funcs[sp.f]? = some fn)(N:jW sp.bj=true)
  (W:∀d,nr d=true->jZ P g d (fun p=>p.Perm (jK d)) (B d)) (jJ:eC P g.f=true) {r0 rest:Code} {id:Nat} {ah:Array aN} (Y:fn.body=some (.seq r0 (.seq (.region id ah false) rest))) {l1 l2:List aN} {q:aN} (I:ah.toList=l1++q::l2) (hg:q.guard=none) {t:Tmp} (hd:q.dst=some t)
  {s1:LG->aH} (h1:∀d,(db P τ bz r0 ⟨gD (sp.dR d) fn.ntmps,sp.H0 d⟩ fun x s=>match x with | .normal=>fY P τ ah l1 s fun s=>.done .normal s|_=>.fail).gN=some (.normal,s1 d))
  (hc:∀d,g_ (s1 d).au.eval q.op=some (g.f,g.dR d)) (hH:∀d,(s1 d).H=g.H0 d) {tl:LG->Option LG}
  (h2:∀d e,(fY P A ah l2 ⟨(s1 d).fr.set t (g.out e),g.H1 e⟩ fun s=>db P A bz rest s .done).leaf (iw P fn.results.toList sp)=tl e) (hF:∀d,sp.F d=yW B tl d):ff P sp:=by
 intro d r h;rw[hF]at h;unfold yW at h;cases aV:nr d with
 |false=>rw[aV]at h; cases h
 |true=>
  rw[aV]at h;have J:=B4 h 0;exact(SZ (R:=fun _=>r) hm O M U N (W d aV) jJ Y I hg hd (h1 d) (hc d) (hH d) (h2 d) fun p hp=>J p hp).same fun _ _=>rfl
theorem Ta(hm:P.follows .mixedOrders=true)(A:aw P τ){B R:LG->LL->LG}(J:P.funcs[sp.f]? = some fn)(I:jW sp.bj=true)
  (M:∀d,nr d=true->jZ P g d (fun p=>p.Perm (jK d)) (B d)) (jJ:eC P g.f=true) {r0 rest:Code} {id:Nat} {ah:Array aN} (N:fn.body=some (.seq r0 (.seq (.region id ah false) rest))) {l1 l2:List aN} {q:aN} (F:ah.toList=l1++q::l2) (O:q.guard=none) {t:Tmp} (U:q.dst=some t)
  {s1:LG->aH} (W:∀d,(db P τ bz r0 ⟨gD (sp.dR d) fn.ntmps,sp.H0 d⟩ fun x s=>match x with | .normal=>fY P τ ah l1 s fun s=>.done .normal s|_=>.fail).gN=some (.normal,s1 d))
  (hc:∀d,g_ (s1 d).au.eval q.op=some (g.f,g.dR d)) (hH:∀d,(s1 d).H=g.H0 d) {tl:LG->Option LG}
  (Y:∀d e,(fY P τ ah l2 ⟨(s1 d).fr.set t (g.out e),g.H1 e⟩ fun s=>db P τ bz rest s .done).leaf (iw P fn.results.toList sp)=tl e) (hT:∀d p,tl (B d p)=some (R d p)):∀d,nr d=true->jZ P sp d (fun p=>p.Perm (jK d)) (R d):=
 fun d aV=>SZ hm A A J I (M d aV) jJ N F O U (W d) (hc d) (hH d) (Y d) fun p _=>hT d p
end Go.AL

namespace Go.AL
open Go Go.ChangeMaps
variable [Dr]
variable {P:ak} {τ:ar}
def Cs(sp:aI)(d:List AV)(H:List aG):Option (Bool × LG):=
 match lE H (fun i=>d.getD i .undef) sp.ps []with
 |none=>none
 |some aB=>match nodupB aB&&qK (bX H aB) 0 sp.fP with
  |false=>none
  |true=>match lB H (bX H aB) (pH (iJ sp) aB) sp.bj aB,gv H (bX H aB) (pH (iJ sp) aB) sp.args d with
   |some (b,g),some (q,A)=>some (b&&q,g++A)
   |_,_=>none
def lF(sp:aI)(d:List AV)(H:List aG)(r:LG):AV × List aG:=
 match lE H (fun i=>d.getD i .undef) sp.ps []with
 |none=>(.undef,[])
 |some aB=>((sp.out r).dQ (bX H aB),kU (bX H aB) H (sp.H1 r))
variable {sp:aI} {β:Type}
theorem aeL(hp:sa sp=true){asx:List AV}{H:List aG}{Y:LG}(h:Cs sp asx H=some (true,Y)){Ps:LG->Prop}(hc:jZ P sp Y Ps id):
  iH P sp.f asx (aF H) fun v H'=>∃r,Ps r/\v=(lF sp asx H r).1/\H'=aF (lF sp asx H r).2:=by
 simp only[sa,aR]at hp;obtain⟨hfr,hle,hlab⟩:=hp;have hle:=lk hle;unfold Cs at h;split at h
 ·cases h
 rename_i aB hids;split at h
 ·cases h
 rename_i hck;simp only[aR]at hck;obtain⟨hnd,hup⟩:=hck;have hnd:=uf hnd;split at h
 case h_2=>cases h
 rename_i b g b' q h1 h2;simp only[bQ,cr,aR]at h;obtain⟨⟨rfl,rfl⟩,rfl⟩:=h;obtain⟨p0,p1,p2,p3⟩:=wv h1 q (cd sp.bj (g++q));have hd:eo (oa sp.bj) (g++q)=q:=by rw[<-p0]; exact qF g q
 have hlen:aB.length=(aF (sp.H0 (g++q))).length:=by rw[fX]; simp only[aI.H0,p1,p2]
 have hat:∀j,j<aB.length->aB[j]?=some ((bX H aB).at j):=fun j B=>jV (e:=bX H aB) B;have hobjs:∀j,j<aB.length->∃sh o J I,sp.bj[j]?=some sh/\H[(bX H aB).at j]?=some o/\kP H (bX H aB) (pH (iJ sp) aB) sh o=some (true,J) /\
   (sp.H0 (g++q))[j]?=some (gM (cd sp.bj (g++q)) sh (J++I)) /\
   (cd sp.bj (g++q)).ax j=sh.up/\(∀ks v rZ,o=.vQ ks v rZ->(cd sp.bj (g++q)).len j=rZ.length)/\sh.up=0/\(bX H aB).up j=wo o:=by
  intro j B;have hj':j<sp.bj.length:=ab;obtain⟨i,o,J,I,W,F,N,M,q5,q6⟩:=p3 j sp.bj[j] (bT hj');have q1':=W;rw[hat j B]at W;cases W;refine⟨sp.bj[j],o,J,I,bT hj',F,N,M,q5,q6,?_,?_⟩
  ·have:=List.all_eq_true.1 hfr sp.bj[j] (nG hj')
   exact Nat.eq_of_beq_eq_true this
  ·simp only[cW.up,bX,dj,dw]
   rw[q1'];simp only[Option.map_some,Option.getD_some,wq];rw[F]
 have hK:∀E E0,E.H=aF H->aO E->wb (bX H aB) (bif iJ sp then (jh H.length).filter (jG aB) else []) E E0->E0.H=aF (sp.H0 (g++q)) ->
   kQ H (bX H aB) (pH (iJ sp) aB) (cd sp.bj (g++q)) E E0:=by
  intro E E0 U HE O hE0H;refine { hH:=U,HE:=HE,free:=fun i hi b n hb=>?_,fe:=O.toKeepIn,obj:=fun j o A=>?_ }
  ·refine O.RE i ?_ b n hb
   have hlt:=bA hb;rw[HE.len,U,fX]at hlt;unfold pH at hi;split at hi
   ·rename_i hs
    rw[hs];simp only[cT,jm,List.mem_range];exact⟨hlt,hi⟩
   ·cases hi
  ·have B:j<aB.length:=by
    rcases Nat.lt_or_ge j aB.length with hlt|hge
    ·exact hlt
    ·have h1:=bA A
     have h2:=wg (e:=bX H aB) hge;have h3:(bX H aB).bg=H.length:=rfl;omega
   refine⟨B,?_⟩;obtain⟨sh,o',J,I,W,F,N,M,q5,q6,q7,q8⟩:=hobjs j B;rw[A]at F;cases F;obtain⟨r1,r2,r3⟩:=BO (lens:=cd sp.bj (g++q)) (d:=J++I) N;exact⟨r1,⟨_,by rw[hE0H]; exact cn M,by rw[q5]; exact r2⟩,q6,fun _=>by rw[q5]; exact q7⟩
 have:=RN (P:=P) (f:=sp.f) (iJ sp) (bif iJ sp then (jh H.length).filter (jG aB) else []) (e:=bX H aB) (H:=aF H) (args:=sp.dR (g++q)) (H0:=aF (sp.H0 (g++q)))
  (Ps:=Ps) (Vf:=fun r=>sp.out r) (Hf:=fun r=>aF (sp.H1 r)) (dR:=asx) hc hlen (by rw[fX]; rfl) hnd ?_ ?_ (fun _ _=>wA hup) ?_ (fun hs=>by rw[hs]; rfl) ?_ ?_ ?_ ?_ ?_ ?_
 ·refine iH.mono this fun v' H'' ⟨r,hr,h3,h4⟩=>⟨r,hr,?_,?_⟩
  ·rw[h3]
   unfold lF;rw[hids]
  ·rw[h4]
   unfold lF;rw[hids];exact(R' ..).symm
 ·intro j o A
  have B:j<aB.length:=by rw[hlen]; exact bA A
  obtain⟨sh,o',J,I,W,F,N,M,q5,q6,q7,q8⟩:=hobjs j B;obtain⟨r1,r2,r3⟩:=BO (lens:=cd sp.bj (g++q)) (d:=J++I) N;rw[cn M]at A;cases A;refine⟨o'.au,cn F,fun v=>?_⟩;rw[r1,r2,q7,q8];simp only[bQ];constructor
  ·rintro rfl
   exact⟨0,rfl,ab⟩
  ·rintro⟨u,rfl,rfl⟩
   omega
 ·intro E E0 U HE O hE0H j o A
  have B:j<aB.length:=by rw[hlen]; exact bA A
  obtain⟨sh,o',J,I,W,F,N,M,q5,q6,q7,q8⟩:=hobjs j B;rw[cn M]at A;cases A;exact Ll (hK E E0 U HE O hE0H) N I B (fun l hl=>O.mD j _ l (by rw[hE0H]; exact cn M) (by rw[ue,hl])) (HE.obj _ _ (by rw[U]; exact cn F))
 ·intro r _
  rw[fX,fX];simp only[aI.H0,aI.H1,BV];exact hle
 ·intro hs r _
  simp only[iJ,aR]at hs;exact R8 (LC hs.1)
 ·intro hs r _
  simp only[iJ,aR]at hs;exact LD hs.2
 ·intro i hi
  cases hs:iJ sp with
  |true=>
   rw[hs]at hi;simp only[cT,jm]at hi;exact Lo hi.2
  |false=>
   rw[hs]at hi;simp at hi
 ·intro j o o' A ho'
  have B:j<aB.length:=by rw[hlen]; exact bA A
  obtain⟨sh,o2,J,I,W,F,N,M,_⟩:=hobjs j B;rw[cn M]at A;rw[cn F]at ho';cases A;cases ho';rw[Lj N,ue]
 ·intro r _ j o l A hl
  obtain⟨sh,h5,h6⟩:=Sj (show (aF (cX (cd sp.fP r) sp.fP r))[j]?=some o from A);obtain⟨sh0,h7,h8⟩:=FT hlab j sh l h5 (by rw[<-h6,hl]);obtain⟨o0,h9,h10⟩:=LH (cd sp.bj (g++q)) sp.bj (g++q) j sh0 h7;exact⟨o0,h9,by rw[h10,h8]⟩
 ·intro E E0 cs U HE O hE0H hr
  have hS:=(wu (hK E E0 U HE O hE0H) h2 []).2.2.2 cs hr;rw[kL]at hS;simp only[aI.dR,hd];exact hS
def yX(x:cu)(s:aH):Option (Bool × aH):=match x with
 |.normal=>some (true,s)
 |_=>none
def yY(fn:Func):Code:=match fn.body with
 |some (.seq a _)=>a
 |_=>.skip
def Tb(fn:Func):Code:=match fn.body with
 |some (.seq _ (.seq b _))=>b
 |_=>.skip
def Gr(fn:Func):Code:=match fn.body with
 |some (.seq _ (.seq _ c))=>c
 |_=>.skip
def k8(fn:Func):Array aN:=match Tb fn with
 |.region _ ah _=>ah
 |_=>#[]
def Cu(fn:Func)(n:Nat):aN:=(k8 fn).toList.getD n default
def sL(P:ak)(τ:ar)(fn:Func)(sp:aI)(n:Nat)(d:LG):aH:=((db P τ bz (yY fn) ⟨gD (sp.dR d) fn.ntmps,sp.H0 d⟩ fun x s=>match x with | .normal=>fY P τ (k8 fn) ((k8 fn).toList.take n) s fun s=>.done .normal s|_=>.fail).leaf yX).getD ⟨[],[]⟩
def uB(fn:Func)(n:Nat)(s:aH):List AV:=match g_ s.au.eval (Cu fn n).op with
 |some (_,d)=>d
 |none=>[]
theorem Tc{t:Option LG}{k:LG->Option β}{r:β}(h:az t k=some r):∃g,t=some g/\k g=some r:=by
 unfold az at h;cases t with
 |none=>cases h
 |some g=>exact⟨g,rfl,h⟩
theorem Td(hm:P.follows .mixedOrders=true){F:ar}(W:aw P τ)(O:aw P F){L:LT}{g:aI}{fn:Func}(hf:P.funcs[sp.f]? = some fn)(hfr:jW sp.bj=true){d r Y:LG}{Ps:LG->Prop}(hN:jZ P g Y Ps id)(hE:sa g=true)(hbN:eC P g.f=true)
  {r0 rest:Code} {id:Nat} {ah:Array aN} (hb:fn.body=some (.seq r0 (.seq (.region id ah false) rest))) (hL:aQ P sp.bj.length L (bf fn)) {l1 l2:List aN} {oc:aN} (hops:ah.toList=l1++oc::l2) (hg:oc.guard=none) {t:Tmp} (hd:oc.dst=some t) {S1:aH}
  (h1:(db P τ bz r0 ⟨gD (sp.dR d) fn.ntmps,sp.H0 d⟩ fun x s=>match x with | .normal=>fY P τ ah l1 s fun s=>.done .normal s|_=>.fail).leaf yX=some S1)
  {A:List AV} (hc:g_ S1.au.eval oc.op=some (g.f,A)) (hY:Cs g A S1.H=some (true,Y)) {tl:LG->Option LG}
  (h2:∀e,(fY P F ah l2 ⟨S1.fr.set t (lF g A S1.H e).1,(lF g A S1.H e).2⟩ fun s=>db P F L rest s .done).leaf (iw P fn.results.toList sp)=tl e) (hT:∀e,Ps e->tl e=some r) :
  e_ P sp.f (sp.dR d) (aF (sp.H0 d)) (sp.out r) (aF (sp.H1 r)):=by
 have U:bf fn=.seq r0 (.seq (.region id ah false) rest):=by unfold bf; rw[hb]
 rw[U]at hL;have hLr:aQ P sp.bj.length L rest:=hL.sub (fun p I=>by simp only[cI,cY]; exact .inr (.inr I)) (fun p I=>by
  simp only[cB,cY]
  first
  |exact .inr (.inr I)
  |exact .inr (.inr (.inr I))
  |exact .inr (.inr (.inr (.inr I))))
 obtain⟨x,s',g1,M⟩:=fo hm W (m:=sp.bj.length) r0 _ _ (bN _ _ _) (kR h1);cases x with
 |exit _=>exact M.elim
 |ret=>exact M.elim
 |normal=>
 obtain⟨B,g3,J⟩:=uc W M;have J:yX .normal B=some (true,S1):=J;simp only[yX,bQ,cr,true_and]at J;subst J;have key:∀e,Ps e->∃s2 x s3,fW P F.pf ah l2 ⟨B.fr.set t (lF g A B.H e).1,aF (lF g A B.H e).2⟩ s2/\c_ P sp.bj.length rest s2 x s3.au/\iw P fn.results.toList sp x s3=some (true,r):=fun e he=>by
  have:=h2 e;rw[hT e he]at this;obtain⟨s2,k1,k2⟩:=uc O (kR this);obtain⟨x,s3,k3,k4⟩:=fo hm O (m:=sp.bj.length) rest s2 .done hLr k2;exact⟨s2.au,x,s3,k1,k3,k4⟩
 have hx:∀e,∃q:St × cu × aH,Ps e->fW P F.pf ah l2 ⟨B.fr.set t (lF g A B.H e).1,aF (lF g A B.H e).2⟩ q.1/\c_ P sp.bj.length rest q.1 q.2.1 q.2.2.au/\iw P fn.results.toList sp q.2.1 q.2.2=some (true,r):=fun e=>by
  by_cases he:Ps e
  simp_all
  ·exact⟨(⟨[],[]⟩,.normal,⟨[],[]⟩),fun h=>(he h).elim⟩
 obtain⟨q,N⟩:=Jq hx;refine jZ.same (Ps:=Ps) (R:=fun _=>r) (Gl (x:=fun e=>(q e).2.1) (s0:=fun e=>(q e).2.2) hf (by rw[hb]; rfl) hfr ?_ fun e he=>(N e he).2.2) fun _ _=>rfl;rw[U];refine yV g1 (Gk (S:=fun e=>(q e).1) ?_ fun e he=>(N e he).2.1);exact SY hops g3 hg hd (V:=fun e=>(lF g A B.H e).1) (HH:=fun e=>aF (lF g A B.H e).2) hc hbN (aeL hE hY hN) fun e he=>(N e he).1
def qS(sp:gp)(tl:LG->Option LG)(d:LG)(b:Nat)(p:LL):Option LG:=bif sp.side d b then (dc sp.st sp.bJ p (sp.init d b)).bind tl else none
def Gs(sp:gp)(tl:LG->Option LG)(rZ:LL)(d e:LG):Prop:=∃b p,p.Perm rZ/\qS sp tl d b p=some e
noncomputable def yZ(sp:gp)(tl:LG->Option LG)(rZ:LL)(aL:Nat)(d:LG)(k:LG->Option β):Option β:=bif gq rZ aL then ur rZ (fun b p=>(qS sp tl d b p).bind k) else none
theorem Te{sp:gp}{tl:LG->Option LG}{rZ:LL}{aL:Nat}{d:LG}{k:LG->Option β}{r:β}(h:yZ sp tl rZ aL d k=some r):gq rZ aL=true/\(∀b p,p.Perm rZ->(qS sp tl d b p).isSome=true)/\∀e,Gs sp tl rZ d e->k e=some r:=by
 unfold yZ at h;cases aV:gq rZ aL with
 |false=>rw[aV]at h; cases h
 |true=>
  rw[aV]at h;have q:=B4 h;refine⟨rfl,fun b p g=>?_,fun e ⟨b,p,g,he⟩=>?_⟩
  ·have:=q b p g
   cases A:qS sp tl d b p with
   |none=>rw[A]at this; cases this
   |some e=>rfl
  ·have:=q b p g
   rw[he]at this;exact this
theorem aeM(hm:P.follows .mixedOrders=true)(M:aw P τ){rs:gp}{fn:Func}(I:P.funcs[sp.f]? = some fn)(hfr:jW sp.bj=true){ra rb rbody rest:Code}{r0 b0 r1 b1 r2:Nat}{bq bD br:Array aN}
  (hb:fn.body=some (.seq ra (.seq rb (.seq (kV r0 b0 r1 b1 r2 bq bD br rs.t2 rbody) rest)))) {inv:nk} {ps:List eH} {ini:LG->LG} {ri rZ:LG->LL} {ci aL:LG->Nat}
  (hpre:∀d,(db P τ bz ra ⟨gD (sp.dR d) fn.ntmps,sp.H0 d⟩ fun x s=>match x with | .normal=>db P τ bz rb s .done|_=>.fail).leaf (pI sp.bj.length inv ps)=some (ini d))
  (hid2:∀d,(aX rs.inv d).H[rs.id]?=some (.map rs.K rs.V (ri d) (ci d))) (hkeep:∀r d d',rs.st r d=some d'->ri d'=ri d/\ci d'=ci d) (him:Nat.blt rs.id sp.bj.length=true) (Y:(B8 P rs bq&&B9 rs bD&&B_ rs br)=true)
  (hr:kW P τ bz sp.bj.length rs br rbody) (hu1:∀d,(aX rs.inv d).fr[rs.t1]?=some .undef) (hu2:∀d,(aX rs.inv d).fr[rs.t2]?=some .undef) (hut:∀d,(aX rs.inv d).fr[rs.it]?=some (.lit (.pointer (some ⟨rs.bJ d,0,none⟩))))
  {pre:LG->aH} (hy:∀d,(fY P τ bq bq.toList.dropLast (aX inv d) fun s=>.done .normal s).gN=some (.normal,pre d)) (hx:∀d,(pre d).eval (.tmp rs.y)=.map rs.id) (hid:∀d,(pre d).H[rs.id]?=some (.map rs.K rs.V (rZ d) (aL d)))
  (hin:∀d b,iI sp.bj.length rs.inv rs.ps (iu rs.opens (rs.yP (pre d) b))=some (rs.side d b,rs.init d b)) (hadr:∀d b,rs.bJ (rs.init d b)=b) (hri:∀d b,ri (rs.init d b)=rZ d/\ci (rs.init d b)=aL d) {tl:LG->Option LG}
  (htl:∀d,(db P τ bz rest (aX rs.inv d) .done).leaf (iw P fn.results.toList sp)=tl d) {d:LG} (aV:gq (rZ (ini d)) (aL (ini d))=true) (hall:∀b p,p.Perm (rZ (ini d))->(qS rs tl (ini d) b p).isSome=true) :
  jZ P sp d (Gs rs tl (rZ (ini d)) (ini d)) id:=by
 have hbo:bf fn=.seq ra (.seq rb (.seq (kV r0 b0 r1 b1 r2 bq bD br rs.t2 rbody) rest)):=by unfold bf; rw[hb]
 obtain⟨hn,hlt⟩:=B6 aV;simp only[aR]at Y;obtain⟨x,s',g1,g2⟩:=fo hm M (m:=sp.bj.length) ra _ _ (bN _ _ _) (kR (hpre d));cases x with
 |exit _=>exact g2.elim
 |ret=>exact g2.elim
 |normal=>
 obtain⟨x,s1',g3,N⟩:=fo hm M (m:=sp.bj.length) rb _ _ (bN _ _ _) g2;cases x with
 |exit _=>exact(by cases N)
 |ret=>exact(by cases N)
 |normal=>
 have N:iI sp.bj.length inv ps s1'=some (true,ini d):=N;generalize hd2:ini d=A at *;have U:∀b p,p.Perm (rZ A)->rs.side A b=true/\∃B,dc rs.st rs.bJ p (rs.init A b)=some B/\∃e,tl B=some e:=fun b p g=>by
  have:=hall b p g;unfold qS at this;cases hsd:rs.side A b with
  |false=>rw[hsd]at this; cases this
  |true=>
   rw[hsd]at this;simp only[cT]at this;cases I:dc rs.st rs.bJ p (rs.init A b)with
   |none=>rw[I]at this; cases this
   |some B=>
    rw[I]at this;have this:(tl B).isSome=true:=this;exact⟨rfl,B,rfl,rC.1 this⟩
 have key:∀e,∃q:LG × cu × aH,Gs rs tl (rZ A) A e->True:=fun e=>⟨([],.normal,⟨[],[]⟩),fun _=>trivial⟩
 let α:=Nat × LL
 have J:∀o:α,∃q:LG × cu × aH,o.2.Perm (rZ A)->dc rs.st rs.bJ o.2 (rs.init A o.1)=some q.1/\c_ P sp.bj.length rest (aX rs.inv q.1).au q.2.1 q.2.2.au/\∃e,tl q.1=some e/\iw P fn.results.toList sp q.2.1 q.2.2=some (true,e):=fun o=>by
  by_cases g:o.2.Perm (rZ A)
  ·obtain⟨_,B,O,e,F⟩:=U o.1 o.2 g
   have h3:=htl B;rw[F]at h3;obtain⟨x,s3,k3,k4⟩:=fo hm M (m:=sp.bj.length) rest _ .done (bN _ _ _) (kR h3);exact⟨(B,x,s3),fun _=>⟨O,k3,e,F,k4⟩⟩
  ·exact⟨([],.normal,⟨[],[]⟩),fun h=>(g h).elim⟩
 obtain⟨q,J⟩:=Jq J;have W:∀o:α,∃e,o.2.Perm (rZ A)->tl (q o).1=some e/\iw P fn.results.toList sp (q o).2.1 (q o).2.2=some (true,e):=fun o=>by
  by_cases g:o.2.Perm (rZ A)
  ·obtain⟨_,_,e,O,F⟩:=J o g
   exact⟨e,fun _=>⟨O,F⟩⟩
  ·exact⟨[],fun h=>(g h).elim⟩
 obtain⟨res,W⟩:=Jq W;have main:jZ P sp d (fun o:α=>o.2.Perm (rZ A)) res:=by
  refine Gl (x:=fun o=>(q o).2.1) (s0:=fun o=>(q o).2.2) I (by rw[hb]; rfl) hfr ?_ fun o g=>(W o g).2;rw[hbo];refine yV g1 (yV (vN g3 (kS N)) (Gk (S:=fun o=>(aX rs.inv (q o).1).au) ?_ fun o g=>(J o g).2.1));intro ro hro E a hs;refine wpIn_mono (SE hm M (bN _ _ _) hr (LQ Y.1.1 Y.1.2 Y.2) hu1 hu2 hut hid2 hkeep (by rw[<-jS]; exact him) (Cc M (hy A)) (hx A) (hid A) hn hlt (fun b=>by rw[hin A b,(U b (rZ A) (xT _)).1]) (hadr A) (hri A) (fun b p g=>?_) E a hs ro (LM hro)) fun e a1 w1 hh=>?_
  ·obtain⟨_,B,F,_⟩:=U b p g
   rw[F];rfl
  ·obtain⟨rfl,b,p,B,g,I,hM⟩:=hh
   have:=(J (b,p) g).1;rw[I]at this;cases this;exact⟨(b,p),g,rfl,hM⟩
 refine iH.mono main fun v H' ⟨o,g,O,F⟩=>⟨res o,⟨o.1,o.2,g,?_⟩,O,F⟩
 unfold qS;rw[(U o.1 o.2 g).1,(J o g).1];exact(W o g).1
end Go.AL

namespace Go.AL
open Go Go.Proofs
variable [Dr]
def Ma(d:LG):Option LG:=some [.l (gi d 0).rZ,.i (((gi d 1).iV.toNat:Nat):Int),.l (gi d 0).rZ,.i (((gi d 1).iV.toNat:Nat):Int)]
def aeN{P:ak}{ρ:Go.Shelf.Ren}(L:SlLaysW.n5 P ρ)(K V:Ct)(d r:LG)(h:Ma d=some r) :
  e_ P (ρ.f 5) (dS (cd [.map K V] d) [.s (.map 0)] (eo 2 d)) (aF (cX (cd [.map K V] d) [.map K V] d))
   (dA (dS (cd [.map K V,.map K V] r) [.s (.map 1)] (eo 4 r))) (aF (cX (cd [.map K V,.map K V] r) [.map K V,.map K V] r)):=by
 have e0:gi d 0=d.headD default:=rfl;have e1:gi d 1=d.tail.headD default:=by
  cases d with
  |nil=>rfl
  |cons x l=>cases l<;>rfl
 unfold Ma at h;cases h;rw[e0,e1];generalize U:(d.headD default).rZ=rZ;generalize hclk:(d.tail.headD default).iV.toNat=aL;intro E W hH HE A;simp only[dS,lz,fF,cX,gM,aF,List.map_cons,List.map_nil,aG.au,eo,cq.sz,fw.sz,Sh.sz,qE,Nat.add_zero,dA]at hH A|-;rw[U,hclk]at hH;simp only[List.headD_cons,List.tail_cons,G.rZ,G.iV,Int.toNat_natCast];obtain⟨cs⟩:=W
 match cs,A with
 |[c0],A=>
 simp only[aq,and_true,ae]at A;obtain⟨_,_,Y⟩:=A;have J:E.H[0]?=some (ay.map (dH K V rZ) aL):=by rw[hH]; rfl
 obtain⟨b,n,hloc,rfl⟩:=Y ⟨_,J,rfl⟩;obtain⟨O,q,g,B,hms,hents⟩:=HE.obj 0 _ J;have hbb:O=b:=by
  rw[hloc]at B;cases B;rfl
 subst hbb;refine(AnyW.maps_Clone L O g aL E.w hms).mono ?_;rintro e w' ⟨rfl,rfl⟩;have I:Ext E.w (E.w.alloc (.map g aL)):=Ext.push E.w (.map g aL);have M:=af.nc (E:=E) (w':=E.w.alloc (.map g aL)) (o:=.map (dH K V rZ) aL) (l:=some (E.w.heap.size,q)) HE.len I (fun b n h=>by cases h; exact bl _);have hlen:E.ad.length=1:=by rw[HE.len,hH]; rfl
 have F:(E.push (E.w.alloc (.map g aL)) (.map (dH K V rZ) aL) (some (E.w.heap.size,q))).ad[1]?=some (some (E.w.heap.size,q)):=by
  show (E.ad++[_])[1]?=_
  rw[ml ab,hlen];rfl
 have hob:bK (E.push (E.w.alloc (.map g aL)) (.map (dH K V rZ) aL) (some (E.w.heap.size,q))) E.H.length (.map (dH K V rZ) aL):=by
  rw[show E.H.length=1 by rw[hH]; rfl];simp only[bK];exact⟨_,_,g,F,AX E.w (.map g aL),qw (fun a c h=>dW M a h) hents⟩
 have hhr:=aO.push (E:=E) (w':=E.w.alloc (.map g aL)) (o:=.map (dH K V rZ) aL) (l:=some (E.w.heap.size,q)) HE I (fun b n h=>by cases h; exact⟨bl _,by rw[lR]; omega⟩) hob;have N:E.H++[.map (dH K V rZ) aL]=[.map (dH K V rZ) aL,.map (dH K V rZ) aL]:=by rw[hH]; rfl
 refine⟨_,_,_,rfl,⟨rfl,rfl⟩,E.ad++[some (E.w.heap.size,q)],E.X.r,?_,?_,?_⟩
 ·simp only[ae]
  refine⟨⟨_,rfl⟩,⟨.map (dH K V rZ) aL,rfl,fun v hv=>lj _⟩,fun _=>⟨E.w.heap.size,q,F,rfl⟩⟩
 ·rw[<- N]
  exact hhr
 ·rw[<- N]
  exact M
end Go.AL
