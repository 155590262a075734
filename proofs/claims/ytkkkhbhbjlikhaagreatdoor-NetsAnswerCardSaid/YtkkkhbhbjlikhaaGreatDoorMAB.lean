/-
 What is proved here: a walk along a string,on abstract values. No program in sight; no condition.
-/
import Derived.Test.YtkkkhbhbjlikhaaGreatDoorMA
set_option linter.all false
open Array renaming ext'->jk,getElem?_setIfInBounds->ZY,toList_modify->tg,toList_push->Jm
open Bool renaming and_true->fJ,and_eq_true->aR
open Go renaming Value->al,TypeId->aJ,World->be,Program->ak
open Go.Builtin renaming append_->oX,zeroCells->D6,nextslicecap->O5,delete_->Z1,clear_->Z3
open Go.Instr renaming buildSlice->O9,range->ZX,checkKey->AO,findAsking->ZZ,findNow->D8,sameNow->D9,findKey->Z0,lookup->D_,sameBits->O_,mapUpdate->xN,keyThatStays->Ea,mapEntry->Z4,entryStore->Z5
open Go.Result renaming andThen_ok->fL
open Go.Sem renaming run_bind->ft,run_pure->mS,run->oY
open Go.Utf8 renaming decode->tf
open Go.Value.slice renaming injEq->oU
open List renaming length_map->bL,getElem?_append_left->fB,getElem?_append_right->ml,getElem?_append->lN,getElem?_set_self->dN,getElem?_set_ne->dh,getElem?_set->iQ,getElem?_eq_getElem->bT,getElem?_map->dw,eq_nil_of_length_eq_zero->rE,ext_getElem?->ql,length_set->AK,mem_cons->cy,length_drop->te,flatten_append->D7,replicate->dz,getElem?_modify->rG,mem_cons_self->dG,mem_cons_of_mem->cO,mem_replicate->O',set_set->AP,map_append->gu
open Nat renaming le_refl->bl,le_add_right->gk,add_mul->nC,sub_zero->mT,zero_mul->AM,add_zero->qm,mul_le_mul_right->AN,succ_mul->atA
open Option renaming map_eq_some_iff->jA,map_some->jl,getD_some->mU
open Option.some renaming injEq->bQ
open Prod.mk renaming injEq->cr
namespace Go.AL
open Go
variable [Dr]
def EJ(P:ak)(t:aJ)(x:AV)(H:List ay):Option (AV × List ay):=
 match cZ P t,x with
 |.str,.lit (.string s)=>some (.ptr H.length 0 0 0 0,H++[.iter s 0])
 |_,_=>none
variable {E:af} {H':List ay} {P:ak} {c d u:al} {t ty:aJ} {v x a k m:AV} {cl id b n h l g w i:Nat} {rZ:List (List AV)} {q:Option (Nat × Nat)} {r:Nat->List (Option (Option (Nat × Nat)))} {o o':ay}
theorem aa'(HE:aO E)(s:ByteArray):
  e9 E (.ptr E.H.length 0 0 0 0) (E.H++[.iter s 0]) (.pointer (some ⟨E.w.heap.size,0,none⟩)) { E.w with heap:=E.w.heap.push (.stringIter s 0) }:=by
 have g:=Ext.push E.w (.stringIter s 0);have A:=af.nc (o:=.iter s 0) (l:=some (E.w.heap.size,0)) HE.len g (fun b n d=>by cases d; exact bl _);have q:(E.w.heap.push (.stringIter s 0))[E.w.heap.size]?=some (.stringIter s 0):=ai;refine⟨E.ad++[some (E.w.heap.size,0)],E.X.r,?_,aO.push HE g (fun b n d=>?_) ?_,A⟩
 ·simp only[ae]
  refine⟨⟨_,_,rfl⟩,⟨.iter s 0,ai,fun v B=>by simp⟩,fun _=>⟨E.w.heap.size,0,?_,ai⟩⟩;rw[<-HE.len]; simp
 ·cases d
  exact⟨bl _,ai⟩
 ·simp only[bK]
  refine⟨E.w.heap.size,0,?_,q⟩;simp only[af.push]; rw[<-HE.len]; simp
theorem aba(HE:aO E)(h:EJ P t x E.H=some (v,H'))(d:ae E x c):
  ∃u w',(ZX t c).run P E.w=.ok u w'/\e9 E v H' u w':=by
 unfold EJ at h;split at h
 ·rename_i s g
  cases h;simp only[ae]at d;subst d;refine⟨_,_,?_,aa' HE s⟩;simp[ZX,Sem.cK (vC g),newObj];rfl
 ·cases h
def EK(x:AV)(isString:Bool)(H:List ay):Option (AV × List ay):=
 match x,isString with
 |.ptr id 0 _ 0 0,true=>match H[id]? with
  |some (.iter s pos)=>if pos<s.size then some (.tuple [.lit (.bool true),.lit (goInt pos),.lit (.int .i32 (tf s pos).1)],H.set id (.iter s (pos+(tf s pos).2)))
    else some (.tuple [.lit (.bool false)],H)
  |_=>none
 |_,_=>none
theorem abb(HE:aO E){isString:Bool}(h:EK x isString E.H=some (v,H'))(M:ae E x c):
  ∃u w',(Instr.next c isString ty).run P E.w=.ok u w'/\e9 E v H' u w':=by
 unfold EK at h;split at h
 case h_2=>cases h
 rename_i id k;split at h
 case h_2=>cases h
 rename_i s pos g;have N:=HE.obj id _ g;simp only[bK]at N;obtain⟨b,n,d,O⟩:=N;simp only[ae]at M;obtain⟨_,_,W⟩:=M;obtain⟨b',n',A,U⟩:=W ⟨_,g,rfl⟩;rw[d]at A;simp only[bQ,cr]at A;obtain⟨rfl,rfl⟩:=A;have Y:=(HE.lt id b n d).1;split at h
 ·rename_i q
  cases h;subst U;have J:({ E.w with heap:=E.w.heap.setIfInBounds b (.stringIter s (pos+(tf s pos).2)) }:be).heap.size=E.w.heap.size:=ai;have I:∀y,y≠b->({ E.w with heap:=E.w.heap.setIfInBounds b (.stringIter s (pos+(tf s pos).2)) }:be).heap[y]?=E.w.heap[y]?:=by
   intro y hy;simp only[ZY]
   grind
  refine⟨.tuple #[.bool true,goInt pos,.int .i32 (tf s pos).1],{ E.w with heap:=E.w.heap.setIfInBounds b (.stringIter s (pos+(tf s pos).2)) },?_,E.ad,E.X.r,?_,?_,?_⟩
  ·have B:(getObj b).run P E.w=.ok (.stringIter s pos) E.w:=by grind[getObj,oY]
   have e2:(setObj b (.stringIter s (pos+(tf s pos).2))).run P E.w=.ok () { E.w with heap:=E.w.heap.setIfInBounds b (.stringIter s (pos+(tf s pos).2)) }:=by
    simp[setObj,oY,O]
   simp only[Instr.next,AM,qm,ft,B,fL,q,if_true]
   simp_all
  ·simp[ae,aq]
  ·exact HE.set g d (fun v F=>F) J I (by
    simp only[bK];exact⟨b,n,d,by simp[Y]⟩)
  ·exact af.tF HE g d (fun v F=>F) J I
 ·rename_i q
  cases h;subst U;refine⟨.tuple #[.bool false],E.w,?_,E.ad,E.X.r,by simp[ae,aq],by simpa using HE,af.le.refl E⟩;have B:(getObj b).run P E.w=.ok (.stringIter s pos) E.w:=by simp[getObj,oY,O]
  simp only[Instr.next,AM,qm,ft,B,fL,q,if_false];rfl
def nR(P:ak)(d:aJ)(a:AV):Option (List al):=
 match flatK P rQ d with
 |none=>none
 |some ks=>match a with
  |.lit v=>if d_ ks [v]=true/\rP (P.underlying d)=false then some [v] else none
  |.agg as=>match rO as with
   |some l=>if d_ ks l=true/\rP (P.underlying d)=true then some l else none
   |none=>none
  |_=>none
def rW(P:ak)(d:aJ)(l:List al)(c:al):Prop:=gS P d c l/\∃ks,flatK P rQ d=some ks/\d_ ks l=true
theorem pv{g:aJ}{l:List al}(h:nR P g a=some l)(hr:ae E a c):rW P g l c:=by
 unfold nR at h;split at h
 ·cases h
 rename_i ks q;split at h
 ·split at h
  ·rename_i v hc
   cases h;simp only[ae]at hr;subst hr;refine⟨?_,ks,q,hc.1⟩;unfold gS;split
   ·rename_i A d
    rw[d]at hc;exact absurd hc.2 (by simp[rP])
   ·rfl
  ·cases h
 ·split at h
  ·rename_i as l' F
   split at h
   ·rename_i hc
    cases h;simp only[ae]at hr;obtain⟨cs,rfl,_,I⟩:=hr;refine⟨?_,ks,q,hc.1⟩;have e:=EA F I;unfold gS;split
    ·exact⟨cs,rfl,e⟩
    ·rename_i B
     exfalso;have:=hc.2;unfold rP at this;split at this
     ·rename_i A d
      exact B A d
     ·cases this
   ·cases h
  ·cases h
 ·cases h
theorem Qj{P:ak}:∀(d:Nat) (F:List Field) (oF:Nat) (ks:List SK),A5 P d F oF=some ks->∀(A:Array al),d_ ks (A.toList.drop oF)=true->∀w:be,∀f∈F,f.name ≠ "_" /\
  ∃J x N,flatK P d f.type=some J/\(part f.type A f.offset).run P w=.ok x w/\gS P f.type x N/\d_ J N=true
 |d,[],oF,ks,q,A,O,w,f,B=>by cases B
 |d,g::F,oF,ks,q,A,O,w,f,B=>by
  unfold A5 yc at q;split at q
  ·cases q
  rename_i hc;split at q
  case h_2=>cases q
  rename_i J n ag U W;split at q
  case isFalse=>cases q
  rename_i hn;split at q
  case h_2=>cases q
  rename_i l Y;cases q;have hoff:g.offset=oF:=by
   by_cases e:g.offset=oF
   ·exact e
   omega
  obtain⟨M,I⟩:=Ez O;rw[<-hn]at M I;rcases cy.1 B with rfl|B
  ·obtain⟨x,px,vx⟩:=JK W U hn A oF M w
   grind
  ·exact Qj d F (oF+n) l Y A (by rw[List.drop_drop]at I; exact I) w f B
theorem Qk{P:ak}(em:Bool):∀(d:Nat) (t:aJ) (ks:List SK),flatK P d t=some ks->∀(D:Nat),d<=D->∀(x:al) (F:List al),gS P t x F->d_ ks F=true ->
  ∀w,(AO em D t x).run P w=.ok () w
 |0,_,_,g=>by simp[flatK]at g
 |d+1,t,ks,g=>by
  intro D hD x F B q w;obtain⟨D,rfl⟩:∃N,D=N+1:=⟨D-1,ab⟩
  unfold flatK at g;cases A:P.underlying t with
  |none=>rw[A]at g; cases g
  |some O=>
   rw[A]at g;cases O with
   |struct J=>
    simp only[]at g;split at g
    ·cases g
    simp only[gS,A]at B;obtain⟨a,rfl,rfl⟩:=B;have M:=Qj d J.toList 0 ks g a (by simpa using q) w;have I:∀f∈J.toList,f.name ≠ "_" /\ ∃x,(part f.type a f.offset).run P w=.ok x w/\(AO em D f.type x).run P w=.ok () w:=fun f U=>by
     obtain⟨W,Y,x,F,h2,h3,h4,h5⟩:=M f U;exact⟨W,x,h3,Qk em d f.type Y h2 D ab x F h4 h5 w⟩
    rw[AO];simp only[ft,Sem.cK A,fL];rw[<-Array.forIn_toList];clear M g;generalize J.toList=L at I
    induction L with
    |nil=>simp
    |cons f L ih=>
     obtain⟨hn,x,p1,p2⟩:=I f ai;simp only[List.forIn_cons,ft,hn,ne_eq,not_false_eq_true,if_true,fL,p1,p2,mS];exact ih (fun y hy=>I y (by simp[hy]))
   |int k=>
    simp at g;subst g;simp only[gS,A]at B;subst B;simp only[d_,fJ]at q;unfold kindOk at q;split at q<;>simp_all[AO,Sem.cK A]
   |string=>
    simp at g;subst g;simp only[gS,A]at B;subst B;simp only[d_,fJ]at q;unfold kindOk at q;split at q<;>simp_all[AO,Sem.cK A]
   |bool=>
    simp at g;subst g;simp only[gS,A]at B;subst B;simp only[d_,fJ]at q;unfold kindOk at q;split at q<;>simp_all[AO,Sem.cK A]
   |_=>simp at g
theorem nS{d:aJ}{l:List al}(h:rW P d l c)(em:Bool)(w:be):(AO em 10000 d c).run P w=.ok () w:=by
 obtain⟨g,ks,q,A⟩:=h;exact Qk em rQ d ks q 10000 cD c l g A w
theorem abc{g:aJ}{l m:List al}(h:rW P g l c)(h':rW P g m d)(w:be):(Op.equal g c d).run P w=.ok (fE l m) w:=by
 obtain⟨B,ks,q,F⟩:=h;obtain⟨I,M,A,J⟩:=h';rw[q]at A;cases A;exact JL rQ g ks q 10000 cD c d l m B I F J w
def jr(P:ak)(d:aJ)(k:List al):List (AV × AV × Nat)->Nat->Option (Option (Nat × AV))
 |[],_=>some none
 |(g,v,_)::q,i=>match nR P d g with
  |some l=>bif fE k l then some (some (i,v)) else jr P d k q (i+1)
  |none=>none
def gL(E:af)(g:List MapEntry)(d:Nat):Option (Nat × AV)->Option (Nat × al)->Prop
 |none,none=>True
 |some (i,v),some (j,c)=>i=j/\ae E v c/\d<=i/\∃e,g[i-d]?=some e/\e.val=c
 |_,_=>False
theorem Ql{P:ak}{E:af}{B:aJ}{k:List al}{c:al}(I:rW P B k c)(w:be):∀(A:List (AV × AV × Nat)) (g:List MapEntry) (i:Nat) (r:Option (Nat × AV)),
  di E A g->jr P B k A i=some r->∃d,(ZZ B c g i).run P w=.ok d w/\gL E g i r d
 |[],[],i,r,_,h=>by
  simp only[jr,bQ]at h;subst h;exact⟨none,rfl,trivial⟩
 |[],_::_,_,_,hr,_=>by simp[di]at hr
 |(_,_,_)::_,[],_,_,hr,_=>by simp[di]at hr
 |(Y,v,n)::A,e::g,i,r,hr,h=>by
  simp only[di]at hr;obtain⟨M,N,h3,h4,h5,O⟩:=hr;simp only[jr]at h;split at h
  case h_2=>cases h
  rename_i l U;have he:=abc I (pv U M) w;cases J:fE k l with
  |true=>
   rw[J]at h he;cases h;refine⟨some (i,e.val),by simp[ZZ,he],rfl,N,bl _,e,ai,rfl⟩
  |false=>
   rw[J]at h he;obtain⟨d,W,F⟩:=Ql I w A g (i+1) r O h;refine⟨d,by simp[ZZ,he,W],?_⟩;cases r with
   |none=>cases d with
    |none=>trivial
    |some _=>simp[gL]at F
   |some p=>cases d with
    |none=>simp[gL]at F
    |some q=>
     simp only[gL]at F|-
     grind
theorem Qm{P:ak}{E:af}{Y:aJ}{k:List al}{c:al}{d:TypeDesc}(N:P.underlying Y=some d)(hk:rW P Y k c):∀(O:List (AV × AV × Nat)) (J:List MapEntry) (i:Nat) (r:Option (Nat × AV)),
  di E O J->jr P Y k O i=some r->(∃M,D8 d c J i=some M/\gL E J i r M)\/D8 d c J i=none
 |[],[],i,r,_,h=>by
  simp only[jr,bQ]at h;subst h;exact .inl ⟨none,rfl,trivial⟩
 |[],_::_,_,_,hr,_=>by simp[di]at hr
 |(_,_,_)::_,[],_,_,hr,_=>by simp[di]at hr
 |(k',v,n)::O,e::J,i,r,hr,h=>by
  simp only[di]at hr;obtain⟨h1,h2,h3,h4,h5,h6⟩:=hr;simp only[jr]at h;split at h
  case h_2=>cases h
  rename_i l hl;have hkv:=pv hl h1;have same:D9 d c e.key=some (fE k l)\/D9 d c e.key=none:=by
   obtain⟨p1,ks,A,F⟩:=hk;obtain⟨I,ks',U,B⟩:=hkv;rw[A]at U;cases U;unfold rQ at A;unfold flatK at A;rw[N]at A;cases d with
   |struct fs=>right; simp[D9]
   |int kk=>
    simp at A;subst A;simp only[gS,N]at p1 I;subst p1; subst I;simp only[d_,fJ]at F B;unfold kindOk at F B;left;split at F<;>split at B<;>simp_all[D9,fE,tz]
   |string=>
    simp at A;subst A;simp only[gS,N]at p1 I;subst p1; subst I;simp only[d_,fJ]at F B;unfold kindOk at F B;left;split at F<;>split at B<;>simp_all[D9,fE,tz,beq_toListBytes]
   |bool=>
    simp at A;subst A;simp only[gS,N]at p1 I;subst p1; subst I;simp only[d_,fJ]at F B;unfold kindOk at F B;left;split at F<;>split at B<;>simp_all[D9,fE,tz]
   |_=>simp at A
  rcases same with hs|hs
  ·cases hv:fE k l with
   |true=>
    rw[hv]at h hs;cases h;exact .inl ⟨some (i,e.val),by simp[D8,hs],rfl,h2,bl _,e,ai,rfl⟩
   |false=>
    rw[hv]at h hs;rcases Qm N hk O J (i+1) r h6 h with⟨M,g1,W⟩|g
    ·refine .inl ⟨M,by simp[D8,hs,g1],?_⟩
     cases r with
     |none=>cases M with
      |none=>trivial
      |some _=>simp[gL]at W
     |some p=>cases M with
      |none=>simp[gL]at W
      |some q=>
       simp only[gL]at W|-;obtain⟨I,U,B,e',q4,q5⟩:=W;refine⟨I,U,ab,e',?_,q5⟩;rw[show p.1-i=(p.1-(i+1))+1 from by omega];simpa using q4
    ·exact .inr (by simp[D8,hs,g])
  ·exact .inr (by simp[D8,hs])
theorem pz{A:aJ}{k:List al}(J:rW P A k c)(w:be){B:List (AV × AV × Nat)}{q:List MapEntry}{r:Option (Nat × AV)}
  (hr:di E B q) (h:jr P A k B 0=some r):∃F,(Z0 A c q).run P w=.ok F w/\gL E q 0 r F:=by
 have M:∃d,P.underlying A=some d:=by
  obtain⟨_,ks,I,_⟩:=J;unfold rQ at I;unfold flatK at I;split at I<;>first|exact⟨_,by assumption⟩|cases I
 obtain⟨d,M⟩:=M;rcases Qm M J B q 0 r hr h with⟨F,N,O⟩|g
 simp_all[Z0,Sem.cK]
 ·obtain⟨F,N,O⟩:=Ql J w B q 0 r hr h
  simp_all[Z0,Sem.cK]
def iF(P:ak)(t:aJ):Option (aJ × aJ):=match P.underlying t with
 |some (.map k e)=>some (k,e)
 |_=>none
theorem lu{k e:aJ}(h:iF P t=some (k,e)):P.underlying t=some (.map k e):=by
 unfold iF at h;split at h
 ·rename_i d; cases h; exact d
 ·cases h
def nT(P:ak)(t:aJ):Option AV:=match P.info? t with
 |some i=>match i.zero with
  |some z=>some (AV.x7 z)
  |none=>none
 |none=>none
theorem EL(h:nT P t=some a)(w:be):∃z,(zeroValue t).run P w=.ok z w/\∀E,ae E a z:=by
 unfold nT at h;split at h
 ·rename_i i hi
  split at h
  ·rename_i z d
   cases h
   simp_all[qz,PK]
  ·cases h
 ·cases h
def tH(P:ak)(t:aJ):Option AV:=match nT P t,J5 P t with
 |some (.lit (.slice none 0 0)),some ks=>some (.listF ks [])
 |some z,_=>some z
 |none,_=>none
theorem abd(h:tH P t=some a)(w:be):∃z,(zeroValue t).run P w=.ok z w/\∀E,ae E a z:=by
 unfold tH at h;split at h
 ·rename_i ks d A
  cases h;obtain⟨z,g,q⟩:=EL d w;refine⟨z,g,fun E=>?_⟩;have:=q E
  simp_all[ae,fN,G.rZ]
 simp_all[EL]
 ·cases h
def pA(P:ak)(t:aJ)(m k:AV)(ok:Bool)(H:List ay):Option AV:=
 match iF P t,m with
 |some (d,g),.map id=>match H[id]? with
  |some (.map q _)=>match nR P d k,tH P g with
   |some A,some z=>match jr P d A q 0 with
    |some r=>let v:=match r with
      |some (_,v)=>v
      |none=>z
     some (match ok with
      |true=>.tuple [v,.lit (.bool r.isSome)]
      |false=>v)
    |none=>none
   |_,_=>none
  |_=>none
 |_,_=>none
theorem vF(HE:aO E){q:List (AV × AV × Nat)}(g:E.H[id]? = some (.map q cl))(hr:ae E (.map id) c):
  ∃b n d,c=.map (some b)/\E.ad[id]?=some (some (b,n))/\E.w.heap[b]?=some (.map d cl)/\di E q d.toList:=by
 have A:=HE.obj id _ g;simp only[bK]at A;obtain⟨b,n,d,F,I,J⟩:=A;simp only[ae]at hr;obtain⟨_,_,B⟩:=hr;obtain⟨M,N,O,U⟩:=B ⟨_,g,rfl⟩
 grind
theorem Qn(HE:aO E){ok:Bool}(h:pA P t m k ok E.H=some v)(hm:ae E m c)(U:ae E k d):
  ∃u,(D_ t c d ok).run P E.w=.ok u E.w/\ae E v u:=by
 unfold pA at h;split at h
 case h_2=>cases h
 rename_i kt et id B;split at h
 case h_2=>cases h
 rename_i es cl N;split at h
 case h_2=>cases h
 rename_i kv z O W;split at h
 case h_2=>cases h
 rename_i r hr;obtain⟨b,n,Y,rfl,h1,h2,h3⟩:=vF HE N hm;have A:=pv O U;obtain⟨F,I,g⟩:=pz A E.w h3 hr;obtain⟨J,z1,z2⟩:=abd W E.w;have M:(getObj b).run P E.w=.ok (.map Y cl) E.w:=by simp[getObj,oY,h2]
 cases h;cases r with
 |none=>
  cases F with
  |some _=>simp[gL]at g
  |none=>
   refine⟨if ok then .tuple #[J,.bool false] else J,?_,?_⟩
   ·simp only[D_,ft,Sem.cK (lu B),fL,M,mS,nS A,I,z1]
   ·cases ok with
    |true=>simp[ae,aq,z2 E]
    |false=>grind
 |some p=>
  cases F with
  |none=>simp[gL]at g
  |some q=>
   simp only[gL]at g;obtain⟨q1,q2,_,_,_,_⟩:=g;refine⟨if ok then .tuple #[q.2,.bool true] else q.2,?_,?_⟩
   ·simp only[D_,ft,Sem.cK (lu B),fL,M,mS,nS A,I]
   ·cases ok with
    |true=>simp[ae,aq,q2]
    |false=>grind
theorem abe(HE:aO E):e9 E (.map E.H.length) (E.H++[.map [] 0]) (.map (some E.w.heap.size)) { E.w with heap:=E.w.heap.push (.map #[] 0) }:=by
 have g:=Ext.push E.w (.map #[] 0);have A:=af.nc (o:=.map [] 0) (l:=some (E.w.heap.size,0)) HE.len g (fun b n d=>by cases d; exact bl _);have q:(E.w.heap.push (.map #[] 0))[E.w.heap.size]?=some (.map #[] 0):=ai;refine⟨E.ad++[some (E.w.heap.size,0)],E.X.r,?_,aO.push HE g (fun b n d=>?_) ?_,A⟩
 ·simp only[ae]
  refine⟨⟨_,rfl⟩,⟨.map [] 0,ai,fun v B=>Nat.zero_le _⟩,fun _=>⟨E.w.heap.size,0,?_,rfl⟩⟩;rw[<-HE.len]; simp
 ·cases d
  exact⟨bl _,ai⟩
 ·simp only[bK]
  refine⟨E.w.heap.size,0,#[],?_,q,by simp[di]⟩;simp only[af.push]; rw[<-HE.len]; simp
theorem abf{a b:ByteArray}(h:a.toList=b.toList):a=b:=by
 have d:(a==b)=true:=by rw[beq_toListBytes,h]; simp
 obtain⟨x⟩:=a;obtain⟨y⟩:=b;have e:x=y:=by simpa using(show (x==y)=true from d)
 rw[e]
theorem Qo:∀{l m:List al} {ks:List SK},d_ ks l=true->d_ ks m=true->fE l m=true->l=m
 |[],[],_,_,_,_=>rfl
 |a::l,b::m,ks,d,g,h=>by
  cases ks with
  |nil=>simp[d_]at d
  |cons k ks=>
   simp only[d_,aR]at d g;simp only[fE,aR]at h;have e:a=b:=by
    have q:=d.1;have A:=g.1;have B:=h.1;unfold kindOk at q A;split at q<;>split at A<;>simp_all[tz]
    exact abf h.1
   rw[e,Qo d.2 g.2 h.2]
 |[],_::_,_,_,_,h|_::_,[],_,_,_,h=>by simp[fE]at h
theorem Qp{ks:List SK}:∀{l:List al},d_ ks l=true->∀(n:Nat),(l.zip l).all (fun(x,y)=>O_ n x y)=true:=by
 intro l
 induction l generalizing ks with
 |nil=>simp
 |cons a l d=>
  intro h n;cases ks with
  |nil=>simp[d_]at h
  |cons k ks=>
   simp only[d_,aR]at h;simp only[List.zip_cons_cons,List.all_cons,aR];refine⟨?_,d h.2 n⟩;have g:=h.1;unfold kindOk at g
   grind[O_,beq_toListBytes]
theorem J8{F:aJ}{l m:List al}(h:rW P F l c)(h':rW P F m d)(he:fE l m=true):c=d/\O_ 10000 d c=true:=by
 obtain⟨q,ks,O,A⟩:=h;obtain⟨g,Y,I,U⟩:=h';rw[O]at I;cases I;have e:=Qo A U he;subst e;unfold gS at q g;split at q
 ·rename_i J B
  rw[B]at g;simp only[]at g;obtain⟨a,rfl,M⟩:=q;obtain⟨b,rfl,W⟩:=g;have:a=b:=by apply jk; rw[M,W]
  subst this;refine⟨rfl,?_⟩;simp only[O_,beq_self_eq_true,Bool.true_and];rw[M];exact Qp A 9999
 ·rename_i N
  split at g
  ·rename_i J B
   exact(N J B).elim
  ·have:c=d:=by rw[q]at g; simpa using g
   subst this;refine⟨rfl,?_⟩;have:=Qp A 10000;rw[q]at this;simpa using this
def tJ(P:ak)(t:aJ)(m k v:AV)(H:List ay):Option (List ay):=
 match iF P t,m with
 |some (g,_),.map id=>match H[id]? with
  |some (.map d cl)=>match nR P g k with
   |some q=>if v.closed=true/\k.closed=true then
     match jr P g q d 0 with
     |some (some (i,_))=>some (H.set id (.map (d.modify i fun e=>(k,v,e.2.2)) cl))
     |some none=>some (H.set id (.map (d++[(k,v,cl)]) (cl+1)))
     |none=>none
    else none
   |none=>none
  |_=>none
 |_,_=>none
theorem iG{E:af}:∀{es:List (AV × AV × Nat)} {d:List MapEntry},di E es d↔es.length=d.length/\∀(i:Nat) x e,es[i]?=some x->d[i]?=some e ->
  ae E x.1 e.key/\ae E x.2.1 e.val/\e.born=x.2.2/\x.1.closed=true/\x.2.1.closed=true
 |[],[]=>by simp[di]
 |[],_::_=>by simp[di]
 |(_,_,_)::_,[]=>by simp[di]
 |(k,v,n)::es,e::d=>by
  simp only[di,iG (es:=es),List.length_cons];constructor
  grind
  ·rintro⟨M,g⟩
   obtain⟨q,A,B,F,a5⟩:=g 0 (k,v,n) e rfl rfl;exact⟨q,A,B,F,a5,ab,fun i x y I J=>g (i+1) x y (by simpa using I) (by simpa using J)⟩
theorem EM(HE:aO E){cl':Nat}{F es':List (AV × AV × Nat)}{I ms':Array MapEntry}(A:E.H[id]? = some (.map F cl)) (g:E.ad[id]? = some (some (b,n)))
  (J:E.w.heap[b]?=some (.map I cl)) (hr:di E es' ms'.toList) :
  ∃w',(setObj b (.map ms' cl')).run P E.w=.ok () w'/\aO { w:=w',H:=E.H.set id (.map es' cl'),ad:=E.ad,X:=E.X }/\E.le { w:=w',H:=E.H.set id (.map es' cl'),ad:=E.ad,X:=E.X }:=by
 have M:=(HE.lt id b n g).1;have B:({ E.w with heap:=E.w.heap.setIfInBounds b (.map ms' cl') }:be).heap.size=E.w.heap.size:=ai;have q:∀y,y≠b->({ E.w with heap:=E.w.heap.setIfInBounds b (.map ms' cl') }:be).heap[y]?=E.w.heap[y]?:=by
  intro y O;simp only[ZY]
  grind
 refine⟨{ E.w with heap:=E.w.heap.setIfInBounds b (.map ms' cl') },by simp[setObj,oY,J],?_,?_⟩
 ·have N:E.le { w:={ E.w with heap:=E.w.heap.setIfInBounds b (.map ms' cl') },H:=E.H.set id (.map es' cl'),ad:=E.ad,X:=E.X }:=af.tF HE A g (fun v d=>d) B q
  refine HE.set A g (fun v d=>d) B q ?_
  grind[bK,iG,dW]
 ·exact af.tF HE A g (fun v d=>d) B q
theorem EN{P:ak}{g:aJ}{k:List al}:∀{d:List (AV × AV × Nat)} {i j:Nat} {v:AV},jr P g k d i=some (some (j,v))->i<=j/\∃ x l,d[j-i]? = some x/\nR P g x.1=some l/\fE k l=true
 |[],_,_,_,h=>by simp[jr]at h
 |(A,B,n)::d,i,j,v,h=>by
  simp only[jr]at h;split at h
  case h_2=>cases h
  rename_i l F;cases q:fE k l with
  |true=>
   simp_all
  |false=>
   rw[q]at h;obtain⟨I,x,l',J,M,N⟩:=EN h
   grind
theorem Qq(HE:aO E)(h:tJ P t m k v E.H=some H')(hm:ae E m c)(hk:ae E k d)(hv:ae E v u):
  ∃w',(xN t c d u).run P E.w=.ok () w'/\aO { w:=w',H:=H',ad:=E.ad,X:=E.X }/\E.le { w:=w',H:=H',ad:=E.ad,X:=E.X }:=by
 unfold tJ at h;split at h
 case h_2=>cases h
 rename_i kt et id ht;split at h
 case h_2=>cases h
 rename_i es cl I;split at h
 case h_2=>cases h
 rename_i kv hkv;split at h
 case isFalse=>cases h
 rename_i hcl;obtain⟨b,n,B,rfl,h1,J,M⟩:=vF HE I hm;have g:=pv hkv hk;have e1:(getObj b).run P E.w=.ok (.map B cl) E.w:=by simp[getObj,oY,J]
 obtain⟨Y,hall⟩:=iG.1 M;split at h
 ·rename_i i v0 F
  cases h;obtain⟨N,O,A⟩:=pz g E.w M F;cases N with
  |none=>simp[gL]at A
  |some q=>
   simp only[gL]at A;obtain⟨q1,q2,_,U,q4,q5⟩:=A;obtain⟨_,x,l,f1,f2,f3⟩:=EN F;simp only[mT]at q4 f1;obtain⟨a1,a2,a3,a4,a5⟩:=hall i x U f1 q4;obtain⟨s1,s2⟩:=J8 g (pv f2 a1) f3;have q4':B[i]?=some U:=nJ;obtain⟨w',r1,r2,r3⟩:=EM (P:=P) HE (es':=es.modify i fun e=>(k,v,e.2.2)) (ms':=B.modify i fun e=>{ e with key:=d,val:=u }) (cl':=cl) I h1 J (by
    rw[iG];refine⟨by simp[Y],fun j y z W hz=>?_⟩;simp only[rG]at W;simp only[tg,rG]at hz;obtain⟨y0,hy0,rfl⟩:=jA.1 W
    grind)
   refine⟨w',?_,r2,r3⟩;subst q1;have hst:(Ea U.key d).run P E.w=.ok d E.w:=by simp[Ea,s2]
   simp only[xN,ft,Sem.cK (lu ht),fL,e1,nS g,O,q4',jl,mU,hst];exact r1
 ·rename_i F
  cases h;obtain⟨N,O,A⟩:=pz g E.w M F;cases N with
  |some _=>simp[gL]at A
  |none=>
   obtain⟨w',r1,r2,r3⟩:=EM (P:=P) HE (es':=es++[(k,v,cl)]) (ms':=B.push { key:=d,val:=u,born:=cl }) (cl':=cl+1) I h1 J (by
    rw[iG];refine⟨by simp[Y],fun j y z W hz=>?_⟩
    grind)
   refine⟨w',?_,r2,r3⟩;simp only[xN,ft,Sem.cK (lu ht),fL,e1,nS g,O];exact r1
 ·cases h
def A'(P:ak)(t:aJ)(m k:AV)(H:List ay):Option (List ay):=
 match iF P t,m with
 |some (g,_),.map id=>match H[id]? with
  |some (.map d cl)=>match nR P g k with
   |some q=>match jr P g q d 0 with
    |some (some (i,_))=>some (H.set id (.map (d.eraseIdx i) cl))
    |some none=>some (H.set id (.map d cl))
    |none=>none
   |none=>none
  |_=>none
 |_,_=>none
theorem abg(HE:aO E){fV:Array aJ}{cs:Array al}(h:A' P t m k E.H=some H')(Y:fV[0]? = some t)
  (U:cs[0]?=some c) (W:cs[1]?=some d) (hm:ae E m c) (hk:ae E k d) :
  ∃w',(Z1 fV ty cs).run P E.w=.ok (.tuple #[]) w'/\aO { w:=w',H:=H',ad:=E.ad,X:=E.X }/\E.le { w:=w',H:=H',ad:=E.ad,X:=E.X }:=by
 unfold A' at h;split at h
 case h_2=>cases h
 rename_i kt et id ht;split at h
 case h_2=>cases h
 rename_i es cl I;split at h
 case h_2=>cases h
 rename_i kv hkv;obtain⟨b,n,g,rfl,h1,J,F⟩:=vF HE I hm;have B:=pv hkv hk;have e1:(getObj b).run P E.w=.ok (.map g cl) E.w:=by simp[getObj,oY,J]
 obtain⟨hlen,hall⟩:=iG.1 F;split at h
 ·rename_i i v0 M
  cases h;obtain⟨N,O,A⟩:=pz B E.w F M;cases N with
  |none=>simp[gL]at A
  |some q=>
   simp only[gL]at A;obtain⟨q1,q2,_,e',q4,q5⟩:=A;obtain⟨w',r1,r2,r3⟩:=EM (P:=P) HE (es':=es.eraseIdx i) (ms':=g.eraseIdxIfInBounds i) (cl':=cl) I h1 J (by
    rw[iG];have e:(g.eraseIdxIfInBounds i).toList=g.toList.eraseIdx i:=ai;rw[e];refine⟨by simp[List.length_eraseIdx,hlen],fun j y z hy hz=>?_⟩;rw[List.getElem?_eraseIdx]at hy hz
    grind)
   refine⟨w',?_,r2,r3⟩;subst q1;simp only[Z1,Y,U,W,ft,Sem.cK (lu ht),fL,e1,nS B,O]
   simp_all
 ·rename_i M
  cases h;obtain⟨N,O,A⟩:=pz B E.w F M;cases N with
  |some _=>simp[gL]at A
  |none=>
   obtain⟨w',r1,r2,r3⟩:=EM (P:=P) HE (es':=es) (ms':=g) (cl':=cl) I h1 J F;refine⟨w',?_,r2,r3⟩;simp only[Z1,Y,U,W,ft,Sem.cK (lu ht),fL,e1,nS B,O]
   simp_all
 ·cases h
theorem Qr{α:Type}{k:Nat}:∀{l:List (List α)} (n:Nat),(∀ r∈l,r.length=k)->(l.take n).flatten=l.flatten.take (n*k)
 |[],n,_=>by simp
 |r::l,0,_=>by simp
 |r::l,n+1,h=>by
  have hr:r.length=k:=h r dG;have g:=Qr (l:=l) n (fun x d=>h x (cO _ d))
  simp_all[nC,List.take_append,List.take_of_length_le]
theorem Qs{α:Type}{k:Nat}:∀{l:List (List α)} (n:Nat),(∀ r∈l,r.length=k)->(l.drop n).flatten=l.flatten.drop (n*k)
 |[],n,_=>by simp
 |r::l,0,_=>by simp
 |r::l,n+1,h=>by
  have hr:r.length=k:=h r dG;have g:=Qs (l:=l) n (fun x d=>h x (cO _ d))
  simp_all[nC,List.drop_append]
theorem abh(HE:aO E){k ax m oF:Nat}{news:List (List AV)}{vals:List al}(I:E.H[id]? = some (.vQ k ax rZ)) (q:E.ad[id]? = some (some (b,m)))
  (g:aq E news.flatten vals) (h1:∀x∈vals,fm x=true) (hw:∀r∈news,r.length=k) (hcl:iC news) (hle:oF+news.length<=rZ.length) :
  ∃w',(storeCells ⟨b,oF*k,none⟩ vals).run P E.w=.ok () w'/\aO { w:=w',H:=E.H.set id (.vQ k ax (rZ.take oF++news++rZ.drop (oF+news.length))),ad:=E.ad,X:=E.X } /\
   E.le { w:=w',H:=E.H.set id (.vQ k ax (rZ.take oF++news++rZ.drop (oF+news.length))),ad:=E.ad,X:=E.X }:=by
 rcases HE.obj id _ I with⟨M,_⟩|⟨b',m',M,⟨d,N,W,hsize⟩,e3,e4,e5⟩
 grind
 rw[q]at M;cases M;have B:∀r∈rZ,r.length=k:=JV e5;have hlen:vals.length=news.length*k:=by grind[il,yh]
 have hmul:(oF+news.length)*k<=rZ.length*k:=AN _ hle;rw[nC]at hmul;have hmul2:rZ.length*k<=m*k:=AN _ e3;have F:oF*k+0+vals.length<=d.size:=by rw[hsize]; omega
 have J:=run_storeCells_at P b (oF*k) N vals 0 d E.w W F (fun v g=>by rw[EB]; exact h1 v g);simp only[qm]at J F;generalize A:E.w.setRow b (d.toList.take (oF*k)++vals++d.toList.drop (oF*k+vals.length)).toArray=w' at J;have O:w'.heap.size=E.w.heap.size:=by rw[<-A]; simp
 have henv:eV E.w w':=by rw[<-A]; exact⟨rfl,rfl,rfl,by first|exact fun _=>bl _|exact fun _=>gk _ _⟩
 have U:∀x,x≠b->w'.heap[x]?=E.w.heap[x]?:=by intro x hx; rw[<-A]; grind[setRow_other]
 have hb':w'.heap[b]?=some (.cells (d.toList.take (oF*k)++vals++d.toList.drop (oF*k+vals.length)).toArray N (0,0)):=by
  rw[<-A]; grind[setRow_heap]
 have Y:∀v,(ay.vQ k ax (rZ.take oF++news++rZ.drop (oF+news.length))).bt=some v->(ay.vQ k ax rZ).bt=some v:=fun v g=>by simpa[ay.bt]using g
 have hle':=af.tF (o':=.vQ k ax (rZ.take oF++news++rZ.drop (oF+news.length))) HE I q Y O U;have hl2:(rZ.take oF++news++rZ.drop (oF+news.length)).length=rZ.length:=by
  simp only[List.length_append,List.length_take,te];omega
 refine⟨w',J,aO.set HE I q Y O U ?_,hle'⟩;simp only[bK];right;refine⟨b,m,q,⟨_,N,hb',?_⟩,by rw[hl2]; exact e3,?_,?_⟩
 grind
 ·intro r hr
  simp only[List.mem_append]at hr;rcases hr with(h|h)|h
  ·exact e4 r (List.mem_of_mem_take h)
  ·exact hcl r h
  ·exact e4 r (List.mem_of_mem_drop h)
 ·refine ED ?_ ?_
  grind
  ·rw[D7,D7,Qr oF B,Qs _ B]
   have hflat:=EC e5;have hcs:news.flatten.length=news.length*k:=yh hw;have:=JZ (E:=E) (E':={ w:=w',H:=E.H.set id (.vQ k ax (rZ.take oF++news++rZ.drop (oF+news.length))),ad:=E.ad,X:=E.X }) (o:=0) (col:=oF*k) (as:=rZ.flatten) (cs:=news.flatten)
    (fun a c hr=>dW hle' a hr) W (by simpa using hb') (by simpa using F) hflat g h1 (by rw[yh B,hcs]; omega)
   grind
def Ba(P:ak)(t:aJ)(x:AV)(H:List ay):Option (List ay):=
 match cZ P t,x with
 |.slice e sz _,.vQ w id ax oF n=>match gK P e,H[id]? with
  |some z,some (.vQ k v rZ)=>if k=w/\w=sz/\v=ax/\z.length=sz/\0<sz/\oF+n<=rZ.length then
    some (H.set id (.vQ k v (rZ.take oF++dz n (z.map AV.lit)++rZ.drop (oF+n)))) else none
  |_,_=>none
 |_,_=>none
theorem abi(HE:aO E){fV:Array aJ}{cs:Array al}(h:Ba P t x E.H=some H')(h0:fV[0]? = some t)
  (O:cs[0]?=some c) (g:ae E x c) :
  ∃w',(Z3 fV ty cs).run P E.w=.ok (.tuple #[]) w'/\aO { w:=w',H:=H',ad:=E.ad,X:=E.X }/\E.le { w:=w',H:=H',ad:=E.ad,X:=E.X }:=by
 unfold Ba at h;split at h
 case h_2=>cases h
 rename_i e sz c9 w id ax oF n hk;obtain⟨hu,i,hi,hs,_⟩:=kn hk;split at h
 case h_2=>cases h
 rename_i z k v rZ hz A;split at h
 case isFalse=>cases h
 rename_i hc;obtain⟨rfl,rfl,rfl,U,hpos,W⟩:=hc;cases h;obtain⟨i',q,F,hz1,I,Y⟩:=qy hz;rw[hi]at F;cases F;simp only[ae]at g;obtain⟨⟨bg,cap,rfl,hcap,hb⟩,_,N⟩:=g;obtain⟨q1,q2⟩:=N ⟨_,A,rfl⟩;cases n with
 |zero=>
  refine⟨E.w,?_,?_,?_⟩
  ·simp only[Z3,h0,O,ft,Sem.cK hu,fL]
   cases bg<;>rfl
  simp_all[qA]
  simp_all[qA,af.le.refl]
 |succ n=>
  obtain⟨b,o,rfl⟩:=hb ab;have d:∃b m,E.ad[id]?=some (some (b,m)):=by
   rcases HE.obj id _ A with⟨_,e2⟩|⟨J,m',e2,_⟩
   grind
   grind
  obtain⟨J,m,d⟩:=d;obtain⟨g1,o',g2,M⟩:=q2 J m d;have ho:=g2 ab;subst ho;simp only[oU,bQ,Addr.mk.injEq]at M;obtain⟨⟨rfl,rfl,_⟩,_,_⟩:=M;have hvals:(D6 q.cells (n+1)).toList=(dz (n+1) z).flatten:=by
   rw[<-I];have hzs:0<q.cells.size:=by
    have:q.cells.size=z.length:=by rw[<-I]; simp
    omega
   exact range_zero q.cells (n+1) hzs
  have B:∀ r∈dz (n+1) (z.map AV.lit),r=z.map AV.lit:=fun r hr=>(O'.1 hr).2;obtain⟨w',r1,r2,r3⟩:=abh (P:=P) HE (oF:=oF) (news:=dz (n+1) (z.map AV.lit)) (vals:=(dz (n+1) z).flatten) A d (A9 z (n+1))
   (fun x g=>Y x (A_ g)) (fun r hr=>by rw[B r hr]; simp[U]) (fun r hr=>by rw[B r hr]; exact J7 z) (by simpa using W)
  simp_all[Z3,Sem.cK,qz]
theorem abj{w:be}{xt e:aJ}{i:TypeInfo}{z:al}{sz:Nat}{bg:Option Addr}{m:Nat}{k k':IntKind}
  (A:P.underlying t=some (.slice e)) (B:P.underlying xt=some (.int k)) (hi:P.info? e=some i) (hs:i.size=sz) (F:i.zero=some z) (d:0<sz) (I:0<m) (hm:m<=1048576) (J:i.bytes<=1048576) :
  ∃ C,m<=C/\(oX #[t,xt] ty #[.slice bg 0 0,.int k' (m:Int)]).run P w =
   .ok (.slice (some ⟨w.heap.size,0,none⟩) m C) (w.drew.alloc (.cells ((D6 z.cells m).toList++(D6 z.cells (C-m)).toList).toArray e)):=by
 have g:IntKind.i64.wrap (m:Int)=m:=wrap_small ab ab;have W:¬ (m<=0):=ab;have M:¬ ((m:Int)<0):=ab;have q:m*i.bytes<=1048576*1048576:=Nat.mul_le_mul hm J;have N:¬ ((281474976710656:Int)<(m:Int)*(i.bytes:Int)):=by
  have:((m*i.bytes:Nat):Int)<=1099511627776:=Int.ofNat_le.2 (Nat.le_trans q cD);rw[Int.natCast_mul]at this;omega
 have Y:¬ (IntKind.i64.max<(m:Int)):=by
  show ¬ ((9223372036854775807:Int)<(m:Int))
  omega
 have h5:O5 m 0*i.bytes<=281474976710656:=growslice_fits ab ab;have O:¬ (281474976710656<O5 m 0*i.bytes):=ab;have U:¬ (m*sz=0):=by
  have:=Nat.mul_pos I d;omega
 refine⟨grownCap w m 0 e,?_,?_⟩
 ·simp[grownCap,Question.cut]
 ·simp[oX,run_underlying A,run_underlying B,sizeOf,typeInfo,zeroValue,hi,F,hs,asInt,asIntOf,g,M,N,O,U,Question.forced,newRow,grownCap,Builtin.firstCells]
  rw[iN (by omega:¬ m=0),iN (by omega:¬ (9223372036854775807:Int)<(m:Int))];cases bg<;>simp[loadCells,loadCellsFrom]<;>(congr 2; grind)
def vG(P:ak)(t xt:aJ)(s x:AV)(H:List ay):Option (AV × List ay):=
 match cZ P t,cZ P xt,s,x with
 |.slice e sz c9,.int _,.lit (.slice none 0 0),.lit (.int _ n)=>match gK P e with
  |some z=>if z.length=sz/\0<sz/\c9<=1048576/\0<n/\n<=1048576 then some (.vQ sz H.length 0 0 n.toNat,H++[.vQ sz 0 (dz n.toNat (z.map AV.lit))]) else none
  |none=>none
 |_,_,_,_=>none
theorem abk(HE:aO E){xt:aJ}{s:AV}{F:al}(h:vG P t xt s x E.H=some (v,H'))(hs:ae E s c)(d:ae E x F):
  ∃u w',(oX #[t,xt] ty #[c,F]).run P E.w=.ok u w'/\e9 E v H' u w':=by
 unfold vG at h;split at h
 case h_2=>cases h
 rename_i e sz c9 k Y n hk M;split at h
 case h_2=>cases h
 rename_i z hz;split at h
 case isFalse=>cases h
 rename_i hc;obtain⟨h1,h2,h3,h4,h5⟩:=hc;cases h;obtain⟨hu,i,hi,N,hby⟩:=kn hk;obtain⟨i',g,A,O,B,U⟩:=qy hz;rw[hi]at A;cases A;simp only[ae]at hs d;subst hs;subst d;obtain⟨m,rfl⟩:∃m:Nat,n=(m:Int):=⟨n.toNat,ab⟩
 obtain⟨C,g1,I⟩:=abj (P:=P) (w:=E.w) (ty:=ty) (bg:=none) (k':=Y) (m:=m) hu (PW M) hi N O h2 ab ab ab;have W:0<g.cells.size:=by
  have:g.cells.size=z.length:=by rw[<-B]; simp
  omega
 have J:(D6 g.cells m).toList=(dz m z).flatten:=by rw[<-B]; exact range_zero g.cells m W
 rw[J]at I;have q:∀r∈dz m (z.map AV.lit),r=z.map AV.lit:=fun r hr=>(O'.1 hr).2;refine⟨_,_,I,?_⟩;simp only[Int.toNat_natCast];refine P9 HE (A9 z m) (fun x d=>U x (A_ d)) (fun r hr=>by rw[q r hr]; simp[h1]) (fun r hr=>by rw[q r hr]; exact J7 z) ai g1 ?_
 grind[size_zeroCells]
def Bb(P:ak)(t:aJ)(n:Nat)(parts:List (Nat × AV))(H:List ay):Option (AV × List ay):=
 match yj P t n parts with
 |some (.list sz rZ)=>some (.vQ sz H.length 0 0 rZ.length,H++[.vQ sz 0 rZ])
 |_=>none
theorem Qt(k:Nat):∀(n:Nat) (out:List AV),out.length=n*k->(chunk k n out).flatten=out
 |0,out,h=>by
  have:out=[]:=rE (by simpa using h);subst this;rfl
 |n+1,out,h=>by
  simp only[chunk,List.flatten_cons];rw[Qt k n (out.drop k) (by rw[te,h,atA]; omega)];simp
theorem Qu(k:Nat):∀(n:Nat) (out:List AV),out.length=n*k->∀ r∈chunk k n out,r.length=k
 |0,_,_,r,hr=>by simp[chunk]at hr
 |n+1,out,h,r,hr=>by
  simp only[chunk]at hr;rw[atA]at h;rcases cy.1 hr with rfl|hr
  grind
  ·exact Qu k n (out.drop k) (by rw[te]; omega) r hr
theorem abl(HE:aO E){parts:List (Nat × AV)}{cparts:List (Nat × al)}(h:Bb P t n parts E.H=some (v,H'))
  (hm:parts.map (·.1)=cparts.map (·.1)) (Y:aq E (parts.map (·.2)) (cparts.map (·.2))) :
  ∃u w',(O9 t n cparts.toArray).run P E.w=.ok u w'/\e9 E v H' u w':=by
 unfold Bb at h;split at h
 case h_2=>cases h
 rename_i A rows0 d;cases h;unfold yj at d;split at d
 case h_2=>cases d
 rename_i e sz c9 hk;obtain⟨hu,i,hi,hs,_⟩:=kn hk;split at d
 case h_2=>cases d
 rename_i z hz;obtain⟨i',q,I,N,J,O⟩:=qy hz;rw[hi]at I;cases I;split at d
 case isFalse=>cases d
 rename_i hc;obtain⟨g1,g2,g3⟩:=hc;split at d
 case h_2=>cases d
 rename_i out M;split at d
 case isFalse=>cases d
 rename_i B;have U:q.cells.size=sz:=by rw[<-g1,<-J]; simp
 obtain⟨g,F⟩:∃g:Array al,g.toList=(dz n z).flatten:=⟨((dz n z).flatten).toArray,ai⟩
 obtain⟨o,f1,f2,f3⟩:=A6 (E:=E) (cs:=g) M (by rw[F]; exact A9 z n) (by rw[F]; intro x hx; exact O x (A_ hx)) hm Y;cases n with
 |zero=>cases d
 |succ n=>
 cases d;refine⟨.slice (some ⟨E.w.heap.size,0,none⟩) (n+1) (n+1),{ E.w with heap:=E.w.heap.push (.cells (o.toList++[]).toArray e) },?_,?_⟩
 ·have W:¬ ((n+1)*i.size>2 ^ 24):=by rw[hs]; omega
  simp only[O9,ft,Sem.cK hu,fL,Sem.run_sizeOf hi];rw[iN W];have d:¬ ((n+1)*i.size=0):=by
   intro h;rcases Nat.mul_eq_zero.1 h with h|h
   ·omega
   ·omega
  rw[iN d];simp only[ft,qz hi N,fL,mS];have:(Array.map (fun x=>q.cells[x%q.cells.size]!) (Array.range ((n+1)*i.size)))=g:=by
   apply jk;rw[hs,<-U,range_zero q.cells (n+1) ab,J,F]
  simp_all[newRow]
 ·rw[A7]
  exact Qd HE (C:=n+1) (by rw[Qt A (n+1) out B.2]; exact f2) f3 (Qu A (n+1) out B.2) (JS A _ out B.1) (A7 ..) (bl _) ai
def kq (r:Nat->List (Option (Option (Nat × Nat)))) (d:Nat) (q:Option (Nat × Nat)):Nat->List (Option (Option (Nat × Nat))):=fun l=>if l=d then r l++[some q] else r l
def jD (r:Nat->List (Option (Option (Nat × Nat)))) (d h:Nat):Nat->List (Option (Option (Nat × Nat))):=fun l=>if l=d then (r l).set h none else r l
def pB (r:Nat->List (Option (Option (Nat × Nat)))) (d:Nat):Nat->List (Option (Option (Nat × Nat))):=fun l=>if l=d then (r l).map fun _=>none else r l
theorem abm{d:Nat}{x:Option (Option (Nat × Nat))}(g:(kq r d q l)[h]?=some x):(r l)[h]?=some x\/(l=d/\h=(r l).length/\x=some q):=by
 unfold kq at g
 grind
theorem Qv{l0:Nat}(d:h<(r l).length):h<(kq r l0 q l).length/\(kq r l0 q l)[h]?=(r l)[h]?:=by
 unfold kq
 grind
theorem abn{A B:Nat}(d:(jD r A B l)[h]?=some (some q)):(r l)[h]?=some (some q)/\¬ (l=A/\h=B):=by
 unfold jD at d;split at d
 ·rw[iQ]at d
  split at d
  ·split at d<;>cases d
  ·rename_i g
   exact⟨d,fun e=>g e.2.symm⟩
 ·rename_i g
  exact⟨d,fun e=>g e.1⟩
theorem J9{d:Nat}(q:¬ (l=d/\h=g)):(jD r d g l)[h]?=(r l)[h]?:=by
 unfold jD;split
 ·rename_i e
  exact dh (fun A=>q ⟨e,A.symm⟩)
 ·rfl
theorem abo{d:Nat}:(jD r d g l).length=(r l).length:=by
 unfold jD;split<;>simp
theorem tK(d:(pB r g l)[h]?=some (some q)):(r l)[h]?=some (some q)/\l≠g:=by
 unfold pB at d;split at d
 ·rw[dw]at d
  cases A:(r l)[h]? with
  |none=>rw[A]at d; cases d
  |some y=>rw[A]at d; cases d
 ·rename_i e
  exact⟨d,e⟩
theorem abp{d:Nat}:(pB r d l).length=(r l).length:=by
 unfold pB;split<;>simp
theorem aO.attach(H:aO E){j d:Nat}{oj:ay}(U:E.H[id]? = some o)(hlab:o.label=some d)(hlab':o'.label=some d)(hver:o'.bt = o.bt)(hj:E.H[j]? = some oj)(hlj:oj.label=none)(hq:E.ad[j]? = some q)
  (ho:E.le { w:=E.w,H:=(E.H.set id o').set j .dead,ad:=E.ad.set j none,X:=E.X.re (kq E.X.r d q) }->bK { w:=E.w,H:=(E.H.set id o').set j .dead,ad:=E.ad.set j none,X:=E.X.re (kq E.X.r d q) } id o') :
  aO { w:=E.w,H:=(E.H.set id o').set j .dead,ad:=E.ad.set j none,X:=E.X.re (kq E.X.r d q) }/\E.le { w:=E.w,H:=(E.H.set id o').set j .dead,ad:=E.ad.set j none,X:=E.X.re (kq E.X.r d q) }:=by
 have hne:j≠id:=fun e=>by rw[e,U]at hj; cases hj; rw[hlab]at hlj; cases hlj
 have hlt:=bA U;have hltj:=bA hj;have loc_old:∀(i:Nat) x,(E.ad.set j none)[i]?=some (some x)->i≠j/\E.ad[i]?=some (some x):=fun i x hi=>by
  rw[iQ]at hi;split at hi
  ·split at hi<;>cases hi
  ·rename_i e
   exact⟨Ne.symm e,hi⟩
 have H_old:∀(i:Nat) x,((E.H.set id o').set j .dead)[i]?=some x->(i=j/\x=.dead)\/(i=id/\x=o')\/(i≠j/\i≠id/\E.H[i]?=some x):=fun i x hi=>by
  by_cases e:i=j
  ·subst e
   rw[dN (by simp; exact hltj)]at hi;cases hi;exact .inl ⟨rfl,rfl⟩
  ·rw[dh (Ne.symm e)]at hi
   by_cases J:i=id
   ·subst J
    rw[dN hlt]at hi;cases hi;exact .inr (.inl ⟨rfl,rfl⟩)
   ·rw[dh (Ne.symm J)]at hi
    exact .inr (.inr ⟨e,J,hi⟩)
 have hid':((E.H.set id o').set j .dead)[id]?=some o':=by
  rw[dh hne,dN hlt]
 have rcase:∀(l h b m:Nat),(kq E.X.r d q l)[h]?=some (some (some (b,m)))->(E.X.r l)[h]?=some (some (some (b,m)))\/(l=d/\h=(E.X.r l).length/\E.ad[j]?=some (some (b,m))):=fun l h b m N=>by
  rcases abm N with g|⟨F,g2,g3⟩
  ·exact .inl g
  ·cases g3
   exact .inr ⟨F,g2,hq⟩
 have hle:E.le { w:=E.w,H:=(E.H.set id o').set j .dead,ad:=E.ad.set j none,X:=E.X.re (kq E.X.r d q) }:=by
  refine⟨fun i ax hp=>?_,bl _,fun _ _ _=>rfl,fun b hb hno=>?_,fun i ax hp A=>?_,⟨rfl,rfl⟩,fun l h hh=>?_,.refl _⟩
  ·obtain⟨x,B,M⟩:=hp
   by_cases e:i=j
   ·subst e
    exact⟨.dead,by simp only[]; rw[dN (by simp; exact hltj)],fun v hv=>by cases hv⟩
   ·by_cases J:i=id
    ·subst J
     rw[U]at B;cases B;exact⟨o',hid',fun v hv=>M v (by rw[<-hver]; exact hv)⟩
    ·exact⟨x,by simp only[]; rw[dh (Ne.symm e),dh (Ne.symm J)]; exact B,M⟩
  ·rintro (⟨i,c,hi⟩ | ⟨l,h,m,hm⟩)
   ·exact hno (.inl ⟨i,c,(loc_old i _ hi).2⟩)
   ·rcases rcase l h b m hm with B | ⟨_,_,B⟩
    ·exact hno (.inr ⟨l,h,m,B⟩)
    ·exact hno (.inl ⟨j,m,B⟩)
  ·obtain⟨x,B,M⟩:=A
   rcases H_old i x B with⟨_,rfl⟩|⟨rfl,rfl⟩|⟨W,J,Y⟩
   ·cases M
   ·exact⟨⟨o,U,by rw[<-hver]; exact M⟩,by simp only[]; rw[dh hne]⟩
   ·exact⟨⟨x,Y,M⟩,by simp only[]; rw[dh (Ne.symm W)]⟩
  ·obtain⟨F,g2⟩:=Qv (r:=E.X.r) (l0:=d) (q:=q) hh
   exact⟨F,fun y O=>by
    have O:(kq E.X.r d q l)[h]?=some (some y):=O
    rwa [g2]at O⟩
 refine⟨⟨by simp[H.len],fun i k b m n hi N=>H.inj i k b m n (loc_old i _ hi).2 (loc_old k _ N).2,fun i b m hi=>H.lt i b m (loc_old i _ hi).2,fun b hb=>H.X b hb,fun i x hi=>?_,H.iD.cQ hle.toC,fun l h l' h' b m n B M=>?_,fun i b m l h n hi N=>?_,fun l h b m N=>?_,fun i k x y l hi N B M=>?_,fun l hn h y O=>?_⟩,hle⟩
 ·rcases H_old i x hi with⟨rfl,rfl⟩ | ⟨rfl,rfl⟩ | ⟨W,J,Y⟩
  ·simp only[bK]
   rw[dN (by rw[H.len]; exact hltj)]
  ·exact ho hle
  ·refine po (fun a _ hr=>dW hle a hr) (by simp only[]; rw[dh (Ne.symm W)]) (fun _ _ _=>rfl) (fun l A=>?_) (H.obj i x Y)
   have hne2:l≠d:=fun e=>J (H.uniq i id x o l Y U A (by rw[hlab,e]));exact⟨iN hne2,fun _ _ _ _=>rfl⟩
 ·rcases rcase l h b m B with F | ⟨F,g2,g3⟩<;>rcases rcase l' h' b n M with I | ⟨I,k2,k3⟩
  ·exact H.iE _ _ _ _ _ _ _ F I
  ·exact(H.eY _ _ _ _ _ _ k3 F).elim
  ·exact(H.eY _ _ _ _ _ _ g3 I).elim
  ·exact⟨by rw[F,I],by rw[g2,k2,F,I]⟩
 ·obtain⟨g0,F⟩:=loc_old i _ hi
  rcases rcase l h b n N with I|⟨I,k2,k3⟩
  ·exact H.eY _ _ _ _ _ _ F I
  ·exact g0 (H.inj _ _ _ _ _ F k3)
 ·rcases rcase l h b m N with I | ⟨I,k2,k3⟩
  ·exact H.dP _ _ _ _ I
  ·exact H.lt _ _ _ k3
 ·have key:∀ (i:Nat) x,((E.H.set id o').set j .dead)[i]?=some x->x.label=some l->∃y,E.H[i]?=some y/\y.label=some l:=by
   intro i x hi A;rcases H_old i x hi with⟨_,rfl⟩|⟨rfl,rfl⟩|⟨W,J,Y⟩
   ·cases A
   ·exact⟨o,U,by rw[hlab,<-hlab',A]⟩
   ·exact⟨x,Y,A⟩
  obtain⟨x',a1,a2⟩:=key i x hi B;obtain⟨y',b1,b2⟩:=key k y N M;exact H.uniq i k x' y' l a1 b1 a2 b2
 ·have hne2:l≠d:=fun e=>hn id o' hid' (by rw[hlab',e])
  have O:(kq E.X.r d q l)[h]?=some (some y):=O;unfold kq at O;rw[iN hne2]at O;refine H.kM l (fun i x hi A=>?_) h y O;by_cases e:i=id
  ·subst e
   rw[U]at hi;cases hi;exact hne2 (by rw[hlab]at A; cases A; rfl)
  ·by_cases W:i=j
   ·subst W
    rw[hj]at hi;cases hi;rw[hlj]at A;cases A
   ·exact hn i x (by show ((E.H.set id o').set j .dead)[i]?=_; rw[dh (Ne.symm W),dh (Ne.symm e)]; exact hi) A
theorem aO.J_(H:aO E){l0 h0:Nat}{ov:ay}(N:E.H[id]? = some o)(hlab:o.label=some l0)(hlab':o'.label=some l0)(hver:o'.bt = o.bt)(hlv:ov.label=none) (W:∀ b m,q=some (b,m)->(E.X.r l0)[h0]? = some (some (some (b,m))))
  (ho:E.le { w:=E.w,H:=E.H.set id o'++[ov],ad:=E.ad++[q],X:=E.X.re (jD E.X.r l0 h0) }->bK { w:=E.w,H:=E.H.set id o'++[ov],ad:=E.ad++[q],X:=E.X.re (jD E.X.r l0 h0) } id o'/\bK { w:=E.w,H:=E.H.set id o'++[ov],ad:=E.ad++[q],X:=E.X.re (jD E.X.r l0 h0) } E.H.length ov) :
  aO { w:=E.w,H:=E.H.set id o'++[ov],ad:=E.ad++[q],X:=E.X.re (jD E.X.r l0 h0) }/\E.le { w:=E.w,H:=E.H.set id o'++[ov],ad:=E.ad++[q],X:=E.X.re (jD E.X.r l0 h0) }:=by
 have hlt:=bA N;have O:∀(i:Nat) x,(E.ad++[q])[i]?=some x->E.ad[i]?=some x\/(i=E.ad.length/\x=q):=fun i x hi=>by
  rw[lN]at hi;split at hi
  ·exact .inl hi
  ·right
   cases d:i-E.ad.length with
   |zero=>rw[d]at hi; simp at hi; exact⟨ab,hi.symm⟩
   |succ n=>rw[d]at hi; simp at hi
 have H_old:∀(i:Nat) x,(E.H.set id o'++[ov])[i]?=some x->(i=E.H.length/\x=ov)\/(i=id/\x=o')\/(i≠id/\E.H[i]?=some x):=fun i x hi=>by
  rw[lN]at hi;split at hi
  ·by_cases F:i=id
   ·subst F
    rw[dN hlt]at hi;cases hi;exact .inr (.inl ⟨rfl,rfl⟩)
   ·rw[dh (Ne.symm F)]at hi
    exact .inr (.inr ⟨F,hi⟩)
  ·left
   cases d:i-(E.H.set id o').length with
   |zero=>rw[d]at hi; simp at hi; simp at d; rename_i g; simp at g; exact⟨ab,hi.symm⟩
   |succ n=>rw[d]at hi; simp at hi
 have hid':(E.H.set id o'++[ov])[id]?=some o':=by
  rw[fB (by simp; exact hlt),dN hlt]
 have J:∀(l h:Nat) y,(jD E.X.r l0 h0 l)[h]?=some (some y)->(E.X.r l)[h]?=some (some y)/\¬ (l=l0/\h=h0):=fun l h y d=>abn d;have U:E.le { w:=E.w,H:=E.H.set id o'++[ov],ad:=E.ad++[q],X:=E.X.re (jD E.X.r l0 h0) }:=by
  refine⟨fun i ax hp=>?_,bl _,fun _ _ _=>rfl,fun b hb hno=>?_,fun i ax hp A=>?_,⟨rfl,rfl⟩,fun l h hh=>?_,.refl _⟩
  ·obtain⟨x,g,I⟩:=hp
   by_cases F:i=id
   ·subst F
    rw[N]at g;cases g;exact⟨o',hid',fun v hv=>I v (by rw[<-hver]; exact hv)⟩
   ·exact⟨x,by simp only[]; rw[fB (by simp; exact bA g),dh (Ne.symm F)]; exact g,I⟩
  ·rintro (⟨i,c,hi⟩ | ⟨l,h,m,hm⟩)
   ·rcases O i _ hi with g | ⟨_,g⟩
    ·exact hno (.inl ⟨i,c,g⟩)
    ·exact hno (.inr ⟨l0,h0,c,W b c g.symm⟩)
   ·exact hno (.inr ⟨l,h,m,(J l h _ hm).1⟩)
  ·obtain⟨x0,B,_⟩:=hp
   have hii:=bA B;obtain⟨x,g,I⟩:=A;have hloc:(E.ad++[q])[i]?=E.ad[i]?:=fB (by rw[H.len]; exact hii);rcases H_old i x g with⟨e,rfl⟩|⟨rfl,rfl⟩|⟨F,M⟩
   ·omega
   ·exact⟨⟨o,N,by rw[<-hver]; exact I⟩,hloc⟩
   ·exact⟨⟨x,M,I⟩,hloc⟩
  ·refine⟨?_,fun y hy=>(J l h y hy).1⟩
   show h<(jD E.X.r l0 h0 l).length
   rw[abo];exact hh
 refine⟨⟨by simp[H.len],fun i k b m n hi d=>?_,fun i b m hi=>?_,fun b hb=>H.X b hb,fun i x hi=>?_,H.iD.cQ U.toC,fun l h l' h' b m n g I=>H.iE _ _ _ _ _ _ _ (J l h _ g).1 (J l' h' _ I).1,fun i b m l h n hi d=>?_,fun l h b m d=>H.dP _ _ _ _ (J l h _ d).1,fun i k x y l hi d g I=>?_,fun l hn h y hy=>?_⟩,U⟩
 ·rcases O i _ hi with B | ⟨B,Y⟩<;>rcases O k _ d with k1 | ⟨k1,k2⟩
  ·exact H.inj _ _ _ _ _ B k1
  ·exact(H.eY _ _ _ _ _ _ B (W b n k2.symm)).elim
  ·exact(H.eY _ _ _ _ _ _ k1 (W b m Y.symm)).elim
  ·omega
 ·rcases O i _ hi with B | ⟨B,Y⟩
  ·exact H.lt _ _ _ B
  ·exact H.dP _ _ _ _ (W b m Y.symm)
 ·rcases H_old i x hi with⟨rfl,rfl⟩ | ⟨rfl,rfl⟩ | ⟨F,M⟩
  ·exact(ho U).2
  ·exact(ho U).1
  ·refine po (fun a _ hr=>dW U a hr) (by simp only[]; rw[fB (by rw[H.len]; exact bA M)]) (fun _ _ _=>rfl) (fun l A=>?_) (H.obj i x M)
   have hne2:l≠l0:=fun e=>F (H.uniq i id x o l M N A (by rw[hlab,e]));exact⟨iN hne2,fun _ _ _ _=>rfl⟩
 ·obtain⟨r1,r2⟩:=J l h _ d
  rcases O i _ hi with B|⟨B,Y⟩
  ·exact H.eY _ _ _ _ _ _ B r1
  ·exact r2 (H.iE _ _ _ _ _ _ _ r1 (W b m Y.symm))
 ·have key:∀ (i:Nat) x,(E.H.set id o'++[ov])[i]?=some x->x.label=some l->∃y,E.H[i]?=some y/\y.label=some l:=by
   intro i x hi A;rcases H_old i x hi with⟨_,rfl⟩|⟨rfl,rfl⟩|⟨F,M⟩
   ·rw[hlv]at A; cases A
   ·exact⟨o,N,by rw[hlab,<-hlab',A]⟩
   ·exact⟨x,M,A⟩
  obtain⟨x',a1,a2⟩:=key i x hi g;obtain⟨y',b1,b2⟩:=key k y d I;exact H.uniq i k x' y' l a1 b1 a2 b2
 ·refine H.kM l (fun i x hi A=>?_) h y (J l h y hy).1
  by_cases e:i=id
  ·subst e
   rw[N]at hi;cases hi;exact hn i o' hid' (by rw[hlab',<-hlab,A])
  ·exact hn i x (by show (E.H.set id o'++[ov])[i]?=_; rw[fB (by simp; exact bA hi),dh (Ne.symm e)]; exact hi) A
theorem aO.abq(H:aO E){B:Nat}(I:E.H[id]? = some o)(hlab:o.label=some B)(hlab':o'.label=none)(U:o'.bt = o.bt)
  (ho:E.le { w:=E.w,H:=E.H.set id o',ad:=E.ad,X:=E.X.re (pB E.X.r B) }->bK { w:=E.w,H:=E.H.set id o',ad:=E.ad,X:=E.X.re (pB E.X.r B) } id o') :
  aO { w:=E.w,H:=E.H.set id o',ad:=E.ad,X:=E.X.re (pB E.X.r B) }/\E.le { w:=E.w,H:=E.H.set id o',ad:=E.ad,X:=E.X.re (pB E.X.r B) }:=by
 have W:=bA I;have N:∀(i:Nat) x,(E.H.set id o')[i]?=some x->(i=id/\x=o')\/(i≠id/\E.H[i]?=some x):=fun i x hi=>by
  by_cases d:i=id
  ·subst d
   rw[dN W]at hi;cases hi;exact .inl ⟨rfl,rfl⟩
  ·rw[dh (Ne.symm d)]at hi
   exact .inr ⟨d,hi⟩
 have M:E.le { w:=E.w,H:=E.H.set id o',ad:=E.ad,X:=E.X.re (pB E.X.r B) }:=by
  refine⟨fun i ax hp=>?_,bl _,fun _ _ _=>rfl,fun b hb Y=>?_,fun i ax hp g=>?_,⟨rfl,rfl⟩,fun l h hh=>?_,.refl _⟩
  ·obtain⟨x,q,A⟩:=hp
   by_cases d:i=id
   ·subst d
    rw[I]at q;cases q;exact⟨o',by simp only[]; rw[dN W],fun v hv=>A v (by rw[<-U]; exact hv)⟩
   ·exact⟨x,by simp only[]; rw[dh (Ne.symm d)]; exact q,A⟩
  ·rintro (⟨i,c,hi⟩ | ⟨l,h,m,hm⟩)
   ·exact Y (.inl ⟨i,c,hi⟩)
   ·exact Y (.inr ⟨l,h,m,(tK hm).1⟩)
  ·obtain⟨x,q,A⟩:=g
   rcases N i x q with⟨rfl,rfl⟩|⟨d,F⟩
   ·exact⟨⟨o,I,by rw[<-U]; exact A⟩,rfl⟩
   ·exact⟨⟨x,F,A⟩,rfl⟩
  ·refine⟨?_,fun y O=>(tK O).1⟩
   show h<(pB E.X.r B l).length
   rw[abp];exact hh
 refine⟨⟨by simp[H.len],H.inj,H.lt,H.X,fun i x hi=>?_,H.iD.cQ M.toC,fun l h l' h' b m n q A=>H.iE _ _ _ _ _ _ _ (tK q).1 (tK A).1,fun i b m l h n hi J=>H.eY _ _ _ _ _ _ hi (tK J).1,fun l h b m J=>H.dP _ _ _ _ (tK J).1,fun i k x y l hi J q A=>?_,fun l hn h y O=>?_⟩,M⟩
 ·rcases N i x hi with⟨rfl,rfl⟩ | ⟨d,F⟩
  ·exact ho M
  ·refine po (fun a _ hr=>dW M a hr) rfl (fun _ _ _=>rfl) (fun l g=>?_) (H.obj i x F)
   have hne2:l≠B:=fun e=>d (H.uniq i id x o l F I g (by rw[hlab,e]));exact⟨iN hne2,fun _ _ _ _=>rfl⟩
 ·have key:∀ (i:Nat) x,(E.H.set id o')[i]?=some x->x.label=some l->E.H[i]?=some x:=by
   intro i x hi g;rcases N i x hi with⟨rfl,rfl⟩|⟨d,F⟩
   ·rw[hlab']at g; cases g
   ·exact F
  exact H.uniq i k x y l (key i x hi q) (key k y J A) q A
 ·obtain⟨g1,g2⟩:=tK O
  refine H.kM l (fun i x hi g=>?_) h y g1;by_cases e:i=id
  ·subst e
   rw[I]at hi;cases hi;exact g2 (by rw[hlab]at g; cases g; rfl)
  ·exact hn i x (by show (E.H.set id o')[i]?=_; rw[dh (Ne.symm e)]; exact hi) g
theorem EO(HE:aO E){g:List (AV × Option (List (List AV)) × Nat)}(q:E.H[id]? = some (.bI l w g cl))(hr:ae E (.map id) c):
  ∃b n d,c=.map (some b)/\E.ad[id]?=some (some (b,n))/\E.w.heap[b]?=some (.map d cl)/\di E (eu g) d.toList/\lU E l w g d.toList:=by
 have A:=HE.obj id _ q;simp only[bK]at A;obtain⟨b,n,d,F,I,J,M⟩:=A;simp only[ae]at hr;obtain⟨_,_,B⟩:=hr;obtain⟨N,O,U,W⟩:=B ⟨_,q,rfl⟩
 grind
theorem EP{d:List (AV × Option (List (List AV)) × Nat)}{x:AV × Option (List (List AV)) × Nat}(h:d[i]?=some x):(eu d)[i]?=some (x.1,.undef,x.2.2):=by
 unfold eu;rw[dw,h];rfl
def ER(P:ak)(t:aJ):Option Nat:=match cZ P t with
 |.slice _ w _=>some w
 |_=>none
def tL (d:List (AV × Option (List (List AV)) × Nat)) (i:Nat):Option (AV × List (List AV) × Nat):=match d[i]? with
 |some (key,some rZ,n)=>some (key,rZ,n)
 |_=>none
def Bc(P:ak)(t:aJ)(m k:AV)(H:List ay):Option (AV × List ay):=
 match iF P t,m with
 |some (g,q),.map id=>match H[id]? with
  |some (.bI l w d cl)=>match nR P g k,ER P q,nT P q with
   |some A,some w',some (.lit (.slice none 0 0))=>match Nat.beq w' w with
    |true=>match jr P g A (eu d) 0 with
     |some (some (i,_))=>match tL d i with
      |some (key,rZ,n)=>some (.vQ w H.length 0 0 rZ.length,H.set id (.bI l w (d.set i (key,none,n)) cl)++[.vQ w 0 rZ])
      |none=>none
     |some none=>some (.vQ w H.length 0 0 0,H.set id (.bI l w d cl)++[.vQ w 0 []])
     |none=>none
    |false=>none
   |_,_,_=>none
  |_=>none
 |_,_=>none
theorem abr{g:List (AV × Option (List (List AV)) × Nat)}{B:List MapEntry}{x:AV × Option (List (List AV)) × Nat}(J:x.2.1=none)(h:lU E l w g B):lU E l w (g.set i x) B:=by
 obtain⟨hs,M,N⟩:=h;have q:∀(j:Nat) y,(g.set i x)[j]?=some y->y.2.1.isSome=true->g[j]?=some y/\j≠i:=fun j y d A=>by
  rw[iQ]at d;split at d
  ·split at d
   ·cases d
    rw[J]at A;cases A
   ·cases d
  ·rename_i I
   exact⟨d,Ne.symm I⟩
 refine⟨hs,fun a b y z d O F sz he=>M a b y z (q a y d F).1 (q b z O sz).1 F sz he,fun a y rZ e d hr he=>N a y rZ e (q a y d (by rw[hr]; rfl)).1 hr he⟩
theorem J'{d:List (AV × Option (List (List AV)) × Nat)}{g:List MapEntry}{x y:AV × Option (List (List AV)) × Nat}(hi:d[i]?=some x)(q:y.1=x.1)(A:y.2.2=x.2.2)(h:di E (eu d) g):di E (eu (d.set i y)) g:=by
 have e:eu (d.set i y)=eu d:=by
  apply ql;intro j;unfold eu;rw[dw,dw,iQ];split
  grind
  ·rfl
 grind
theorem abt(HE:aO E)(h:Bc P t m k E.H=some (v,H'))(hm:ae E m c)(hk:ae E k d):
  ∃u w',(D_ t c d false).run P E.w=.ok u w'/\e9 E v H' u w':=by
 unfold Bc at h;split at h
 case h_2=>cases h
 rename_i kt et id ht;split at h
 case h_2=>cases h
 rename_i l w J cl hid;split at h
 case h_2=>cases h
 rename_i kv w' hkv hw' hz;split at h
 case h_2=>cases h
 rename_i hww;have hww:=Nat.eq_of_beq_eq_true hww;clear hw' hww;obtain⟨b,n,ms,rfl,h1,h2,h3,h4⟩:=EO HE hid hm;have hkv':=pv hkv hk;have e1:(getObj b).run P E.w=.ok (.map ms cl) E.w:=by simp[getObj,oY,h2]
 have hlenH:E.H.length=E.ad.length:=HE.len.symm;split at h
 ·rename_i i v0 hf
  split at h
  case h_2=>cases h
  rename_i key rZ bn hat;cases h;have hes:J[i]?=some (key,some rZ,bn):=by
   unfold tL at hat;split at hat
   ·rename_i a1 a2 a3 he
    cases hat;exact he
   ·cases hat
  obtain⟨r',g1,g2⟩:=pz hkv' E.w h3 hf;cases r' with
  |none=>simp[gL]at g2
  |some q=>
   simp only[gL]at g2;obtain⟨q1,q2,_,e',q4,q5⟩:=g2;simp only[mT]at q4;have hval:q.2=e'.val:=q5.symm;obtain⟨hs,k1,k2⟩:=h4;have hsl:=k2 i _ rZ e' hes rfl q4;obtain⟨F,U,z1,z2,z3⟩:∃(F:Option (Nat × Nat)) (U:Nat),(∀b m,F=some (b,m)->(E.X.r l)[U]?=some (some (some (b,m)))) /\
     (∀j y,J[j]?=some y->y.2.1.isSome=true->j≠i->∀b m,(E.X.r l)[hs j]?=some (some (some (b,m)))->hs j≠U) /\
     ((F=none/\rZ=[]/\∃bg,e'.val=.slice bg 0 0)\/∃b m,F=some (b,m)/\e'.val=.slice (some ⟨b,0,none⟩) rZ.length m/\isRow E.w b (m*w)/\rZ.length<=m/\iC rZ/\er E w rZ b 0):=by
    rcases hsl with⟨s1,s2⟩|⟨M,mm,s1,s2,s3,N,W,Y⟩
    ·exact⟨none,(E.X.r l).length,fun _ _ e=>(by cases e),fun j y _ _ _ b m hb e=>(by rw[e]at hb; have:=bA hb; omega),.inl ⟨rfl,s1,s2⟩⟩
    ·exact⟨some (M,mm),hs i,fun _ _ e=>(by cases e; exact s1),fun j y B hsy hne _ _ _ e=>hne (k1 j i _ _ B hes hsy rfl e),.inr ⟨M,mm,rfl,s2,s3,N,W,Y⟩⟩
   obtain⟨r1,r2⟩:=aO.J_ HE (id:=id) (l0:=l) (h0:=U) (o':=.bI l w (J.set i (key,none,bn)) cl) (ov:=.vQ w 0 rZ) (q:=F) hid rfl rfl rfl rfl z1 fun O=>by
    refine⟨?_,?_⟩
    ·simp only[bK]
     refine⟨b,n,ms,?_,h2,?_,?_⟩
     ·rw[fB (bA h1)]
      exact h1
     ·exact qw (fun a _ hr=>dW O a hr) (J' hes rfl rfl h3)
     ·obtain⟨_,k3,k4⟩:=abr (i:=i) (x:=(key,none,bn)) rfl (show lU E l w J ms.toList from ⟨hs,k1,k2⟩)
      refine⟨hs,fun a b' y z B hz sy sz he=>?_,fun a y rws e B hr he=>?_⟩
      all_goals
       have old:∀(j:Nat) y,(J.set i (key,none,bn))[j]?=some y->y.2.1.isSome=true->J[j]?=some y/\j≠i:=fun j y B hsm=>by
        rw[iQ]at B;split at B
        ·split at B
         ·cases B
          cases hsm
         ·cases B
        ·rename_i hne
         exact⟨B,Ne.symm hne⟩
      ·exact k1 a b' y z (old a y B sy).1 (old b' z hz sz).1 sy sz he
      ·obtain⟨o1,o2⟩:=old a y B (by rw[hr]; rfl)
       rcases k2 a y rws e o1 hr he with I|⟨M,mm,s1,s2,s3,N,W,Y⟩
       ·exact .inl I
       ·refine .inr ⟨M,mm,?_,s2,s3,N,W,pn (fun a _ hr=>dW O a hr) rfl Y⟩
        have hne:=z2 a y o1 (by rw[hr]; rfl) o2 M mm s1;show (jD E.X.r l U l)[hs a]?=_
        rw[J9 fun e=>hne e.2];exact s1
    ·simp only[bK]
     have I:(E.ad++[F])[E.H.length]?=some F:=by rw[hlenH]; simp
     rcases z3 with⟨rfl,s1,_⟩|⟨M,mm,rfl,_,s3,N,W,Y⟩
     ·exact .inl ⟨I,s1⟩
     ·exact .inr ⟨M,mm,I,s3,N,W,pn (fun a _ hr=>dW O a hr) rfl Y⟩
   refine⟨q.2,E.w,?_,E.ad++[F],jD E.X.r l U,?_,r1,r2⟩
   ·simp only[D_,ft,Sem.cK (lu ht),fL,e1,mS,nS hkv',g1]
    rfl
   ·have hnew:(E.H.set id (.bI l w (J.set i (key,none,bn)) cl)++[.vQ w 0 rZ])[E.H.length]?=some (.vQ w 0 rZ):=by
     rw[ml ai];simp
    have I:(E.ad++[F])[E.H.length]?=some F:=by rw[hlenH]; simp
    rw[hval];simp only[ae];rcases z3 with⟨rfl,s1,bg,s2⟩|⟨M,mm,rfl,s2,s3,N,W,Y⟩
    ·subst s1
     refine⟨⟨bg,0,by rw[s2]; rfl,bl _,fun h=>by simp at h⟩,⟨_,hnew,fun v hv=>by cases hv; exact bl _⟩,fun _=>⟨fun _=>⟨by first|rfl|trivial,by first|rfl|trivial,bg,s2⟩,fun b' m' A=>?_⟩⟩;rw[I]at A;cases A
    ·refine⟨⟨_,mm,s2,N,fun _=>⟨M,0,rfl⟩⟩,⟨_,hnew,fun v hv=>by cases hv; exact bl _⟩,fun _=>⟨fun A=>?_,fun b' m' A=>?_⟩⟩
     ·rw[I]at A
      cases A
     ·rw[I]at A
      cases A;exact⟨ab,0,fun _=>by simp,by rw[s2,mT]⟩
 ·rename_i hf
  cases h;obtain⟨r',g1,g2⟩:=pz hkv' E.w h3 hf;cases r' with
  |some _=>simp[gL]at g2
  |none=>
   obtain⟨zv,z1,z2⟩:=EL hz E.w;have hzv:zv=.slice none 0 0:=by have:=z2 E; simpa[ae]using this
   obtain⟨r1,r2⟩:=aO.J_ HE (id:=id) (l0:=l) (h0:=(E.X.r l).length) (o':=.bI l w J cl) (ov:=.vQ w 0 []) (q:=none) hid rfl rfl rfl rfl (fun _ _ e=>by cases e) fun O=>by
    refine⟨?_,?_⟩
    ·simp only[bK]
     refine⟨b,n,ms,?_,h2,qw (fun a _ hr=>dW O a hr) h3,A1 (E:=E) (fun h g m hk=>⟨?_,rfl⟩) (fun _ _ _ _ _ b' A _ hr=>pn (fun a _ hr=>dW O a hr) A hr) h4⟩
     ·rw[fB (bA h1)]
      exact h1
     ·show (jD E.X.r l (E.X.r l).length l)[h]?=_
      rw[J9 fun e=>by rw[e.2]at hk; have:=bA hk; omega];exact hk
    ·simp only[bK]
     exact .inl ⟨by rw[hlenH]; simp,by first|rfl|trivial⟩
   refine⟨zv,E.w,?_,E.ad++[none],jD E.X.r l (E.X.r l).length,?_,r1,r2⟩
   ·simp only[D_,ft,Sem.cK (lu ht),fL,e1,mS,nS hkv',g1,z1]
    rfl
   ·have hnew:(E.H.set id (.bI l w J cl)++[.vQ w 0 []])[E.H.length]?=some (.vQ w 0 []):=by
     rw[ml ai];simp
    have I:(E.ad++[(none:Option (Nat × Nat))])[E.H.length]?=some none:=by rw[hlenH]; simp
    rw[hzv];simp only[ae];refine⟨⟨none,0,rfl,bl _,fun h=>by simp at h⟩,⟨_,hnew,fun v hv=>by cases hv; exact bl _⟩,fun _=>⟨fun _=>⟨by first|rfl|trivial,by first|rfl|trivial,none,rfl⟩,fun b' m' A=>?_⟩⟩;rw[I]at A;cases A
 ·cases h
theorem Ka{d:List (AV × Option (List (List AV)) × Nat)}{x:AV × Option (List (List AV)) × Nat}{f:AV × Option (List (List AV)) × Nat->AV × Option (List (List AV)) × Nat}(h:d[i]?=some x):d.modify i f=d.set i (f x):=by
 apply ql
 grind
def Bd(P:ak)(t:aJ)(m k v:AV)(H:List ay):Option (List ay):=
 match iF P t,m,v with
 |some (g,_),.map id,.vQ w j ax oF n=>match H[id]?,H[j]? with
  |some (.bI l w' d cl),some (.vQ A q rZ)=>match nR P g k with
   |some B=>if (w=w'/\w=A)/\(ax=q/\oF=0)/\n=rZ.length/\k.closed=true then
     match jr P g B (eu d) 0 with
     |some (some (i,_))=>some ((H.set id (.bI l w' (d.modify i fun e=>(k,some rZ,e.2.2)) cl)).set j .dead)
     |some none=>some ((H.set id (.bI l w' (d++[(k,some rZ,cl)]) (cl+1))).set j .dead)
     |none=>none
    else none
   |none=>none
  |_,_=>none
 |_,_,_=>none
theorem Be(HE:aO E){cl':Nat}{Y q:List (AV × Option (List (List AV)) × Nat)}{ms d:Array MapEntry}(J:E.H[id]? = some (.bI l w Y cl)) (A:E.ad[id]? = some (some (b,n)))
  (hb:E.w.heap[b]?=some (.map ms cl)) (hr:di E (eu q) d.toList) (M:lU E l w q d.toList) :
  ∃w',(setObj b (.map d cl')).run P E.w=.ok () w'/\aO { w:=w',H:=E.H.set id (.bI l w q cl'),ad:=E.ad,X:=E.X }/\E.le { w:=w',H:=E.H.set id (.bI l w q cl'),ad:=E.ad,X:=E.X } /\
   w'.heap[b]?=some (.map d cl')/\∀y,y≠b->w'.heap[y]?=E.w.heap[y]?:=by
 have N:=(HE.lt id b n A).1;have O:({ E.w with heap:=E.w.heap.setIfInBounds b (.map d cl') }:be).heap.size=E.w.heap.size:=ai;have B:∀y,y≠b->({ E.w with heap:=E.w.heap.setIfInBounds b (.map d cl') }:be).heap[y]?=E.w.heap[y]?:=by
  intro y hy;simp only[ZY]
  grind
 have key:=aO.JB (E:=E) (w':={ E.w with heap:=E.w.heap.setIfInBounds b (.map d cl') }) (o':=.bI l w q cl') (r':=E.X.r) HE J rfl rfl rfl (by rw[O]; exact bl _) (fun x _ U _=>B x fun e=>U n (by rw[e]; exact A)) (fun _ _=>rfl) (fun _ _ _ h=>.inl h) (fun h hh=>⟨hh,fun _ hq=>hq⟩) (fun F=>by
  simp only[bK];refine⟨b,n,d,A,by simp[N],qw (fun a _ hr=>dW F a hr) hr,A1 (E:=E) (fun h g m I=>⟨I,B g fun e=>HE.eY _ _ _ _ _ _ A (by rw[<-e]; exact I)⟩) (fun _ _ _ _ _ b' W _ hr=>pn (fun a _ hr=>dW F a hr) W hr) M⟩) ⟨rfl,rfl,rfl,by first|exact fun _=>bl _|exact fun _=>gk _ _⟩
 grind[XS.aaw,setObj,oY]
theorem Kb(HE:aO E){j ax:Nat}{d:List (AV × Option (List (List AV)) × Nat)}{key:AV}{bn:Nat}{I:Array MapEntry}{e:MapEntry}(hid:E.H[id]? = some (.bI l w d cl))(J:E.H[j]? = some (.vQ w ax rZ))
  (hi:d[i]?=some (key,none,bn)) (hloc:E.ad[id]?=some (some (b,n))) (hb:E.w.heap[b]?=some (.map I cl)) (he:I.toList[i]?=some e) (hr:di E (eu d) I.toList) (hsl:lU E l w d I.toList) (hv:ae E (.vQ w j ax 0 rZ.length) e.val) :
  ∃loc' r',aO { w:=E.w,H:=(E.H.set id (.bI l w (d.set i (key,some rZ,bn)) cl)).set j .dead,ad:=loc',X:=E.X.re r' }/\E.le { w:=E.w,H:=(E.H.set id (.bI l w (d.set i (key,some rZ,bn)) cl)).set j .dead,ad:=loc',X:=E.X.re r' }:=by
 have hne:j≠id:=fun e=>by rw[e,hid]at J; cases J
 have N:=HE.obj j _ J;simp only[ae]at hv;obtain⟨_,_,v3⟩:=hv;obtain⟨v4,v5⟩:=v3 ⟨_,J,rfl⟩;simp only[bK]at N;obtain⟨q,hq⟩:∃q,E.ad[j]?=some q:=by
  rcases N with⟨g,_⟩|⟨W,m',g,_⟩
  ·exact⟨_,g⟩
  ·exact⟨_,g⟩
 obtain⟨hs,k1,k2⟩:=hsl;have htl:∀h,h<(E.X.r l).length->(kq E.X.r l q l)[h]?=(E.X.r l)[h]?:=fun h B=>(Qv B).2;have hnew:(kq E.X.r l q l)[(E.X.r l).length]?=some (some q):=by
  unfold kq;rw[iP rfl];simp
 obtain⟨r1,r2⟩:=aO.attach HE (id:=id) (j:=j) (o':=.bI l w (d.set i (key,some rZ,bn)) cl) (q:=q) hid rfl rfl rfl J rfl hq fun O=>by
  simp only[bK];refine⟨b,n,I,?_,hb,qw (fun a _ hr=>dW O a hr) (J' hi rfl rfl hr),?_⟩
  grind
  ·-- handles: the M ones,but at i the new one; empty ones take none
   have M:∀(a:Nat) y,(d.set i (key,some rZ,bn))[a]?=some y->a≠i->d[a]?=some y:=fun a y A hne=>by
    rwa [dh (Ne.symm hne)]at A
   have at_i:∀y,(d.set i (key,some rZ,bn))[i]?=some y->y=(key,some rZ,bn):=fun y A=>by
    rw[dN (bA hi)]at A;cases A;rfl
   refine⟨fun a=>if a=i then (E.X.r l).length else if hs a<(E.X.r l).length then hs a else (E.X.r l).length+1+hs a,fun a c y z A hz sy sz B=>?_,fun a y rws e' A hr' U=>?_⟩
   ·by_cases F:a=i
    grind
    ·by_cases ec:c=i
     grind
     ·simp only[iN F,iN ec]at B
      refine k1 a c y z (M a y A F) (M c z hz ec) sy sz ?_;split at B<;>split at B<;>omega
   ·by_cases F:a=i
    ·subst F
     have:=at_i y A;subst this;cases hr';rw[he]at U;cases U;rcases N with⟨g,Y⟩|⟨W,m',g,Y,h3,h4,h5⟩
     ·obtain⟨_,_,bg,h3⟩:=v4 g
      subst Y;exact .inl ⟨rfl,bg,h3⟩
     ·obtain⟨h6,o,h7,h8⟩:=v5 W m' g
      rw[hq]at g;cases g;simp only[Nat.zero_add,AM,mT]at h6 h7 h8;by_cases hm:0<m'
      ·have:=h7 hm
       subst this;refine .inr ⟨W,m',?_,h8,Y,h3,h4,pn (fun a _ hr=>dW O a hr) rfl h5⟩;simp only[if_true];exact hnew
      ·have hr0:rZ=[]:=rE ab
       have hm0:m'=0:=ab;subst hr0;subst hm0;exact .inl ⟨rfl,_,h8⟩
    ·rcases k2 a y rws e' (M a y A F) hr' U with hl | ⟨bb,mm,s1,s2,s3,s4,s5,s6⟩
     ·exact .inl hl
     ·refine .inr ⟨bb,mm,?_,s2,s3,s4,s5,pn (fun a _ hr=>dW O a hr) rfl s6⟩
      have B:=bA s1;simp only[iN F,iP B];show (kq E.X.r l q l)[hs a]?=_
      grind
 grind
theorem abu(HE:aO E)(h:Bd P t m k v E.H=some H')(hm:ae E m c)(hk:ae E k d)(hv:ae E v u):
  ∃w',(xN t c d u).run P E.w=.ok () w'/\∀x,e9 E .undef H' x w':=by
 unfold Bd at h;split at h
 case h_2=>cases h
 rename_i kt et id w j ax oF n ht;split at h
 case h_2=>cases h
 rename_i l w' A cl w2 ver' rZ N hj;split at h
 case h_2=>cases h
 rename_i kv hkv;split at h
 case isFalse=>cases h
 rename_i hc;obtain⟨⟨rfl,rfl⟩,⟨rfl,rfl⟩,rfl,hcl⟩:=hc;obtain⟨b,n,J,rfl,O,h2,h3,h4⟩:=EO HE N hm;have hne:j≠id:=fun e=>by rw[e,N]at hj; cases hj
 have W:=pv hkv hk;have e1:(getObj b).run P E.w=.ok (.map J cl) E.w:=by simp[getObj,oY,h2]
 obtain⟨hlen,hall⟩:=iG.1 h3;rw[Jz]at hlen;split at h
 ·rename_i i v0 hf
  cases h;obtain⟨M,g1,g2⟩:=pz W E.w h3 hf;cases M with
  |none=>simp[gL]at g2
  |some q=>
   simp only[gL]at g2;obtain⟨q1,q2,_,e',U,q5⟩:=g2;obtain⟨_,x,y,f1,f2,f3⟩:=EN hf;simp only[mT]at U f1;obtain⟨a1,a2,a3,a4,a5⟩:=hall i x e' f1 U;obtain⟨s1,s2⟩:=J8 W (pv f2 a1) f3;have q4':J[i]?=some e':=by simpa using U
   have hlt:i<A.length:=by have:=bA U; omega
   obtain⟨F,hx0⟩:∃F,A[i]?=some F:=⟨A[i],bT hlt⟩
   have hx:x=(F.1,.undef,F.2.2):=by rw[EP hx0]at f1; cases f1; rfl
   have hkk:(k,(none:Option (List (List AV))),F.2.2)=(k,none,F.2.2):=rfl;have hre:di E (eu (A.set i (k,none,F.2.2))) (J.modify i fun e=>{ e with key:=d,val:=u }).toList:=by
    rw[iG];refine⟨by simp[eu,hlen],fun a y z g B=>?_⟩;simp only[tg,rG]at B;obtain⟨z0,hz0,rfl⟩:=jA.1 B;unfold eu at g;rw[dw,iQ]at g;by_cases e:i=a
    ·subst e
     rw[iP rfl,iP hlt]at g;cases g;rw[U]at hz0;cases hz0;simp only[if_true];refine⟨hk,by simp[ae],?_,hcl,rfl⟩;rw[a3,hx]
    ·rw[iN e]at g
     obtain⟨b1,b2,b3,b4,b5⟩:=hall a y z0 (by unfold eu; rw[dw]; exact g) hz0;simp only[iN e];exact⟨b1,b2,b3,b4,b5⟩
   have hsl2:lU E l w (A.set i (k,none,F.2.2)) (J.modify i fun e=>{ e with key:=d,val:=u }).toList:=by
    obtain⟨hs,k1,k2⟩:=h4;have I:∀(a:Nat) y,(A.set i (k,none,F.2.2))[a]?=some y->y.2.1.isSome=true->A[a]?=some y/\a≠i:=fun a y g hsm=>by
     by_cases ei:i=a
     ·subst ei
      rw[dN hlt]at g;cases g;cases hsm
     ·rw[dh ei]at g
      exact⟨g,Ne.symm ei⟩
    refine⟨hs,fun a c y z g B sy sz he=>k1 a c y z (I a y g sy).1 (I c z B sz).1 sy sz he,fun a y rws e g hr he=>?_⟩;obtain⟨o1,o2⟩:=I a y g (by rw[hr]; rfl);simp only[tg,rG]at he;obtain⟨z0,hz0,rfl⟩:=jA.1 he;rw[iN (Ne.symm o2)];exact k2 a y rws z0 o1 hr hz0
   obtain⟨w',p1,p2,p3,p4,p5⟩:=Be (P:=P) HE (cl':=cl) N O h2 hre hsl2;have hst:(Ea e'.key d).run P E.w=.ok d E.w:=by simp[Ea,s2]
   have hrun:(xN t (.map (some b)) d u).run P E.w=.ok () w':=by
    subst q1;simp only[xN,ft,Sem.cK (lu ht),fL,e1,nS W,g1,q4',jl,mU,hst];exact p1
   have Y:({ w:=w',H:=E.H.set id (.bI l w (A.set i (k,none,F.2.2)) cl),ad:=E.ad,X:=E.X }:af).H[id]?=some (.bI l w (A.set i (k,none,F.2.2)) cl):=by
    simp only[];rw[dN (bA N)]
   have hjE:({ w:=w',H:=E.H.set id (.bI l w (A.set i (k,none,F.2.2)) cl),ad:=E.ad,X:=E.X }:af).H[j]?=some (.vQ w ax rZ):=by
    simp only[];rw[dh (Ne.symm hne)];exact hj
   have hobj:=p2.obj id _ Y;simp only[bK]at hobj;obtain⟨b2,n2,ms2,o1,o2,o3,o4⟩:=hobj;rw[O]at o1;simp only[bQ,cr]at o1;obtain⟨rfl,rfl⟩:=o1;rw[p4]at o2;cases o2;obtain⟨loc',M,r1,r2⟩:=Kb p2 (i:=i) (key:=k) (bn:=F.2.2) (e:={ e' with key:=d,val:=u }) Y hjE (by rw[dN hlt]) O p4 (by
    simp only[tg,rG,U];simp) o3 o4 (dW p3 _ hv)
   refine⟨w',hrun,fun xx=>⟨loc',M,by simp[ae],?_,p3.trans ?_⟩⟩
   ·simpa[AP,Ka hx0]using r1
   ·simpa[AP,Ka hx0]using r2
 ·rename_i hf
  cases h;obtain⟨M,g1,g2⟩:=pz W E.w h3 hf;cases M with
  |some _=>simp[gL]at g2
  |none=>
   have hml:J.toList.length=A.length:=ab;have hre:di E (eu (A++[(k,none,cl)])) (J.push { key:=d,val:=u,born:=cl }).toList:=by
    rw[iG];refine⟨by simp[eu,hlen],fun a y z g B=>?_⟩;unfold eu at g;rw[gu]at g;simp only[Jm,lN,bL]at g B;rw[hml]at B;by_cases e:a<A.length
    ·simp only[iP e]at g B
     exact hall a y z (by unfold eu; exact g) B
    ·simp only[iN e]at g B
     cases hj2:a-A.length with
     |zero=>
      rw[hj2]at g B;simp at g B;subst g; subst B;exact⟨hk,by simp[ae],rfl,hcl,rfl⟩
     |succ _=>rw[hj2]at g; simp at g
   have hsl2:lU E l w (A++[(k,none,cl)]) (J.push { key:=d,val:=u,born:=cl }).toList:=by
    obtain⟨hs,k1,k2⟩:=h4;have I:∀(a:Nat) y,(A++[(k,(none:Option (List (List AV))),cl)])[a]?=some y->y.2.1.isSome=true->A[a]?=some y/\a<A.length:=fun a y g hsm=>by
     rw[lN]at g;split at g
     ·rename_i hh
      exact⟨g,hh⟩
     ·cases hk2:a - A.length with
      |zero=>
       rw[hk2]at g;simp at g;subst g;cases hsm
      |succ _=>rw[hk2]at g; simp at g
    refine⟨hs,fun a c y z g B sy sz he=>k1 a c y z (I a y g sy).1 (I c z B sz).1 sy sz he,fun a y rws e g hr he=>?_⟩;obtain⟨o1,o2⟩:=I a y g (by rw[hr]; rfl);simp only[Jm]at he;rw[fB ab]at he;exact k2 a y rws e o1 hr he
   obtain⟨w',p1,p2,p3,p4,p5⟩:=Be (P:=P) HE (cl':=cl+1) N O h2 hre hsl2;have hrun:(xN t (.map (some b)) d u).run P E.w=.ok () w':=by
    simp only[xN,ft,Sem.cK (lu ht),fL,e1,nS W,g1];exact p1
   have Y:({ w:=w',H:=E.H.set id (.bI l w (A++[(k,none,cl)]) (cl+1)),ad:=E.ad,X:=E.X }:af).H[id]?=some (.bI l w (A++[(k,none,cl)]) (cl+1)):=by
    simp only[];rw[dN (bA N)]
   have hjE:({ w:=w',H:=E.H.set id (.bI l w (A++[(k,none,cl)]) (cl+1)),ad:=E.ad,X:=E.X }:af).H[j]?=some (.vQ w ax rZ):=by
    simp only[];rw[dh (Ne.symm hne)];exact hj
   have hobj:=p2.obj id _ Y;simp only[bK]at hobj;obtain⟨b2,n2,ms2,o1,o2,o3,o4⟩:=hobj;rw[O]at o1;simp only[bQ,cr]at o1;obtain⟨rfl,rfl⟩:=o1;rw[p4]at o2;cases o2;obtain⟨loc',M,r1,r2⟩:=Kb p2 (i:=A.length) (key:=k) (bn:=cl) (e:={ key:=d,val:=u,born:=cl }) Y hjE ai O p4 (by
    simp only[Jm];rw[ml ab];simp[hml]) o3 o4 (dW p3 _ hv)
   have e2:(A++[(k,(none:Option (List (List AV))),cl)]).set A.length (k,some rZ,cl)=A++[(k,some rZ,cl)]:=by
    rw[List.set_append_right _ _ (bl _),Nat.sub_self];rfl
   refine⟨w',hrun,fun xx=>⟨loc',M,by simp[ae],?_,p3.trans ?_⟩⟩
   ·simpa[AP,e2]using r1
   ·simpa[AP,e2]using r2
 ·cases h
theorem aO.abv(H:aO E){W:Nat}(I:E.H[id]? = some o)(hlab:o.label=none)(N:o'.label=some W)(O:o'.bt = o.bt)(J:∀(i:Nat) x,E.H[i]? = some x->x.label≠some W)
  (ho:E.le { w:=E.w,H:=E.H.set id o',ad:=E.ad,X:=E.X }->bK { w:=E.w,H:=E.H.set id o',ad:=E.ad,X:=E.X } id o') :
  aO { w:=E.w,H:=E.H.set id o',ad:=E.ad,X:=E.X }/\E.le { w:=E.w,H:=E.H.set id o',ad:=E.ad,X:=E.X }:=by
 have U:=bA I;have F:∀(i:Nat) x,(E.H.set id o')[i]?=some x->(i=id/\x=o')\/(i≠id/\E.H[i]?=some x):=fun i x hi=>by
  by_cases q:i=id
  ·subst q
   rw[dN U]at hi;cases hi;exact .inl ⟨rfl,rfl⟩
  ·rw[dh (Ne.symm q)]at hi
   exact .inr ⟨q,hi⟩
 have M:E.le { w:=E.w,H:=E.H.set id o',ad:=E.ad,X:=E.X }:=by
  refine⟨fun i ax Y=>?_,bl _,fun _ _ _=>rfl,fun b hb J=>J,fun i ax Y A=>?_,⟨rfl,rfl⟩,fun l h hh=>⟨hh,fun _ hq=>hq⟩,.refl _⟩
  ·obtain⟨x,d,g⟩:=Y
   by_cases q:i=id
   ·subst q
    rw[I]at d;cases d;exact⟨o',by simp only[]; rw[dN U],fun v hv=>g v (by rw[<-O]; exact hv)⟩
   ·exact⟨x,by simp only[]; rw[dh (Ne.symm q)]; exact d,g⟩
  ·obtain⟨x,d,g⟩:=A
   rcases F i x d with⟨rfl,rfl⟩|⟨q,B⟩
   ·exact⟨⟨o,I,by rw[<-O]; exact g⟩,rfl⟩
   ·exact⟨⟨x,B,g⟩,rfl⟩
 refine⟨⟨by simp[H.len],H.inj,H.lt,H.X,fun i x hi=>?_,H.iD.cQ M.toC,H.iE,H.eY,H.dP,fun i k x y l hi hk d g=>?_,fun l hn h y hy=>?_⟩,M⟩
 ·rcases F i x hi with⟨rfl,rfl⟩ | ⟨q,B⟩
  ·exact ho M
  ·exact po (fun a _ hr=>dW M a hr) rfl (fun _ _ _=>rfl) (fun l A=>⟨rfl,fun _ _ _ _=>rfl⟩) (H.obj i x B)
 ·rcases F i x hi with⟨rfl,rfl⟩ | ⟨q,B⟩<;>rcases F k y hk with⟨rfl,rfl⟩ | ⟨e4,h5⟩
  ·rfl
  ·rw[N]at d
   cases d;exact(J k y h5 g).elim
  ·rw[N]at g
   cases g;exact(J i x B d).elim
  ·exact H.uniq i k x y l B h5 d g
 ·refine H.kM l (fun i x hi A=>?_) h y hy
  by_cases e:i=id
  ·subst e
   rw[I]at hi;cases hi;rw[hlab]at A;cases A
  ·exact hn i x (by show (E.H.set id o')[i]?=_; rw[dh (Ne.symm e)]; exact hi) A
theorem abw(HE:aO E)(d:E.H[id]? = some (.map [] cl))(q:yi E.H l=true):
  aO { w:=E.w,H:=E.H.set id (.bI l w [] cl),ad:=E.ad,X:=E.X }/\E.le { w:=E.w,H:=E.H.set id (.bI l w [] cl),ad:=E.ad,X:=E.X }:=
 aO.abv HE d rfl rfl rfl (J1 q) fun A=>by
  have g:=HE.obj id _ d;simp only[bK]at g|-;obtain⟨b,n,B,F,I,J⟩:=g;refine⟨b,n,B,F,I,qw (fun a _ hr=>dW A a hr) J,fun _=>0,fun i j x y hi=>by simp at hi,fun i x rZ e hi=>by simp at hi⟩
theorem abx(HE:aO E){d:List (AV × Option (List (List AV)) × Nat)}{key:AV}{bn:Nat}{W:Array MapEntry}{e':MapEntry}(hid:E.H[id]? = some (.bI l w d cl))(hes:d[i]? = some (key,some rZ,bn))
  (h1:E.ad[id]?=some (some (b,n))) (h2:E.w.heap[b]?=some (.map W cl)) (h3:di E (eu d) W.toList) (h4:lU E l w d W.toList) (q4:W.toList[i]?=some e') :
  ∃loc' r',aO { w:=E.w,H:=E.H.set id (.bI l w (d.set i (key,none,bn)) cl)++[.vQ w 0 rZ],ad:=loc',X:=E.X.re r' }/\E.le { w:=E.w,H:=E.H.set id (.bI l w (d.set i (key,none,bn)) cl)++[.vQ w 0 rZ],ad:=loc',X:=E.X.re r' } /\
   ae { w:=E.w,H:=E.H.set id (.bI l w (d.set i (key,none,bn)) cl)++[.vQ w 0 rZ],ad:=loc',X:=E.X.re r' } (.vQ w E.H.length 0 0 rZ.length) e'.val:=by
 have hlenH:E.H.length=E.ad.length:=HE.len.symm;obtain⟨hs,k1,k2⟩:=h4;have hsl:=k2 i _ rZ e' hes rfl q4;obtain⟨A,M,z1,z2,z3⟩:∃(A:Option (Nat × Nat)) (M:Nat),(∀b m,A=some (b,m)->(E.X.r l)[M]?=some (some (some (b,m)))) /\
   (∀j y,d[j]?=some y->y.2.1.isSome=true->j≠i->∀b m,(E.X.r l)[hs j]?=some (some (some (b,m)))->hs j≠M) /\
   ((A=none/\rZ=[]/\∃bg,e'.val=.slice bg 0 0)\/∃b m,A=some (b,m)/\e'.val=.slice (some ⟨b,0,none⟩) rZ.length m/\isRow E.w b (m*w)/\rZ.length<=m/\iC rZ/\er E w rZ b 0):=by
  rcases hsl with⟨s1,s2⟩|⟨B,mm,s1,s2,s3,J,N,O⟩
  ·exact⟨none,(E.X.r l).length,fun _ _ e=>(by cases e),fun j y _ _ _ b m hb e=>(by rw[e]at hb; have:=bA hb; omega),.inl ⟨rfl,s1,s2⟩⟩
  ·exact⟨some (B,mm),hs i,fun _ _ e=>(by cases e; exact s1),fun j y g hsy U _ _ _ e=>U (k1 j i _ _ g hes hsy rfl e),.inr ⟨B,mm,rfl,s2,s3,J,N,O⟩⟩
 obtain⟨r1,r2⟩:=aO.J_ HE (id:=id) (l0:=l) (h0:=M) (o':=.bI l w (d.set i (key,none,bn)) cl) (ov:=.vQ w 0 rZ) (q:=A) hid rfl rfl rfl rfl z1 fun hle=>by
  refine⟨?_,?_⟩
  ·simp only[bK]
   refine⟨b,n,W,?_,h2,?_,?_⟩
   ·rw[fB (bA h1)]
    exact h1
   ·exact qw (fun a _ hr=>dW hle a hr) (J' hes rfl rfl h3)
   ·refine⟨hs,fun a Y y z g hz sy sz he=>?_,fun a y rws e g hr he=>?_⟩
    all_goals
     have old:∀(j:Nat) y,(d.set i (key,none,bn))[j]?=some y->y.2.1.isSome=true->d[j]?=some y/\j≠i:=fun j y g hsm=>by
      rw[iQ]at g;split at g
      ·split at g
       ·cases g
        cases hsm
       ·cases g
      ·rename_i U
       exact⟨g,Ne.symm U⟩
    ·exact k1 a Y y z (old a y g sy).1 (old Y z hz sz).1 sy sz he
    ·obtain⟨o1,o2⟩:=old a y g (by rw[hr]; rfl)
     rcases k2 a y rws e o1 hr he with I|⟨B,mm,s1,s2,s3,J,N,O⟩
     ·exact .inl I
     ·refine .inr ⟨B,mm,?_,s2,s3,J,N,pn (fun a _ hr=>dW hle a hr) rfl O⟩
      have U:=z2 a y o1 (by rw[hr]; rfl) o2 B mm s1;show (jD E.X.r l M l)[hs a]?=_
      rw[J9 fun e=>U e.2];exact s1
  ·simp only[bK]
   have I:(E.ad++[A])[E.H.length]?=some A:=by rw[hlenH]; simp
   rcases z3 with⟨rfl,s1,_⟩|⟨B,mm,rfl,_,s3,J,N,O⟩
   ·exact .inl ⟨I,s1⟩
   ·exact .inr ⟨B,mm,I,s3,J,N,pn (fun a _ hr=>dW hle a hr) rfl O⟩
 refine⟨E.ad++[A],jD E.X.r l M,r1,r2,?_⟩;have hnew:(E.H.set id (.bI l w (d.set i (key,none,bn)) cl)++[.vQ w 0 rZ])[E.H.length]?=some (.vQ w 0 rZ):=by
  rw[ml ai];simp
 have I:(E.ad++[A])[E.H.length]?=some A:=by rw[hlenH]; simp
 simp only[ae];rcases z3 with⟨rfl,s1,bg,s2⟩|⟨B,mm,rfl,s2,s3,J,N,O⟩
 ·subst s1
  refine⟨⟨bg,0,by rw[s2]; rfl,bl _,fun h=>by simp at h⟩,⟨_,hnew,fun v hv=>by cases hv; exact bl _⟩,fun _=>⟨fun _=>⟨by first|rfl|trivial,by first|rfl|trivial,bg,s2⟩,fun Y m' F=>?_⟩⟩;rw[I]at F;cases F
 ·refine⟨⟨_,mm,s2,J,fun _=>⟨B,0,rfl⟩⟩,⟨_,hnew,fun v hv=>by cases hv; exact bl _⟩,fun _=>⟨fun F=>?_,fun Y m' F=>?_⟩⟩
  ·rw[I]at F
   cases F
  ·rw[I]at F
   cases F;exact⟨ab,0,fun _=>by simp,by rw[s2,mT]⟩
theorem aby(HE:aO E)(w:Nat):
  aO { w:=E.w,H:=E.H++[.vQ w 0 []],ad:=E.ad++[none],X:=E.X }/\E.le { w:=E.w,H:=E.H++[.vQ w 0 []],ad:=E.ad++[none],X:=E.X } /\
   ae { w:=E.w,H:=E.H++[.vQ w 0 []],ad:=E.ad++[none],X:=E.X } (.vQ w E.H.length 0 0 0) (.slice none 0 0):=by
 have A:E.le (E.push E.w (.vQ w 0 []) none):=af.nc HE.len (Ext.refl _) (fun b n h=>by cases h);have d:(E.ad++[(none:Option (Nat × Nat))])[E.H.length]?=some none:=by rw[<-HE.len]; simp
 have q:bK (E.push E.w (.vQ w 0 []) none) E.H.length (.vQ w 0 []):=by
  simp only[bK,af.push];exact .inl ⟨d,trivial⟩
 refine⟨aO.push HE (Ext.refl _) (fun b n h=>by cases h) q,A,?_⟩;simp only[ae];refine⟨⟨none,0,rfl,bl _,fun h=>by simp at h⟩,⟨.vQ w 0 [],ai,fun v B=>by cases B; exact bl _⟩,fun _=>⟨fun _=>⟨by first|rfl|trivial,by first|rfl|trivial,none,rfl⟩,fun F m' g=>?_⟩⟩;rw[d]at g;cases g
def Bf(P:ak)(t:aJ)(m k:AV)(H:List ay):Option (AV × List ay):=
 match iF P t,m with
 |some (g,q),.map id=>match H[id]? with
  |some (.bI l w d cl)=>match nR P g k,ER P q,nT P q with
   |some A,some w',some (.lit (.slice none 0 0))=>match Nat.beq w' w&&k.closed with
    |true=>match jr P g A (eu d) 0 with
     |some (some (i,_))=>match tL d i with
      |some (_,rZ,n)=>some (.tuple [.vQ w H.length 0 0 rZ.length,.lit (goInt n)],H.set id (.bI l w (d.set i (k,none,n)) cl)++[.vQ w 0 rZ])
      |none=>none
     |some none=>some (.tuple [.vQ w H.length 0 0 0,.lit (goInt cl)],H.set id (.bI l w (d++[(k,none,cl)]) (cl+1))++[.vQ w 0 []])
     |none=>none
    |false=>none
   |_,_,_=>none
  |_=>none
 |_,_=>none
theorem abz(HE:aO E)(h:Bf P t m k E.H=some (v,H'))(hm:ae E m c)(hk:ae E k d):
  ∃u w',(Z4 t c d).run P E.w=.ok u w'/\e9 E v H' u w':=by
 unfold Bf at h;split at h
 case h_2=>cases h
 rename_i kt et id ht;split at h
 case h_2=>cases h
 rename_i l w B cl hid;split at h
 case h_2=>cases h
 rename_i kv w' hkv hw' A;split at h
 case h_2=>cases h
 rename_i hww;simp only[aR]at hww;have hcl:=hww.2;clear hw' hww;obtain⟨b,n,I,rfl,h1,h2,h3,h4⟩:=EO HE hid hm;have M:=pv hkv hk;have e1:(getObj b).run P E.w=.ok (.map I cl) E.w:=by simp[getObj,oY,h2]
 obtain⟨hlen,hall⟩:=iG.1 h3;rw[Jz]at hlen;have hidE:∀(w':be) es' cl',({ w:=w',H:=E.H.set id (.bI l w es' cl'),ad:=E.ad,X:=E.X }:af).H[id]?=some (.bI l w es' cl'):=fun w' es' cl'=>by
  simp only[];rw[dN (bA hid)]
 split at h
 ·rename_i i v0 hf
  split at h
  case h_2=>cases h
  rename_i key rZ J hat;cases h;have hes:B[i]?=some (key,some rZ,J):=by
   unfold tL at hat;split at hat
   ·rename_i a1 a2 a3 he
    cases hat;exact he
   ·cases hat
  have hlt:=bA hes;obtain⟨O,g1,U⟩:=pz M E.w h3 hf;cases O with
  |none=>simp[gL]at U
  |some q=>
   simp only[gL]at U;obtain⟨q1,q2,_,W,Y,q5⟩:=U;obtain⟨_,x,y,f1,f2,f3⟩:=EN hf;simp only[mT]at Y f1;obtain⟨a1,a2,a3,a4,a5⟩:=hall i x W f1 Y;obtain⟨s1,s2⟩:=J8 M (pv f2 a1) f3;have q4':I[i]?=some W:=by simpa using Y
   have hx:x=(key,.undef,J):=by rw[EP hes]at f1; cases f1; rfl
   have hre:di E (eu (B.set i (k,some rZ,J))) (I.modify i fun e=>{ e with key:=d }).toList:=by
    rw[iG];refine⟨by simp[eu,hlen],fun a y z g A=>?_⟩;simp only[tg,rG]at A;obtain⟨z0,N,rfl⟩:=jA.1 A;unfold eu at g;rw[dw,iQ]at g;by_cases e:i=a
    ·subst e
     rw[iP rfl,iP hlt]at g;cases g;rw[Y]at N;cases N;simp only[if_true];refine⟨hk,by simp[ae],?_,hcl,rfl⟩;rw[a3,hx]
    ·rw[iN e]at g
     obtain⟨b1,b2,b3,b4,b5⟩:=hall a y z0 (by unfold eu; rw[dw]; exact g) N;simp only[iN e];exact⟨b1,b2,b3,b4,b5⟩
   have hsl2:lU E l w (B.set i (k,some rZ,J)) (I.modify i fun e=>{ e with key:=d }).toList:=by
    obtain⟨hs,k1,k2⟩:=h4;have F:∀(a:Nat) y,(B.set i (k,some rZ,J))[a]?=some y->∃z,B[a]?=some z/\z.2.1=y.2.1:=fun a y g=>by
     by_cases ei:i=a
     ·subst ei
      rw[dN hlt]at g;cases g;exact⟨_,hes,rfl⟩
     ·rw[dh ei]at g
      exact⟨y,g,rfl⟩
    refine⟨hs,fun a c y z g A sy sz he=>?_,fun a y rws e g hr he=>?_⟩
    ·obtain⟨y',hy',ey⟩:=F a y g
     obtain⟨z',hz',ez⟩:=F c z A;exact k1 a c y' z' hy' hz' (by rw[ey]; exact sy) (by rw[ez]; exact sz) he
    ·obtain⟨y',hy',ey⟩:=F a y g
     simp only[tg,rG]at he;obtain⟨z0,N,rfl⟩:=jA.1 he;have:=k2 a y' rws z0 hy' (by rw[ey]; exact hr) N;split<;>exact this
   obtain⟨w1,p1,p2,p3,p4,p5⟩:=Be (P:=P) HE (cl':=cl) hid h1 h2 hre hsl2;have hobj:=p2.obj id _ (hidE w1 _ _);simp only[bK]at hobj;obtain⟨b2,n2,ms2,o1,o2,o3,o4⟩:=hobj;rw[h1]at o1;simp only[bQ,cr]at o1;obtain⟨rfl,rfl⟩:=o1;rw[p4]at o2;cases o2;obtain⟨loc',O,r1,r2,r3⟩:=abx p2 (i:=i) (key:=k) (rZ:=rZ) (bn:=J) (e':={ W with key:=d }) (hidE w1 _ _) (by rw[dN hlt]) h1 p4 o3 o4 (by
    simp only[tg,rG,Y];simp)
   simp only[AP,AK]at r1 r2 r3;refine⟨.tuple #[W.val,goInt J],w1,?_,loc',O,?_,r1,p3.trans r2⟩
   ·have hst:(Ea W.key d).run P E.w=.ok d E.w:=by simp[Ea,s2]
    subst q1;simp only[Z4,ft,Sem.cK (lu ht),fL,e1,nS M,g1,q4',jl,mU,hst];rw[p1];simp only[fL,mS];rw[a3,hx,<-q5]
   ·simp only[ae]
    refine⟨_,rfl,?_⟩;simp only[aq,and_true];exact⟨r3,by simp[ae]⟩
 ·rename_i hf
  cases h;obtain⟨O,g1,U⟩:=pz M E.w h3 hf;cases O with
  |some _=>simp[gL]at U
  |none=>
   obtain⟨zv,z1,z2⟩:=EL A E.w;have hzv:zv=.slice none 0 0:=by have:=z2 E; simpa[ae]using this
   have hml:I.toList.length=B.length:=ab;have hre:di E (eu (B++[(k,none,cl)])) (I.push { key:=d,val:=zv,born:=cl }).toList:=by
    rw[iG];refine⟨by simp[eu,hlen],fun a y z g A=>?_⟩;unfold eu at g;rw[gu]at g;simp only[Jm,lN,bL]at g A;rw[hml]at A;by_cases e:a<B.length
    ·simp only[iP e]at g A
     exact hall a y z (by unfold eu; exact g) A
    ·simp only[iN e]at g A
     cases hj2:a-B.length with
     |zero=>
      rw[hj2]at g A;simp at g A;subst g; subst A;exact⟨hk,by simp[ae],rfl,hcl,rfl⟩
     |succ _=>rw[hj2]at g; simp at g
   have hsl2:lU E l w (B++[(k,none,cl)]) (I.push { key:=d,val:=zv,born:=cl }).toList:=by
    obtain⟨hs,k1,k2⟩:=h4;have F:∀(a:Nat) y,(B++[(k,(none:Option (List (List AV))),cl)])[a]?=some y->y.2.1.isSome=true->B[a]?=some y/\a<B.length:=fun a y g hsm=>by
     rw[lN]at g;split at g
     ·rename_i hh
      exact⟨g,hh⟩
     ·cases hk2:a - B.length with
      |zero=>
       rw[hk2]at g;simp at g;subst g;cases hsm
      |succ _=>rw[hk2]at g; simp at g
    refine⟨hs,fun a c y z g A sy sz he=>k1 a c y z (F a y g sy).1 (F c z A sz).1 sy sz he,fun a y rws e g hr he=>?_⟩;obtain⟨o1,o2⟩:=F a y g (by rw[hr]; rfl);simp only[Jm]at he;rw[fB ab]at he;exact k2 a y rws e o1 hr he
   obtain⟨w1,p1,p2,p3,p4,p5⟩:=Be (P:=P) HE (cl':=cl+1) hid h1 h2 hre hsl2;obtain⟨r1,r2,r3⟩:=aby p2 w;simp only[AK]at r3;refine⟨.tuple #[zv,goInt cl],w1,?_,E.ad++[none],E.X.r,?_,r1,p3.trans r2⟩
   ·simp only[Z4,ft,Sem.cK (lu ht),fL,e1,nS M,g1,z1]
    rw[p1];rfl
   ·simp only[ae]
    refine⟨_,rfl,?_⟩;simp only[aq,and_true];rw[hzv];exact⟨r3,by simp[ae]⟩
 ·cases h
def vH (d:List (AV × Option (List (List AV)) × Nat)) (st:Int):Option Nat:=d.findIdx? fun x=>(x.2.2:Int)==st
def Bg(m s v:AV)(H:List ay):Option (List ay):=
 match m,s,v with
 |.map id,.lit (.int .i64 st),.vQ w j ax oF n=>match H[id]?,H[j]? with
  |some (.bI l w' d cl),some (.vQ q g rZ)=>if (w=w'/\w=q)/\(ax=g/\oF=0)/\n=rZ.length then
    match vH d st with
    |some i=>match d[i]? with
     |some (key,_,A)=>some ((H.set id (.bI l w' (d.set i (key,some rZ,A)) cl)).set j .dead)
     |none=>none
    |none=>none
   else none
  |_,_=>none
 |_,_,_=>none
theorem Qw{E:af}{st:Int}:∀{d:List (AV × Option (List (List AV)) × Nat)} {g:List MapEntry},di E (eu d) g->g.findIdx? (fun e=>(e.born:Int)==st)=vH d st
 |[],[],_=>rfl
 |[],_::_,h=>by simp[eu,di]at h
 |_::_,[],h=>by simp[eu,di]at h
 |x::d,e::g,h=>by
  have h':di E ((x.1,.undef,x.2.2)::eu d) (e::g):=h;simp only[di]at h';obtain⟨_,_,A,_,_,B⟩:=h';have q:=Qw (st:=st) B;unfold vH at q|-;simp only[List.findIdx?_cons,A,q]
theorem abA(HE:aO E){s:AV}(h:Bg m s v E.H=some H')(hm:ae E m c)(hs:ae E s d)(hv:ae E v u):
  ∃w',(Z5 t c d u).run P E.w=.ok () w'/\∀x,e9 E .undef H' x w':=by
 unfold Bg at h;split at h
 case h_2=>cases h
 rename_i id st w j ax oF n;split at h
 case h_2=>cases h
 rename_i l w' A cl w2 ver' rZ F U;split at h
 case isFalse=>cases h
 rename_i hc;obtain⟨⟨rfl,rfl⟩,⟨rfl,rfl⟩,rfl⟩:=hc;split at h
 case h_2=>cases h
 rename_i i hi;split at h
 case h_2=>cases h
 rename_i key I B hes;cases h;obtain⟨b,n,q,rfl,W,h2,h3,h4⟩:=EO HE F hm;have hne:j≠id:=fun e=>by rw[e,F]at U; cases U
 have e1:(getObj b).run P E.w=.ok (.map q cl) E.w:=by simp[getObj,oY,h2]
 obtain⟨hlen,hall⟩:=iG.1 h3;rw[Jz]at hlen;have O:=bA hes;obtain⟨Y,q4⟩:∃Y,q.toList[i]?=some Y:=⟨q.toList[i]'ab,bT _⟩
 have hfind:q.findIdx? (fun e=>(e.born:Int)==st)=some i:=by
  have e0:q=q.toList.toArray:=ai;rw[e0,List.findIdx?_toArray,Qw h3,hi]
 have hre:di E (eu (A.set i (key,none,B))) (q.modify i fun e=>{ e with val:=u }).toList:=by
  rw[iG];refine⟨by simp[eu,hlen],fun a y z g M=>?_⟩;simp only[tg,rG]at M;obtain⟨N,J,rfl⟩:=jA.1 M;unfold eu at g;rw[dw,iQ]at g;by_cases e:i=a
  ·subst e
   rw[iP rfl,iP O]at g;cases g;obtain⟨b1,b2,b3,b4,b5⟩:=hall i _ N (EP hes) J;simp only[if_true];exact⟨b1,by simp[ae],b3,b4,rfl⟩
  ·rw[iN e]at g
   obtain⟨b1,b2,b3,b4,b5⟩:=hall a y N (by unfold eu; rw[dw]; exact g) J;simp only[iN e];exact⟨b1,b2,b3,b4,b5⟩
 have hsl2:lU E l w (A.set i (key,none,B)) (q.modify i fun e=>{ e with val:=u }).toList:=by
  obtain⟨hs,k1,k2⟩:=h4;have I:∀(a:Nat) y,(A.set i (key,none,B))[a]?=some y->y.2.1.isSome=true->A[a]?=some y/\a≠i:=fun a y g hsm=>by
   by_cases ei:i=a
   ·subst ei
    rw[dN O]at g;cases g;cases hsm
   ·rw[dh ei]at g
    exact⟨g,Ne.symm ei⟩
  refine⟨hs,fun a c y z g M sy sz he=>k1 a c y z (I a y g sy).1 (I c z M sz).1 sy sz he,fun a y rws e g hr he=>?_⟩;obtain⟨o1,o2⟩:=I a y g (by rw[hr]; rfl);simp only[tg,rG]at he;obtain⟨N,J,rfl⟩:=jA.1 he;rw[iN (Ne.symm o2)];exact k2 a y rws N o1 hr J
 obtain⟨w',p1,p2,p3,p4,p5⟩:=Be (P:=P) HE (cl':=cl) F W h2 hre hsl2;have hd:d=.int .i64 st:=by simpa[ae]using hs
 have hrun:(Z5 t (.map (some b)) d u).run P E.w=.ok () w':=by
  subst hd;simp only[Z5,asInt,asIntOf,ft,fL,e1,mS,hfind];exact p1
 have hidE:({ w:=w',H:=E.H.set id (.bI l w (A.set i (key,none,B)) cl),ad:=E.ad,X:=E.X }:af).H[id]?=some (.bI l w (A.set i (key,none,B)) cl):=by
  simp only[];rw[dN (bA F)]
 have hjE:({ w:=w',H:=E.H.set id (.bI l w (A.set i (key,none,B)) cl),ad:=E.ad,X:=E.X }:af).H[j]?=some (.vQ w ax rZ):=by
  simp only[];rw[dh (Ne.symm hne)];exact U
 have hobj:=p2.obj id _ hidE;simp only[bK]at hobj;obtain⟨b2,n2,ms2,o1,o2,o3,o4⟩:=hobj;rw[W]at o1;simp only[bQ,cr]at o1;obtain⟨rfl,rfl⟩:=o1;rw[p4]at o2;cases o2;obtain⟨loc',r',r1,r2⟩:=Kb p2 (i:=i) (key:=key) (bn:=B) (e:={ Y with val:=u }) hidE hjE (by rw[dN O]) W p4 (by
  simp only[tg,rG,q4];simp) o3 o4 (dW p3 _ hv)
 refine⟨w',hrun,fun xx=>⟨loc',r',by simp[ae],?_,p3.trans ?_⟩⟩
 ·simpa[AP]using r1
 ·simpa[AP]using r2
end Go.AL
