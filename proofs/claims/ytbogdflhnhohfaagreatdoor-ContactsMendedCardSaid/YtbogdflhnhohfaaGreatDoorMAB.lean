/-
 What is proved here: a walk along a string,on abstract values. No program in sight; no condition.
-/
import Derived.Test.YtbogdflhnhohfaaGreatDoorMA
set_option linter.all false
open Array renaming length_toList->iF,ext'->jo,getElem?_setIfInBounds->BM,toList_modify->kS,toList_push->ob
open Bool renaming and_true->gX,and_eq_true->aK
open Go renaming Value->ao,TypeId->aF,World->a_,Program->aj
open Go.Builtin renaming append_->pU,zeroCells->BI,nextslicecap->KN,delete_->Vl,clear_->Vm
open Go.Instr renaming sureAddr->mW,storeAt->uV,buildSlice->KQ,range->Vh,checkKey->uW,findAsking->Vi,findNow->BN,sameNow->yu,findKey->Vj,lookup->lD,makeMap->Vk,sameBits->KR,mapUpdate->mY,keyThatStays->qP,mapEntry->FZ,entryStore->BO
open Go.Result renaming andThen_ok->cf
open Go.Sem renaming run_bind->cr,run_pure->ft,run->iG
open Go.Utf8 renaming decode->qO
open Go.Value.slice renaming injEq->mq
open List renaming append_nil->da,append_assoc->gG,getElem?_append_left->di,length_map->c8,getElem?_map->bY,getElem_of_mem->pR,getElem?_eq_getElem->bZ,mem_of_getElem?->eS,getElem?_append_right->iY,getElem?_append->gk,getElem?_set_self->bB,getElem?_set_ne->bg,getElem?_set->eC,mem_cons->cq,mem_of_mem_drop->BF,mem_of_mem_take->yo,forIn_cons->U9,eq_nil_of_length_eq_zero->uU,take_append_drop->yq,ext_getElem?->jG,length_take->mX,length_set->iE,length_append->fu,mem_append->db,flatten_cons->pT,size_toArray->BJ,length_drop->pV,flatten_append->BK,replicate->cB,mem_cons_self->cX,mem_cons_of_mem->dp,getElem?_modify->iH,replicate_zero->amj,mem_replicate->amk,set_set->lE,map_append->jY,set_append_right->Vn,findIdx?_cons->KU,findIdx?_toArray->amm,set_comm->oc
open Nat renaming add_mul->gx,le_refl->aM,le_add_right->gY,zero_le->eV,zero_add->cP,sub_zero->fD,zero_mul->qM,add_zero->n_,mul_le_mul_right->qN,one_mul->yt,beq->aG,succ_mul->aml,eq_of_beq_eq_true->bz,sub_self->lF,le_of_eq->KV
open Option renaming map_eq_some_iff->eL,map_some->ff,getD_some->m_
open Option.some renaming injEq->bf
open Prod.mk renaming injEq->bo
open Std.Legacy.Range renaming forIn_eq_forIn_range'->amc,size->amd
namespace Go.AL
open Go
variable [Dr]
def Cq(P:aj)(t:aF)(x:AV)(H:List ai):Option (AV × List ai) :=
 match cZ P t,x with
 |.str,.lit (.string s)=>some (.ptr H.length 0 0 0 0,H++[.iter s 0])
 |_,_=>none
def Wq{E:af}(HE:aJ E)(s:ByteArray) :
  dc E (.ptr E.H.length 0 0 0 0) (E.H++[.iter s 0]) (.pointer (some ⟨E.w.heap.size,0,none⟩)) { E.w with heap:=E.w.heap.push (.stringIter s 0) }:=by
 have d:=Ext.push E.w (.stringIter s 0);have h:=af.mv (o:=.iter s 0) (l:=some (E.w.heap.size,0)) HE.len d (fun b n hb=>by cases hb; exact aM _);have g:(E.w.heap.push (.stringIter s 0))[E.w.heap.size]? = some (.stringIter s 0):=by simp
 refine⟨E.ae++[some (E.w.heap.size,0)],E.X.r,?_,aJ.push HE d (fun b n hb=>?_) ?_,h⟩
 ·simp only [ad]
  refine⟨⟨_,_,rfl⟩,⟨.iter s 0,by simp,rfl,fun v k=>by simp⟩,fun _=>⟨E.w.heap.size,0,?_,by simp⟩⟩;rw[<-HE.len]; simp
 ·cases hb
  exact⟨aM _,by simp⟩
 ·simp only [aZ]
  refine⟨E.w.heap.size,0,?_,g⟩;simp only[af.push]; rw[<-HE.len]; simp
def Wr{P:aj}{E:af}(HE:aJ E){t:aF}{x v:AV}{c:ao}{H':List ai}(h:Cq P t x E.H=some (v,H'))(d:ad E x c) :
  ∃ u w',(Vh t c).run P E.w=.ok u w'/\dc E v H' u w':=by
 unfold Cq at h;split at h
 ·rename_i s g
  cases h;simp only[ad]at d;subst d;refine⟨_,_,?_,Wq HE s⟩;simp[Vh,Sem.bF (te g),newObj];rfl
 ·cases h
def Cr(x:AV)(isString:Bool)(H:List ai):Option (AV × List ai) :=
 match x,isString with
 | .ptr id 0 _ 0 0,true=>match H[id]? with
  | some (.iter s pos)=>if pos<s.size then some (.tuple [.lit (.bool true),.lit (goInt pos),.lit (.int .i32 (qO s pos).1)],H.set id (.iter s (pos+(qO s pos).2)))
    else some (.tuple [.lit (.bool false)],H)
  |_=>none
 |_,_=>none
def Ws{P:aj}{E:af}(HE:aJ E){x v:AV}{c:ao}{isString:Bool}{ty:aF}{H':List ai}(h:Cr x isString E.H=some (v,H'))(V:ad E x c) :
  ∃ u w',(Instr.next c isString ty).run P E.w=.ok u w'/\dc E v H' u w':=by
 unfold Cr at h;split at h
 case h_2=>cases h
 rename_i id k;split at h
 case h_2=>cases h
 rename_i s pos d;have ho:=HE.obj id _ d;simp only[aZ]at ho;obtain⟨b,n,h1,q⟩:=ho;simp only[ad]at V;obtain⟨_,_,h6⟩:=V;obtain⟨b',n',I,W⟩:=h6 ⟨_,d,rfl⟩;rw[h1]at I;simp only[bf,bo]at I;obtain⟨rfl,rfl⟩:=I;have hb:=(HE.lt id b n h1).1;split at h
 ·rename_i g
  cases h;subst W;have U:({ E.w with heap:=E.w.heap.setIfInBounds b (.stringIter s (pos+(qO s pos).2)) }:a_).heap.size=E.w.heap.size:=by simp
  have O:∀ y,y≠b->({ E.w with heap:=E.w.heap.setIfInBounds b (.stringIter s (pos+(qO s pos).2)) }:a_).heap[y]? = E.w.heap[y]? := by
   intro y hy;simp only[BM];rw[iN (fun e=>hy e.symm)]
  refine⟨.tuple #[.bool true,goInt pos,.int .i32 (qO s pos).1],{ E.w with heap:=E.w.heap.setIfInBounds b (.stringIter s (pos+(qO s pos).2)) },?_,E.ae,E.X.r,?_,?_,?_⟩
  ·have M : (getObj b).run P E.w = .ok (.stringIter s pos) E.w := by simp [getObj, iG, q]
   have e2:(setObj b (.stringIter s (pos+(qO s pos).2))).run P E.w=.ok () { E.w with heap:=E.w.heap.setIfInBounds b (.stringIter s (pos+(qO s pos).2)) }:=by
    simp[setObj,iG,q]
   simp only[Instr.next,qM,n_,cr,M,cf,g,if_true];rw[e2];rfl
  ·simp[ad,ax]
  ·exact HE.set d h1 (fun v N=>N) U O (by
    simp only[aZ];exact⟨b,n,h1,by simp[hb]⟩)
  ·exact af.qb HE d h1 (fun v N=>N) U O
 ·rename_i g
  cases h;subst W;refine⟨.tuple #[.bool false],E.w,?_,E.ae,E.X.r,by simp[ad,ax],by simpa using HE,af.le.refl E⟩;have M:(getObj b).run P E.w=.ok (.stringIter s pos) E.w:=by simp[getObj,iG,q]
  simp only[Instr.next,qM,n_,cr,M,cf,g,if_false];rfl
end Go.AL

namespace Go.AL
open Go
variable [Dr]
def jb(P:aj)(d:aF)(a:AV):Option (List ao) :=
 match flatK P p_ d with
 |none=>none
 | some ks=>match a with
  |.lit v=>if dx ks [v]=true/\pc (P.underlying d)=false then some [v] else none
  | .agg as=>match p9 as with
   |some l=>if dx ks l=true/\pc (P.underlying d)=true then some l else none
   |none=>none
  |_=>none
def qd(P:aj)(d:aF)(l:List ao)(c:ao):Prop:=fq P d c l/\∃ ks,flatK P p_ d=some ks/\dx ks l=true
def jt{P:aj}{E:af}{q:aF}{a:AV}{l:List ao}{c:ao}(h:jb P q a=some l)(k:ad E a c):qd P q l c:=by
 unfold jb at h;split at h
 ·cases h
 rename_i ks y;split at h
 ·split at h
  ·rename_i v d
   cases h;simp only[ad]at k;subst k;refine⟨?_,ks,y,d.1⟩;unfold fq;split
   ·rename_i I g
    rw[g]at d;exact absurd d.2 (by simp[pc])
   ·rename_i g
    rw[g]at d;exact absurd d.2 (by simp[pc])
   ·rfl
  ·cases h
 ·split at h
  ·rename_i as l' O
   split at h
   ·rename_i d
    cases h;simp only[ad]at k;obtain⟨cs,rfl,_,U⟩:=k;refine⟨?_,ks,y,d.1⟩;have e:=Ce O U;unfold fq;split
    ·exact⟨cs,rfl,e⟩
    ·exact⟨cs,rfl,e⟩
    ·rename_i M N
     exfalso;have:=d.2;unfold pc at this;split at this
     ·rename_i I g
      exact M I g
     ·rename_i g
      exact N _ _ g
     ·cases this
   ·cases h
  ·cases h
 ·cases h
def GO{P:aj}:∀(d:Nat) (v:List Field) (oF:Nat) (ks:List SK),yI P d v oF=some ks->∀(k:Array ao),dx ks (k.toList.drop oF)=true->∀ w:a_,∀ f∈v,f.name ≠ "_" /\
  ∃ y x N,flatK P d f.type=some y/\(part f.type k f.offset).run P w=.ok x w/\fq P f.type x N/\dx y N=true
 |d,[],oF,ks,h,k,O,w,f,q=>by cases q
 | d,g::v,oF,ks,h,k,O,w,f,q=>by
  unfold yI tf at h;split at h
  ·cases h
  rename_i U;split at h
  case h_2=>cases h
  rename_i y n ag V e2;split at h
  case isFalse=>cases h
  rename_i hn;split at h
  case h_2=>cases h
  rename_i l e3;cases h;have W:g.offset=oF:=by
   by_cases e:g.offset=oF
   ·exact e
   ·exact(U (.inr e)).elim
  obtain⟨I,M⟩:=Cd O;rw[<-hn]at I M;rcases cq.1 q with rfl|q
  ·obtain ⟨x, px, vx⟩ := Gr e2 V hn k oF I w
   exact⟨fun e=>U (.inl e),y,x,_,V,by rw[W]; exact px,vx,I⟩
  ·exact GO d v (oF+n) l e3 k (by rw[List.drop_drop]at M; exact M) w f q
def GP{P:aj}(em:Bool):∀(d:Nat) (t:aF) (ks:List SK),flatK P d t=some ks->∀(D:Nat),d<=D->∀(x:ao) (N:List ao),fq P t x N->dx ks N=true ->
  ∀ w,(uW em D t x).run P w=.ok () w
 |0,_,_,h=>by simp[flatK]at h
 | d+1,t,ks,h=>by
  intro D hD x N I v w;obtain⟨D,rfl⟩:∃ D',D=D'+1:=⟨D-1,by omega⟩
  unfold flatK at h;cases q:P.underlying t with
  |none=>rw[q]at h; cases h
  | some de =>
   rw[q]at h;cases de with
   | struct U =>
    simp only[]at h;split at h
    ·cases h
    simp only[fq,q]at I;obtain⟨a,rfl,rfl⟩:=I;have M:=GO d U.toList 0 ks h a (by simpa using v) w;have O:∀ f∈U.toList,f.name ≠ "_" /\ ∃ x,(part f.type a f.offset).run P w=.ok x w/\(uW em D f.type x).run P w=.ok () w:=fun f V=>by
     obtain⟨h1,W,x,N,h2,h3,h4,h5⟩:=M f V;exact⟨h1,x,h3,GP em d f.type W h2 D (by omega) x N h4 h5 w⟩
    rw[uW];simp only[cr,Sem.bF q,cf];rw[<-Array.forIn_toList];clear M h;generalize U.toList=L at O
    induction L with
    |nil=>simp
    | cons f L ih =>
     obtain⟨hn,x,p1,p2⟩:=O f (by simp);simp only[U9,cr,hn,ne_eq,not_false_eq_true,if_true,cf,p1,p2,ft];exact ih (fun y hy=>O y (by simp[hy]))
   | array m e =>
    simp only[]at h;split at h
    case h_2=>cases h
    rename_i n g hv;simp only[fq,q]at I;obtain⟨a,rfl,rfl⟩:=I;obtain⟨i,d',h1,h2,rfl,h4⟩:=lL hv;have M:=GO d (vo e i.size m) 0 ks h a (by simpa using v) w;rw[uW];simp only[cr,Sem.bF q,cf,Sem.run_sizeOf h1,amc,amd,fD,Nat.add_sub_cancel,Nat.div_one];unfold vo at M;clear h;generalize List.range' 0 m=L at M
    induction L with
    |nil=>simp
    | cons j L ih =>
     obtain⟨_,W,x,N,q2,q3,q4,q5⟩:=M _ (List.mem_map_of_mem (cX ..));have q6:=GP em d e W q2 D (by omega) x N q4 q5 w;simp only[]at q3;simp only[U9,cr,cf,Sem.run_sizeOf h1,q3,q6,ft];exact ih (fun f V=>M f (by simp only[List.map_cons]; exact dp _ V))
   | int k =>
    simp at h;subst h;simp only[fq,q]at I;subst I;simp only[dx,gX]at v;unfold kindOk at v;split at v<;>simp_all[uW,Sem.bF q]
   | string =>
    simp at h;subst h;simp only[fq,q]at I;subst I;simp only[dx,gX]at v;unfold kindOk at v;split at v<;>simp_all[uW,Sem.bF q]
   | bool =>
    simp at h;subst h;simp only[fq,q]at I;subst I;simp only[dx,gX]at v;unfold kindOk at v;split at v<;>simp_all[uW,Sem.bF q]
   |_=>simp at h
def gM{P:aj}{d:aF}{l:List ao}{c:ao}(h:qd P d l c)(em:Bool)(w:a_):(uW em 10000 d c).run P w=.ok () w:=by
 obtain⟨h1,ks,g,k⟩:=h;exact GP em p_ d ks g 10000 (by decide) c l h1 k w
def Wt{P:aj}{g:aF}{l m:List ao}{c d:ao}(h:qd P g l c)(h':qd P g m d)(w:a_):(Op.equal g c d).run P w=.ok (eW l m) w:=by
 obtain⟨h1,ks,k,v⟩:=h;obtain⟨y,M,q,I⟩:=h';rw[k]at q;cases q;exact Gs p_ g ks k 10000 (by decide) c d l m h1 y v I w
def fi(P:aj)(d:aF)(k:List ao):List (AV × AV × Nat)->Nat->Option (Option (Nat × AV))
 | [],_=>some none
 | (g,v,_)::h,i=>match jb P d g with
  |some l=>bif eW k l then some (some (i,v)) else fi P d k h (i+1)
  |none=>none
def dK(E:af)(g:List MapEntry)(d:Nat):Option (Nat × AV)->Option (Nat × ao)->Prop
 |none,none=>True
 |some (i,v),some (j,c)=>i=j/\ad E v c/\d<=i/\∃ e,g[i-d]? = some e/\e.val=c
 |_,_=>False
def L2{P:aj}{E:af}{N:aF}{k:List ao}{c:ao}(O:qd P N k c)(w:a_):∀(I:List (AV × AV × Nat)) (y:List MapEntry) (i:Nat) (r:Option (Nat × AV)),
  bL E I y->fi P N k I i=some r->∃ d,(Vi N c y i).run P w=.ok d w/\dK E y i r d
 | [],[],i,r,_,h=>by
  simp only[fi,bf]at h;subst h;exact⟨none,rfl,trivial⟩
 | [],_::_,_,_,g,_=>by simp[bL]at g
 |(_,_,_)::_,[],_,_,g,_=>by simp[bL]at g
 | (k',v,n)::I,e::y,i,r,g,h=>by
  simp only[bL]at g;obtain⟨h1,V,h3,h4,h5,W⟩:=g;simp only[fi]at h;split at h
  case h_2=>cases h
  rename_i l hl;have he:=Wt O (jt hl h1) w;cases U:eW k l with
  | true =>
   rw[U]at h he;cases h;refine⟨some (i,e.val),by simp[Vi,he],rfl,V,aM _,e,by simp,rfl⟩
  | false =>
   rw[U]at h he;obtain⟨d,g1,M⟩:=L2 O w I y (i+1) r W h;refine⟨d,by simp[Vi,he,g1],?_⟩;cases r with
   | none=>cases d with
    |none=>trivial
    |some _=>simp[dK]at M
   | some p=>cases d with
    |none=>simp[dK]at M
    | some q =>
     simp only[dK]at M|-;obtain⟨q1,q2,q3,e',q4,q5⟩:=M;refine⟨q1,q2,by omega,e',?_,q5⟩;rw[show p.1-i=(p.1-(i+1))+1 from by omega];simpa using q4
def L3{P:aj}{E:af}{kt:aF}{k:List ao}{c:ao}{d:TypeDesc}(hu:P.underlying kt=some d)(hk:qd P kt k c):∀(es:List (AV × AV × Nat)) (U:List MapEntry) (i:Nat) (r:Option (Nat × AV)),
  bL E es U->fi P kt k es i=some r->(∃ V,BN d c U i=some V/\dK E U i r V)\/BN d c U i=none
 | [],[],i,r,_,h=>by
  simp only[fi,bf]at h;subst h;exact .inl ⟨none,rfl,trivial⟩
 | [],_::_,_,_,W,_=>by simp[bL]at W
 |(_,_,_)::_,[],_,_,W,_=>by simp[bL]at W
 | (k',v,n)::es,e::U,i,r,W,h=>by
  simp only[bL]at W;obtain⟨h1,h2,h3,h4,h5,h6⟩:=W;simp only[fi]at h;split at h
  case h_2=>cases h
  rename_i l hl;have hkv:=jt hl h1;have same:yu d c e.key=some (eW k l)\/yu d c e.key=none:=by
   obtain⟨p1,ks,y,M⟩:=hk;obtain⟨N,ks',q2,I⟩:=hkv;rw[y]at q2;cases q2;unfold p_ at y;unfold flatK at y;rw[hu]at y;cases d with
   |struct fs=>right; simp[yu]
   |array m e=>right; simp[yu]
   | int kk =>
    simp at y;subst y;simp only[fq,hu]at p1 N;subst p1; subst N;simp only[dx,gX]at M I;unfold kindOk at M I;left;split at M<;>split at I<;>simp_all[yu,eW,qZ]
   | string =>
    simp at y;subst y;simp only[fq,hu]at p1 N;subst p1; subst N;simp only[dx,gX]at M I;unfold kindOk at M I;left;split at M<;>split at I<;>simp_all[yu,eW,qZ,beq_toListBytes]
   | bool =>
    simp at y;subst y;simp only[fq,hu]at p1 N;subst p1; subst N;simp only[dx,gX]at M I;unfold kindOk at M I;left;split at M<;>split at I<;>simp_all[yu,eW,qZ]
   |_=>simp at y
  rcases same with O|O
  ·cases hv : eW k l with
   | true =>
    rw[hv]at h O;cases h;exact .inl ⟨some (i,e.val),by simp[BN,O],rfl,h2,aM _,e,by simp,rfl⟩
   | false =>
    rw[hv]at h O;rcases L3 hu hk es U (i+1) r h6 h with⟨V,g1,g2⟩|g
    ·refine .inl ⟨V, by simp [BN, O, g1], ?_⟩
     cases r with
     | none=>cases V with
      |none=>trivial
      |some _=>simp[dK]at g2
     | some p=>cases V with
      |none=>simp[dK]at g2
      | some q =>
       simp only[dK]at g2|-;obtain⟨N,q2,I,e',q4,q5⟩:=g2;refine⟨N,q2,by omega,e',?_,q5⟩;rw[show p.1-i=(p.1-(i+1))+1 from by omega];simpa using q4
    ·exact .inr (by simp[BN,O,g])
  ·exact .inr (by simp[BN,O])
def iI{P:aj}{E:af}{I:aF}{k:List ao}{c:ao}(O:qd P I k c)(w:a_){M:List (AV × AV × Nat)}{v:List MapEntry}{r:Option (Nat × AV)}
  (W:bL E M v) (h:fi P I k M 0=some r):∃ q,(Vj I c v).run P w=.ok q w/\dK E v 0 r q:=by
 have y:∃ d,P.underlying I=some d:=by
  obtain⟨_,ks,N,_⟩:=O;unfold p_ at N;unfold flatK at N;split at N<;>first|exact⟨_,by assumption⟩|cases N
 obtain⟨d,y⟩:=y;rcases L3 y O M v 0 r W h with⟨q,U,V⟩|g
 ·exact⟨q,by simp[Vj,Sem.bF y,U],V⟩
 ·obtain ⟨q, U, V⟩ := L2 O w M v 0 r W h
  exact⟨q,by simp[Vj,Sem.bF y,g,U],V⟩
def dO(P:aj)(t:aF):Option (aF × aF):=match P.underlying t with
 |some (.map k e)=>some (k,e)
 |_=>none
def gn{P:aj}{t k e:aF}(h:dO P t=some (k,e)):P.underlying t=some (.map k e):=by
 unfold dO at h;split at h
 ·rename_i h1; cases h; exact h1
 ·cases h
def ju(P:aj)(t:aF):Option AV:=match P.info? t with
 | some i=>match i.zero with
  |some z=>some (AV.vh z)
  |none=>none
 |none=>none
def tm{P:aj}{t:aF}{a:AV}(h:ju P t=some a)(w:a_):∃ z,(zeroValue t).run P w=.ok z w/\∀ E,ad E a z:=by
 unfold ju at h;split at h
 ·rename_i i hi
  split at h
  ·rename_i z d
   cases h;exact⟨z,oy hi d w,fun E=>Lo E z⟩
  ·cases h
 ·cases h
def qe(P:aj)(t:aF):Option AV:=match ju P t,yM P t with
 |some (.lit (.slice none 0 0)),some ks=>some (.listF ks [])
 |some z,_=>some z
 |none,_=>none
def L4{P:aj}{t:aF}{a:AV}(h:qe P t=some a)(w:a_):∃ z,(zeroValue t).run P w=.ok z w/\∀ E,ad E a z:=by
 unfold qe at h;split at h
 ·rename_i ks h1 k
  cases h;obtain⟨z,d,g⟩:=tm h1 w;refine⟨z,d,fun E=>?_⟩;have:=g E;simp only[ad]at this;subst this;simp only[ad,fp,G.rZ];exact⟨none,0,rfl,aM _,.inl (by first|rfl|trivial)⟩
 ·rename_i z h1 _
  cases h;exact tm ‹ju P t=some a› w
 ·cases h
def ia(P:aj)(t:aF)(m k:AV)(ok:Bool)(H:List ai):Option AV :=
 match dO P t,m with
 | some (d,g),.map id=>match H[id]? with
  | some (.map h _)=>match jb P d k,qe P g with
   | some q,some z=>match fi P d q h 0 with
    | some r=>let v:=match r with
      |some (_,v)=>v
      |none=>z
     some (match ok with
      |true=>.tuple [v,.lit (.bool r.isSome)]
      |false=>v)
    |none=>none
   |_,_=>none
  |_=>none
 |_,_=>none
def vD{E:af}(HE:aJ E){id cl:Nat}{k:List (AV × AV × Nat)}{c:ao}(h:E.H[id]? = some (.map k cl))(q:ad E (.map id) c) :
  ∃ b n d,c=.map (some b)/\E.ae[id]? = some (some (b,n))/\E.w.heap[b]? = some (.map d cl)/\bL E k d.toList:=by
 have ho:=HE.obj id _ h;simp only[aZ]at ho;obtain⟨b,n,d,h1,v,y⟩:=ho;simp only[ad]at q;obtain⟨_,_,I⟩:=q;obtain⟨N,O,g,M⟩:=I ⟨_,h,rfl⟩;rw[h1]at g;simp only[bf,bo]at g;obtain⟨rfl,rfl⟩:=g;exact⟨b,n,d,M,h1,v,y⟩
def L5{P:aj}{E:af}(HE:aJ E){t:aF}{m k v:AV}{ok:Bool}{c d:ao}(h:ia P t m k ok E.H=some v)(hm:ad E m c)(hk:ad E k d) :
  ∃ u,(lD t c d ok).run P E.w=.ok u E.w/\ad E v u:=by
 unfold ia at h;split at h
 case h_2=>cases h
 rename_i kt et id I;split at h
 case h_2=>cases h
 rename_i es cl hid;split at h
 case h_2=>cases h
 rename_i kv z hkv hz;split at h
 case h_2=>cases h
 rename_i r hr;obtain⟨b,n,ms,rfl,h1,h2,h3⟩:=vD HE hid hm;have y:=jt hkv hk;obtain⟨M,N,g⟩:=iI y E.w h3 hr;obtain⟨O,z1,U⟩:=L4 hz E.w;have V:(getObj b).run P E.w=.ok (.map ms cl) E.w:=by simp[getObj,iG,h2]
 cases h;cases r with
 | none =>
  cases M with
  |some _=>simp[dK]at g
  | none =>
   refine⟨if ok then .tuple #[O,.bool false] else O,?_,?_⟩
   ·simp only[lD,cr,Sem.bF (gn I),cf,V,ft,gM y,N,z1]
   ·cases ok with
    |true=>simp[ad,ax,U E]
    |false=>simpa using U E
 | some p =>
  cases M with
  |none=>simp[dK]at g
  | some q =>
   simp only[dK]at g;obtain⟨q1,W,_,_,_,_⟩:=g;refine⟨if ok then .tuple #[q.2,.bool true] else q.2,?_,?_⟩
   ·simp only[lD,cr,Sem.bF (gn I),cf,V,ft,gM y,N]
   ·cases ok with
    |true=>simp[ad,ax,W]
    |false=>simpa using W
def Wu{E:af}(HE:aJ E):dc E (.map E.H.length) (E.H++[.map [] 0]) (.map (some E.w.heap.size)) { E.w with heap:=E.w.heap.push (.map #[] 0) }:=by
 have d:=Ext.push E.w (.map #[] 0);have h:=af.mv (o:=.map [] 0) (l:=some (E.w.heap.size,0)) HE.len d (fun b n hb=>by cases hb; exact aM _);have g:(E.w.heap.push (.map #[] 0))[E.w.heap.size]? = some (.map #[] 0):=by simp
 refine⟨E.ae++[some (E.w.heap.size,0)],E.X.r,?_,aJ.push HE d (fun b n hb=>?_) ?_,h⟩
 ·simp only [ad]
  refine⟨⟨_,rfl⟩,⟨.map [] 0,by simp,rfl,fun v k=>eV _⟩,fun _=>⟨E.w.heap.size,0,?_,rfl⟩⟩;rw[<-HE.len]; simp
 ·cases hb
  exact⟨aM _,by simp⟩
 ·simp only [aZ]
  refine⟨E.w.heap.size,0,#[],?_,g,by simp[bL]⟩;simp only[af.push]; rw[<-HE.len]; simp
def tn(id:Nat)(H:List ai):Option (AV × List ai) :=
 match H[id]? with
 |some .eD=>some (.map id,H.set id (.map [] 0))
 |_=>none
def GQ{id:Nat}{H H':List ai}{v:AV}(h:tn id H=some (v,H')):H[id]? = some .eD/\v=.map id/\H'=H.set id (.map [] 0):=by
 unfold tn at h;split at h
 ·rename_i d
  cases h;exact⟨d,rfl,rfl⟩
 ·cases h
def L6{id:Nat}{H:List ai}(h:H[id]? = some .eD):tn id H=some (.map id,H.set id (.map [] 0)):=by
 unfold tn;rw[h]
def Wv{E:af}(HE:aJ E){id:Nat}(g:E.H[id]? = some .eD):dc E (.map id) (E.H.set id (.map [] 0)) (.map (some E.w.heap.size)) { E.w with heap:=E.w.heap.push (.map #[] 0) }:=by
 have d:=Ext.push E.w (.map #[] 0);have N:=aY g;have y:(ai.eD).born=true->(ai.eD).aV = none->(ai.map [] 0).aV = none:=fun h=>by cases h
 have M:∀ v,(ai.map [] 0).aV = some v->∀ u,(ai.eD).aV = some u->u<v:=fun v _ u k=>by cases k
 have O:∀ v u,(ai.map [] 0).aV = some v->(ai.eD).aV = some u->u<=v:=fun v u _ k=>by cases k
 have U:(E.w.heap.push (.map #[] 0))[E.w.heap.size]? = some (.map #[] 0):=by simp
 have I:(E.ae.set id (some (E.w.heap.size,0)))[id]? = some (some (E.w.heap.size,0)):=bB (by rw[HE.len]; exact N);have V:E.le { w:={ E.w with heap:=E.w.heap.push (.map #[] 0) },H:=E.H.set id (.map [] 0),ae:=E.ae.set id (some (E.w.heap.size,0)),X:=E.X } :=
  af.lJ g HE.len d.size (fun x q _=>d.same x q) (fun b n h=>by cases h; exact .inl (aM _)) (.inr M) O y
 refine⟨E.ae.set id (some (E.w.heap.size,0)),E.X.r,?_,?_,V⟩
 ·simp only [ad]
  exact⟨⟨_,rfl⟩,⟨.map [] 0,by simp[N],rfl,fun v W=>eV _⟩,fun _=>⟨E.w.heap.size,0,I,rfl⟩⟩
 ·refine aJ.nk HE g d.size (fun x q _ => d.same x q) (fun b n h => by cases h; exact .inl ⟨aM _, by simp⟩) (.inr M) O y ?_
  simp only[aZ];exact⟨E.w.heap.size,0,#[],I,U,by simp[bL]⟩
def Ww{P:aj}{E:af}(HE:aJ E){t:aF}{id:Nat}{v:AV}{H':List ai}(h:tn id E.H=some (v,H')) :
  ∃ u w',(Vk t none).run P E.w=.ok u w'/\dc E v H' u w':=by
 obtain⟨h1,rfl,rfl⟩:=GQ h;exact⟨_,_,by simp[Vk,newObj]; rfl,Wv HE h1⟩
def GR{a b:ByteArray}(h:a.toList=b.toList):a=b:=by
 have h1:(a==b)=true:=by rw[beq_toListBytes,h]; simp
 obtain⟨x⟩:=a;obtain⟨y⟩:=b;have e:x=y:=by simpa using(show (x==y)=true from h1)
 rw[e]
def L7:∀{l m:List ao} {ks:List SK},dx ks l=true->dx ks m=true->eW l m=true->l=m
 | [],[],_,_,_,_=>rfl
 | a::l,b::m,ks,h1,d,h=>by
  cases ks with
  |nil=>simp[dx]at h1
  | cons k ks =>
   simp only[dx,aK]at h1 d;simp only[eW,aK]at h;have e:a=b:=by
    have g:=h1.1;have q:=d.1;have v:=h.1;unfold kindOk at g q;split at g<;>split at q<;>simp_all[qZ]
    exact GR h.1
   rw[e,L7 h1.2 d.2 h.2]
 | [],_::_,_,_,_,h|_::_,[],_,_,_,h=>by simp[eW]at h
def L8{ks:List SK}:∀{l:List ao},dx ks l=true->∀(n:Nat),(l.zip l).all (fun(x,y)=>KR n x y)=true:=by
 intro l
 induction l generalizing ks with
 |nil=>intro _ _; rfl
 | cons a l g =>
  intro h n;cases ks with
  |nil=>simp[dx]at h
  | cons k ks =>
   simp only[dx,aK]at h;simp only[List.zip_cons_cons,List.all_cons,aK];refine⟨?_,g h.2 n⟩;have d:=h.1;unfold kindOk at d;split at d<;>cases n<;>simp_all[KR,beq_toListBytes]
def yQ{P:aj}{k:aF}{l m:List ao}{c d:ao}(h:qd P k l c)(h':qd P k m d)(he:eW l m=true):c=d/\KR 10000 d c=true:=by
 obtain⟨h1,ks,N,g⟩:=h;obtain⟨O,W,q,U⟩:=h';rw[N]at q;cases q;have e:=L7 g U he;subst e;have h0:(∃ x y:Array ao,c=.agg x/\x.toList=l/\d=.agg y/\y.toList=l)\/l=[c]/\l=[d]:=by
  unfold fq at h1 O;split at h1<;>simp_all
 rcases h0 with⟨x,y,rfl,v,rfl,V⟩|⟨I,M⟩
 ·have : x = y := by apply jo; rw [v, V]
  subst this;refine⟨rfl,?_⟩;simp only[KR,beq_self_eq_true,Bool.true_and];rw[v];exact L8 g 9999
 ·have : c = d := by rw [I] at M; simpa using M
  subst this;refine⟨rfl,?_⟩;have:=L8 g 10000;rw[I]at this;simpa using this
def np(P:aj)(t:aF)(m k v:AV)(H:List ai):Option (List ai) :=
 match dO P t,m with
 | some (g,_),.map id=>match H[id]? with
  | some (.map d cl)=>match jb P g k with
   | some h=>if v.closed=true/\k.closed=true then
     match fi P g h d 0 with
     |some (some (i,_))=>some (H.set id (.map (d.modify i fun e=>(k,v,e.2.2)) cl))
     |some none=>some (H.set id (.map (d++[(k,v,cl)]) (cl+1)))
     |none=>none
    else none
   |none=>none
  |_=>none
 |_,_=>none
def e9{E:af}:∀{es:List (AV × AV × Nat)} {h:List MapEntry},bL E es h↔es.length=h.length/\∀(i:Nat) x e,es[i]? = some x->h[i]? = some e ->
  ad E x.1 e.key/\ad E x.2.1 e.val/\e.born=x.2.2/\x.1.closed=true/\x.2.1.closed=true
 | [],[]=>by simp[bL]
 | [],_::_=>by simp[bL]
 |(_,_,_)::_,[]=>by simp[bL]
 | (k,v,n)::es,e::h=>by
  simp only[bL,e9 (es:=es),List.length_cons];constructor
  ·rintro ⟨h1, q, I, M, N, h6, O⟩
   refine⟨by omega,fun i x y d g=>?_⟩;cases i with
   |zero=>simp at d g; subst d; subst g; exact⟨h1,q,I,M,N⟩
   |succ i=>exact O i x y (by simpa using d) (by simpa using g)
  ·rintro ⟨h1, q⟩
   obtain⟨U,V,W,a4,a5⟩:=q 0 (k,v,n) e rfl rfl;exact⟨U,V,W,a4,a5,by omega,fun i x y d g=>q (i+1) x y (by simpa using d) (by simpa using g)⟩
def Cs{P:aj}{E:af}(HE:aJ E){id b n cl cl':Nat}{O es':List (AV × AV × Nat)}{U ms':Array MapEntry}(k:E.H[id]? = some (.map O cl)) (d:E.ae[id]? = some (some (b,n)))
  (hb:E.w.heap[b]? = some (.map U cl)) (I:bL E es' ms'.toList) :
  ∃ w',(setObj b (.map ms' cl')).run P E.w=.ok () w'/\aJ { w:=w',H:=E.H.set id (.map es' cl'),ae:=E.ae,X:=E.X }/\E.le { w:=w',H:=E.H.set id (.map es' cl'),ae:=E.ae,X:=E.X }:=by
 have N:=(HE.lt id b n d).1;have q:({ E.w with heap:=E.w.heap.setIfInBounds b (.map ms' cl') }:a_).heap.size=E.w.heap.size:=by simp
 have h:∀ y,y≠b->({ E.w with heap:=E.w.heap.setIfInBounds b (.map ms' cl') }:a_).heap[y]? = E.w.heap[y]? := by
  intro y V;simp only[BM];rw[iN (fun e=>V e.symm)]
 refine⟨{ E.w with heap:=E.w.heap.setIfInBounds b (.map ms' cl') },by simp[setObj,iG,hb],?_,?_⟩
 ·have M : E.le { w := { E.w with heap := E.w.heap.setIfInBounds b (.map ms' cl') }, H := E.H.set id (.map es' cl'), ae := E.ae, X := E.X } := af.qb HE k d (fun v g => g) q h
  refine HE.set k d (fun v g=>g) q h ?_;simp only[aZ];refine⟨b,n,ms',d,by simp[N],?_⟩;rw[e9]at I|-;refine⟨I.1,fun i x e W he=>?_⟩;obtain⟨a1,a2,a3,a4,a5⟩:=I.2 i x e W he;exact⟨bD M _ a1,bD M _ a2,a3,a4,a5⟩
 ·exact af.qb HE k d (fun v g=>g) q h
def vE{P:aj}{q:aF}{k:List ao}:∀{d:List (AV × AV × Nat)} {i j:Nat} {v:AV},fi P q k d i=some (some (j,v))->i<=j/\∃ x l,d[j-i]? = some x/\jb P q x.1=some l/\eW k l=true
 | [],_,_,_,h=>by simp[fi]at h
 | (y,I,n)::d,i,j,v,h=>by
  simp only[fi]at h;split at h
  case h_2=>cases h
  rename_i l M;cases g:eW k l with
  | true =>
   rw[g]at h;cases h;exact⟨aM _,(y,I,n),l,by simp,M,g⟩
  | false =>
   rw[g]at h;obtain⟨h1,x,l',N,O,U⟩:=vE h;refine⟨by omega,x,l',?_,O,U⟩;rw[show j-i=(j-(i+1))+1 from by omega];simpa using N
def L9{P:aj}{E:af}(HE:aJ E){t:aF}{m k v:AV}{c d u:ao}{H':List ai}(h:np P t m k v E.H=some H')(hm:ad E m c)(hk:ad E k d)(hv:ad E v u) :
  ∃ w',(mY t c d u).run P E.w=.ok () w'/\aJ { w:=w',H:=H',ae:=E.ae,X:=E.X }/\E.le { w:=w',H:=H',ae:=E.ae,X:=E.X }:=by
 unfold np at h;split at h
 case h_2=>cases h
 rename_i kt et id ht;split at h
 case h_2=>cases h
 rename_i es cl hid;split at h
 case h_2=>cases h
 rename_i kv hkv;split at h
 case isFalse=>cases h
 rename_i U;obtain⟨b,n,M,rfl,h1,h2,h3⟩:=vD HE hid hm;have N:=jt hkv hk;have e1:(getObj b).run P E.w=.ok (.map M cl) E.w:=by simp[getObj,iG,h2]
 obtain⟨W,hall⟩:=e9.1 h3;split at h
 ·rename_i i v0 V
  cases h;obtain⟨r',g1,O⟩:=iI N E.w h3 V;cases r' with
  |none=>simp[dK]at O
  | some q =>
   simp only[dK]at O;obtain⟨q1,q2,_,e',q4,q5⟩:=O;obtain⟨_,x,l,f1,f2,f3⟩:=vE V;simp only[fD]at q4 f1;obtain⟨a1,a2,a3,a4,a5⟩:=hall i x e' f1 q4;obtain⟨s1,s2⟩:=yQ N (jt f2 a1) f3;have q4':M[i]? = some e':=by simpa using q4
   obtain⟨w',r1,r2,r3⟩:=Cs (P:=P) HE (es':=es.modify i fun e=>(k,v,e.2.2)) (ms':=M.modify i fun e=>{ e with key:=d,val:=u }) (cl':=cl) hid h1 h2 (by
    rw[e9];refine⟨by simp[W],fun j y z g I=>?_⟩;simp only[iH]at g;simp only[kS,iH]at I;obtain⟨y0,hy0,rfl⟩:=eL.1 g;obtain⟨z0,hz0,rfl⟩:=eL.1 I;obtain⟨b1,b2,b3,b4,b5⟩:=hall j y0 z0 hy0 hz0;by_cases e:i=j
    ·subst e
     simp only[if_true];exact⟨hk,hv,b3,U.2,U.1⟩
    ·simp only [iN e]
     exact⟨b1,b2,b3,b4,b5⟩)
   refine⟨w',?_,r2,r3⟩;subst q1;have hst:(qP e'.key d).run P E.w=.ok d E.w:=by simp[qP,s2]
   simp only[mY,cr,Sem.bF (gn ht),cf,e1,gM N,g1,q4',ff,m_,hst];exact r1
 ·rename_i V
  cases h;obtain⟨r',g1,O⟩:=iI N E.w h3 V;cases r' with
  |some _=>simp[dK]at O
  | none =>
   obtain⟨w',r1,r2,r3⟩:=Cs (P:=P) HE (es':=es++[(k,v,cl)]) (ms':=M.push { key:=d,val:=u,born:=cl }) (cl':=cl+1) hid h1 h2 (by
    rw[e9];refine⟨by simp[W],fun j y z g I=>?_⟩;simp only[ob,gk,W]at g I;by_cases e:j<M.toList.length
    ·simp only [iP e] at g I
     exact hall j y z g I
    ·simp only [iN e] at g I
     cases hj:j-M.toList.length with
     | zero =>
      rw[hj]at g I;simp at g I;subst g; subst I;exact⟨hk,hv,rfl,U.2,U.1⟩
     |succ _=>rw[hj]at g; simp at g)
   refine⟨w',?_,r2,r3⟩;simp only[mY,cr,Sem.bF (gn ht),cf,e1,gM N,g1];exact r1
 ·cases h
def yR(P:aj)(t:aF)(m k:AV)(H:List ai):Option (List ai) :=
 match dO P t,m with
 | some (g,_),.map id=>match H[id]? with
  | some (.map d cl)=>match jb P g k with
   | some h=>match fi P g h d 0 with
    |some (some (i,_))=>some (H.set id (.map (d.eraseIdx i) cl))
    |some none=>some (H.set id (.map d cl))
    |none=>none
   |none=>none
  |_=>none
 |_,_=>none
def Wx{P:aj}{E:af}(HE:aJ E){t ty:aF}{jv:Array aF}{m k:AV}{c d:ao}{cs:Array ao}{H':List ai}(h:yR P t m k E.H=some H')(h0:jv[0]? = some t)
  (h1':cs[0]? = some c) (h2':cs[1]? = some d) (hm:ad E m c) (hk:ad E k d) :
  ∃ w',(Vl jv ty cs).run P E.w=.ok (.tuple #[]) w'/\aJ { w:=w',H:=H',ae:=E.ae,X:=E.X }/\E.le { w:=w',H:=H',ae:=E.ae,X:=E.X }:=by
 unfold yR at h;split at h
 case h_2=>cases h
 rename_i kt et id ht;split at h
 case h_2=>cases h
 rename_i es cl U;split at h
 case h_2=>cases h
 rename_i kv hkv;obtain⟨b,n,g,rfl,h1,V,O⟩:=vD HE U hm;have N:=jt hkv hk;have e1:(getObj b).run P E.w=.ok (.map g cl) E.w:=by simp[getObj,iG,V]
 obtain⟨hlen,hall⟩:=e9.1 O;split at h
 ·rename_i i v0 W
  cases h;obtain⟨r',g1,v⟩:=iI N E.w O W;cases r' with
  |none=>simp[dK]at v
  | some q =>
   simp only[dK]at v;obtain⟨q1,q2,_,e',q4,q5⟩:=v;obtain⟨w',r1,r2,r3⟩:=Cs (P:=P) HE (es':=es.eraseIdx i) (ms':=g.eraseIdxIfInBounds i) (cl':=cl) U h1 V (by
    rw[e9];have e:(g.eraseIdxIfInBounds i).toList=g.toList.eraseIdx i:=by simp
    rw[e];refine⟨by simp[List.length_eraseIdx,hlen],fun j y z I M=>?_⟩;rw[List.getElem?_eraseIdx]at I M;by_cases hj:j<i
    ·simp only [iP hj] at I M
     exact hall j y z I M
    ·simp only [iN hj] at I M
     exact hall (j+1) y z I M)
   refine⟨w',?_,r2,r3⟩;subst q1;simp only[Vl,h0,h1',h2',cr,Sem.bF (gn ht),cf,e1,gM N,g1];rw[r1];rfl
 ·rename_i W
  cases h;obtain⟨r',g1,v⟩:=iI N E.w O W;cases r' with
  |some _=>simp[dK]at v
  | none =>
   obtain⟨w',r1,r2,r3⟩:=Cs (P:=P) HE (es':=es) (ms':=g) (cl':=cl) U h1 V O;refine⟨w',?_,r2,r3⟩;simp only[Vl,h0,h1',h2',cr,Sem.bF (gn ht),cf,e1,gM N,g1];rw[r1];rfl
 ·cases h
end Go.AL

namespace Go.AL
open Go
variable [Dr]
def L_{α:Type}{k:Nat}:∀{l:List (List α)} (n:Nat),(∀ r∈l,r.length=k)->(l.take n).flatten=l.flatten.take (n*k)
 | [],n,_=>by simp
 |r::l,0,_=>by simp
 | r::l,n+1,h=>by
  have d:r.length=k:=h r cX;have g:=L_ (l:=l) n (fun x q=>h x (dp _ q));have e:(n+1)*k=k+n*k:=by rw[gx]; omega
  simp only[List.take_succ_cons,pT,g,e];rw[List.take_append,d];have v:r.take (k+n*k)=r:=List.take_of_length_le (by omega);have y:k+n*k-k=n*k:=by omega
  rw[v,y]
def Ma{α:Type}{k:Nat}:∀{l:List (List α)} (n:Nat),(∀ r∈l,r.length=k)->(l.drop n).flatten=l.flatten.drop (n*k)
 | [],n,_=>by simp
 |r::l,0,_=>by simp
 | r::l,n+1,h=>by
  have d:r.length=k:=h r cX;have g:=Ma (l:=l) n (fun x q=>h x (dp _ q));have e:(n+1)*k=k+n*k:=by rw[gx]; omega
  simp only[List.drop_succ_cons,pT,g,e];rw[List.drop_append,d];have v:r.drop (k+n*k)=[]:=List.drop_eq_nil_of_le (by omega);have y:k+n*k-k=n*k:=by omega
  rw[v,y,List.nil_append]
def Wy{P:aj}{E:af}(HE:aJ E){id k al b m oF:Nat}{rZ news:List (List AV)}{vals:List ao}(W:E.H[id]? = some (.vQ k al rZ)) (I:E.ae[id]? = some (some (b,m)))
  (q:ax E news.flatten vals) (h1:∀ x∈vals,dZ x=true) (hw:∀ r∈news,r.length=k) (hcl:fv news) (hle:oF+news.length<=rZ.length) :
  ∃ w',(storeCells ⟨b,oF*k,none⟩ vals).run P E.w=.ok () w'/\aJ { w:=w',H:=E.H.set id (.vQ k al (rZ.take oF++news++rZ.drop (oF+news.length))),ae:=E.ae,X:=E.X } /\
   E.le { w:=w',H:=E.H.set id (.vQ k al (rZ.take oF++news++rZ.drop (oF+news.length))),ae:=E.ae,X:=E.X }:=by
 rcases HE.obj id _ W with⟨M,_⟩|⟨b',m',M,⟨d,U,V,hsize⟩,e3,e4,e5⟩
 ·rw[I]at M; cases M
 rw[I]at M;cases M;have y:∀ r∈rZ,r.length=k:=GB e5;have hlen:vals.length=news.length*k:=by rw[<-jZ q,vw hw]
 have hmul:(oF+news.length)*k<=rZ.length*k:=qN _ hle;rw[gx]at hmul;have hmul2:rZ.length*k<=m*k:=qN _ e3;have N:oF*k+0+vals.length<=d.size:=by rw[hsize]; omega
 have hst:=run_storeCells_at P b (oF*k) U vals 0 d E.w V N (fun v q=>by rw[vt]; exact h1 v q);simp only[n_]at hst N;generalize O:E.w.setRow b (d.toList.take (oF*k)++vals++d.toList.drop (oF*k+vals.length)).toArray=w' at hst;have hsize':w'.heap.size=E.w.heap.size:=by rw[<-O]; exact setRow_size _ _ _
 have henv:fw E.w w':=by rw[<-O]; exact⟨rfl,rfl,rfl,by first|exact fun _=>aM _|exact fun _=>gY _ _⟩
 have hother:∀ x,x≠b->w'.heap[x]? = E.w.heap[x]? := by intro x hx; rw[<-O]; exact setRow_other _ _ _ _ hx
 have hb':w'.heap[b]? = some (.cells (d.toList.take (oF*k)++vals++d.toList.drop (oF*k+vals.length)).toArray U (0,0)):=by
  rw[<-O]; exact setRow_heap E.w b d _ U (0,0) V
 have hver:∀ v,(ai.vQ k al (rZ.take oF++news++rZ.drop (oF+news.length))).aV = some v->(ai.vQ k al rZ).aV = some v:=fun v q=>by simpa[ai.aV]using q
 have hle':=af.qb (o':=.vQ k al (rZ.take oF++news++rZ.drop (oF+news.length))) HE W I hver hsize' hother;have hl2:(rZ.take oF++news++rZ.drop (oF+news.length)).length=rZ.length:=by
  simp only[fu,mX,pV];omega
 refine⟨w',hst,aJ.set HE W I hver hsize' hother ?_,hle'⟩;simp only[aZ];right;refine⟨b,m,I,⟨_,U,hb',?_⟩,by rw[hl2]; exact e3,?_,?_⟩
 ·simp only [BJ, fu, mX, pV, iF, hsize] at N |-
  omega
 ·intro r g
  simp only[db]at g;rcases g with(h|h)|h
  ·exact e4 r (yo h)
  ·exact hcl r h
  ·exact e4 r (BF h)
 ·refine Ci ?_ ?_
  ·intro r g
   simp only[db]at g;rcases g with(h|h)|h
   ·exact y r (yo h)
   ·exact hw r h
   ·exact y r (BF h)
  ·rw [BK, BK, L_ oF y, Ma _ y]
   have hflat:=Ch e5;have bT:news.flatten.length=news.length*k:=vw hw;have:=Ck (E:=E) (E':={ w:=w',H:=E.H.set id (.vQ k al (rZ.take oF++news++rZ.drop (oF+news.length))),ae:=E.ae,X:=E.X }) (o:=0) (col:=oF*k) (as:=rZ.flatten) (cs:=news.flatten)
    (fun a c g=>bD hle' a g) V (by simpa using hb') (by simpa using N) hflat q h1 (by rw[vw y,bT]; omega)
   rw[bT]at this;rw[show (oF+news.length)*k=oF*k+news.length*k from gx _ _ _];exact this
def yS(P:aj)(t:aF)(x:AV)(H:List ai):Option (List ai) :=
 match cZ P t,x with
 | .slice e sz _,.vQ w id al oF n=>match fF P e,H[id]? with
  | some z,some (.vQ k v rZ)=>if k=w/\w=sz/\v=al/\z.length=sz/\0<sz/\oF+n<=rZ.length then
    some (H.set id (.vQ k v (rZ.take oF++cB n (z.map AV.lit)++rZ.drop (oF+n)))) else none
  |_,_=>none
 |_,_=>none
def Wz{P:aj}{E:af}(HE:aJ E){t ty:aF}{jv:Array aF}{x:AV}{c:ao}{cs:Array ao}{H':List ai}(h:yS P t x E.H=some H')(h0:jv[0]? = some t)
  (U:cs[0]? = some c) (y:ad E x c) :
  ∃ w',(Vm jv ty cs).run P E.w=.ok (.tuple #[]) w'/\aJ { w:=w',H:=H',ae:=E.ae,X:=E.X }/\E.le { w:=w',H:=H',ae:=E.ae,X:=E.X }:=by
 unfold yS at h;split at h
 case h_2=>cases h
 rename_i e sz by_ w id al oF n hk;obtain⟨hu,i,hi,hs,_⟩:=jq hk;split at h
 case h_2=>cases h
 rename_i z k v rZ hz d;split at h
 case isFalse=>cases h
 rename_i hc;obtain⟨rfl,rfl,rfl,hzl,hpos,V⟩:=hc;cases h;obtain⟨i',I,W,hz1,hz2,hz3⟩:=ox hz;rw[hi]at W;cases W;simp only[ad]at y;obtain⟨⟨aN,cap,rfl,hcap,hb⟩,_,hlive⟩:=y;obtain⟨q1,q2⟩:=hlive ⟨_,d,rfl⟩;cases n with
 | zero =>
  refine⟨E.w,?_,?_,?_⟩
  ·simp only [Vm, h0, U, cr, Sem.bF hu, cf]
   cases aN<;>rfl
  ·simp only [amj, da, n_, yq]
   rw[ph d];exact HE
  ·simp only [amj, da, n_, yq]
   rw[ph d];exact af.le.refl E
 | succ n =>
  obtain⟨b,o,rfl⟩:=hb (by omega);have q:∃ b m,E.ae[id]? = some (some (b,m)):=by
   rcases HE.obj id _ d with⟨_,M⟩|⟨N,m',M,_⟩
   ·subst M
    simp at V
   ·exact⟨N,m',M⟩
  obtain⟨N,m,q⟩:=q;obtain⟨g1,o',g2,g3⟩:=q2 N m q;have ho:=g2 (by omega);subst ho;simp only[mq,bf,Addr.mk.injEq]at g3;obtain⟨⟨rfl,rfl,_⟩,_,_⟩:=g3;have hvals:(BI I.cells (n+1)).toList=(cB (n+1) z).flatten:=by
   rw[<-hz2];have hzs:0<I.cells.size:=by
    have:I.cells.size=z.length:=by rw[<-hz2]; simp
    omega
   exact range_zero I.cells (n+1) hzs
  have O:∀ r∈cB (n+1) (z.map AV.lit),r=z.map AV.lit:=fun r g=>(amk.1 g).2;obtain⟨w',r1,r2,r3⟩:=Wy (P:=P) HE (oF:=oF) (news:=cB (n+1) (z.map AV.lit)) (vals:=(cB (n+1) z).flatten) d q (yO z (n+1))
   (fun x y=>hz3 x (yP y)) (fun r g=>by rw[O r g]; simp[hzl]) (fun r g=>by rw[O r g]; exact GN z) (by simpa using V)
  simp only[List.length_replicate]at r2 r3;refine⟨w',?_,r2,r3⟩;simp only[Vm,h0,U,cr,Sem.bF hu,cf,oy hi hz1,hvals];rw[r1];rfl
def WA{P:aj}{w:a_}{t xt ty e:aF}{i:TypeInfo}{z:ao}{sz:Nat}{aN:Option Addr}{m:Nat}{k k':IntKind}
  (q:P.underlying t=some (.slice e)) (v:P.underlying xt=some (.int k)) (hi:P.info? e=some i) (y:i.size=sz) (I:i.zero=some z) (d:0<sz) (h0:0<m) (hm:m<=1048576) (hb:i.bytes<=1048576) :
  ∃ C,m<=C/\(pU #[t,xt] ty #[.slice aN 0 0,.int k' (m:Int)]).run P w =
   .ok (.slice (some ⟨w.heap.size,0,none⟩) m C) (w.drew.alloc (.cells ((BI z.cells m).toList++(BI z.cells (C-m)).toList).toArray e)):=by
 have g:IntKind.i64.wrap (m:Int)=m:=wrap_small (by omega) (by omega);have h1:¬ (m<=0):=by omega
 have M:¬ ((m:Int)<0):=by omega
 have h:m*i.bytes<=1048576*1048576:=Nat.mul_le_mul hm hb;have N:¬ ((281474976710656:Int)<(m:Int)*(i.bytes:Int)):=by
  have:((m*i.bytes:Nat):Int)<=1099511627776:=Int.ofNat_le.2 (Nat.le_trans h (by decide));rw[Int.natCast_mul]at this;omega
 have O:¬ (IntKind.i64.max<(m:Int)):=by
  show ¬ ((9223372036854775807:Int)<(m:Int))
  omega
 have W:KN m 0*i.bytes<=281474976710656:=growslice_fits (by omega) (by omega);have U:¬ (281474976710656<KN m 0*i.bytes):=by omega
 have V:¬ (m*sz=0):=by
  have:=Nat.mul_pos h0 d;omega
 refine⟨grownCap w m 0 e,?_,?_⟩
 ·simp[grownCap,Question.cut]
 ·simp [pU, run_underlying q, run_underlying v, sizeOf, typeInfo, zeroValue, hi, I, y, asInt, asIntOf, g, h1, M, N, O, U, V, Question.forced, newRow, grownCap, Builtin.firstCells]
  rw[iN (by omega:¬ m=0),iN (by omega:¬ (9223372036854775807:Int)<(m:Int))];cases aN<;>simp[loadCells,loadCellsFrom]<;>(congr 2; apply jo; simp)
def tq(P:aj)(t xt:aF)(s x:AV)(H:List ai):Option (AV × List ai) :=
 match cZ P t,cZ P xt,s,x with
 | .slice e sz d,.int _,.lit (.slice none 0 0),.lit (.int _ n)=>match fF P e with
  |some z=>if z.length=sz/\0<sz/\d<=1048576/\0<n/\n<=1048576 then some (.vQ sz H.length 0 0 n.toNat,H++[.vQ sz 0 (cB n.toNat (z.map AV.lit))]) else none
  |none=>none
 |_,_,_,_=>none
def WB{P:aj}{E:af}(HE:aJ E){t xt ty:aF}{s x v:AV}{H':List ai}{c N:ao}(h:tq P t xt s x E.H=some (v,H'))(O:ad E s c)(g:ad E x N) :
  ∃ u w',(pU #[t,xt] ty #[c,N]).run P E.w=.ok u w'/\dc E v H' u w':=by
 unfold tq at h;split at h
 case h_2=>cases h
 rename_i e sz by_ k k' n hk W;split at h
 case h_2=>cases h
 rename_i z hz;split at h
 case isFalse=>cases h
 rename_i hc;obtain⟨h1,h2,h3,h4,h5⟩:=hc;cases h;obtain⟨hu,i,hi,hsz,hby⟩:=jq hk;obtain⟨i',q,M,hz1,y,hz3⟩:=ox hz;rw[hi]at M;cases M;simp only[ad]at O g;subst O;subst g;obtain⟨m,rfl⟩:∃ m:Nat,n=(m:Int):=⟨n.toNat,by omega⟩
 obtain⟨C,g1,U⟩:=WA (P:=P) (w:=E.w) (ty:=ty) (aN:=none) (k':=k') (m:=m) hu (Lz W) hi hsz hz1 h2 (by omega) (by omega) (by omega);have hzs:0<q.cells.size:=by
  have:q.cells.size=z.length:=by rw[<-y]; simp
  omega
 have V:(BI q.cells m).toList=(cB m z).flatten:=by rw[<-y]; exact range_zero q.cells m hzs
 rw[V]at U;have I:∀ r∈cB m (z.map AV.lit),r=z.map AV.lit:=fun r d=>(amk.1 d).2;refine⟨_,_,U,?_⟩;simp only[Int.toNat_natCast];refine LO HE (yO z m) (fun x g=>hz3 x (yP g)) (fun r d=>by rw[I r d]; simp[h1]) (fun r d=>by rw[I r d]; exact GN z) (by simp) g1 ?_;simp only[iF,size_zeroCells];rw[<-h1,<-y];simp
end Go.AL

namespace Go.AL
open Go
variable [Dr]
def yT(P:aj)(t:aF)(n:Nat)(parts:List (Nat × AV))(H:List ai):Option (AV × List ai) :=
 match vz P t n parts with
 |some (.list sz rZ)=>some (.vQ sz H.length 0 0 rZ.length,H++[.vQ sz 0 rZ])
 |_=>none
def Mb(k:Nat):∀(n:Nat) (out:List AV),out.length=n*k->(chunk k n out).flatten=out
 | 0,out,h=>by
  have:out=[]:=uU (by simpa using h);subst this;rfl
 | n+1,out,h=>by
  simp only[chunk,pT];rw[Mb k n (out.drop k) (by rw[pV,h,aml]; omega)];exact yq k out
def Mc(k:Nat):∀(n:Nat) (out:List AV),out.length=n*k->∀ r∈chunk k n out,r.length=k
 |0,_,_,r,d=>by simp[chunk]at d
 | n+1,out,h,r,d=>by
  simp only[chunk]at d;rw[aml]at h;rcases cq.1 d with rfl|d
  ·rw [mX]
   omega
  ·exact Mc k n (out.drop k) (by rw[pV]; omega) r d
def WC{P:aj}{E:af}(HE:aJ E){t:aF}{n:Nat}{parts:List (Nat × AV)}{cparts:List (Nat × ao)}{v:AV}{H':List ai}(h:yT P t n parts E.H=some (v,H'))
  (hm:parts.map (·.1)=cparts.map (·.1)) (hv:ax E (parts.map (·.2)) (cparts.map (·.2))) :
  ∃ u w',(KQ t n cparts.toArray).run P E.w=.ok u w'/\dc E v H' u w':=by
 unfold yT at h;split at h
 case h_2=>cases h
 rename_i k rows0 h0;cases h;unfold vz at h0;split at h0
 case h_2=>cases h0
 rename_i e sz by_ hk;obtain⟨hu,i,hi,I,_⟩:=jq hk;split at h0
 case h_2=>cases h0
 rename_i z hz;obtain⟨i',g,M,U,N,V⟩:=ox hz;rw[hi]at M;cases M;split at h0
 case isFalse=>cases h0
 rename_i hc;obtain⟨g1,g2,g3⟩:=hc;split at h0
 case h_2=>cases h0
 rename_i out O;split at h0
 case isFalse=>cases h0
 rename_i q;have W:g.cells.size=sz:=by rw[<-g1,<-N]; simp
 obtain⟨d,y⟩:∃ d:Array ao,d.toList=(cB n z).flatten:=⟨((cB n z).flatten).toArray,by simp⟩
 obtain⟨o,f1,f2,f3⟩:=yJ (E:=E) (cs:=d) O (by rw[y]; exact yO z n) (by rw[y]; intro x hx; exact V x (yP hx)) hm hv;cases n with
 |zero=>cases h0
 |succ n =>
 cases h0;refine⟨.slice (some ⟨E.w.heap.size,0,none⟩) (n+1) (n+1),{ E.w with heap:=E.w.heap.push (.cells (o.toList++[]).toArray e) },?_,?_⟩
 ·have hno : ¬ ((n + 1) * i.size > 2 ^ 24) := by rw [I]; omega
  simp only[KQ,cr,Sem.bF hu,cf,Sem.run_sizeOf hi];rw[iN hno];have h0:¬ ((n+1)*i.size=0):=by
   intro h;rcases Nat.mul_eq_zero.1 h with h|h
   ·omega
   ·omega
  rw[iN h0];simp only[cr,oy hi U,cf,ft];have:(Array.map (fun x=>g.cells[x%g.cells.size]!) (Array.range ((n+1)*i.size)))=d:=by
   apply jo;rw[I,<-W,range_zero g.cells (n+1) (by omega),N,y]
  rw[this,I,f1];simp[newRow]
 ·rw [yK]
  exact LS HE (C:=n+1) (by rw[Mb k (n+1) out q.2]; exact f2) f3 (Mc k (n+1) out q.2) (Gz k _ out q.1) (yK ..) (aM _) (by simp)
end Go.AL

namespace Go.AL
open Go
variable [Dr]
def e_ (r:Nat->List (Option (Option (Nat × Nat)))) (d:Nat) (q:Option (Nat × Nat)):Nat->List (Option (Option (Nat × Nat))):=fun l=>if l=d then r l++[some q] else r l
def ib (r:Nat->List (Option (Option (Nat × Nat)))) (d h:Nat):Nat->List (Option (Option (Nat × Nat))):=fun l=>if l=d then (r l).set h none else r l
def jd (r:Nat->List (Option (Option (Nat × Nat)))) (d:Nat):Nat->List (Option (Option (Nat × Nat))):=fun l=>if l=d then (r l).map fun _=>none else r l
def WD{r:Nat->List (Option (Option (Nat × Nat)))}{g l h:Nat}{q:Option (Nat × Nat)}{x:Option (Option (Nat × Nat))}(d:(e_ r g q l)[h]? = some x):(r l)[h]? = some x\/(l=g/\h=(r l).length/\x=some q):=by
 unfold e_ at d;split at d
 ·rename_i e
  rw[gk]at d;split at d
  ·exact .inl d
  ·right
   cases k:h-(r l).length with
   | zero =>
    rw[k]at d;simp at d;exact⟨e,by omega,d.symm⟩
   |succ n=>rw[k]at d; simp at d
 ·exact .inl d
def GS{r:Nat->List (Option (Option (Nat × Nat)))}{l0 l h:Nat}{q:Option (Nat × Nat)}(d:h<(r l).length):h<(e_ r l0 q l).length/\(e_ r l0 q l)[h]? = (r l)[h]? := by
 unfold e_;split
 ·exact⟨by simp; omega,di d⟩
 ·exact⟨d,rfl⟩
def WE{r:Nat->List (Option (Option (Nat × Nat)))}{g h0 l h:Nat}{q:Option (Nat × Nat)}(d:(ib r g h0 l)[h]? = some (some q)):(r l)[h]? = some (some q)/\¬ (l=g/\h=h0):=by
 unfold ib at d;split at d
 ·rw [eC] at d
  split at d
  ·split at d<;>cases d
  ·rename_i h1
   exact⟨d,fun e=>h1 e.2.symm⟩
 ·rename_i h1
  exact⟨d,fun e=>h1 e.1⟩
def Cu{r:Nat->List (Option (Option (Nat × Nat)))}{d h0 l h:Nat}(g:¬ (l=d/\h=h0)):(ib r d h0 l)[h]? = (r l)[h]? := by
 unfold ib;split
 ·rename_i e
  exact bg (fun k=>g ⟨e,k.symm⟩)
 ·rfl
def WG{r:Nat->List (Option (Option (Nat × Nat)))}{d h0 l:Nat}:(ib r d h0 l).length=(r l).length:=by
 unfold ib;split<;>simp
def j6{r:Nat->List (Option (Option (Nat × Nat)))}{g l h:Nat}{q:Option (Nat × Nat)}(d:(jd r g l)[h]? = some (some q)):(r l)[h]? = some (some q)/\l≠g:=by
 unfold jd at d;split at d
 ·rw [bY] at d
  cases k:(r l)[h]? with
  |none=>rw[k]at d; cases d
  |some y=>rw[k]at d; cases d
 ·rename_i e
  exact⟨d,e⟩
def Md{r:Nat->List (Option (Option (Nat × Nat)))}{d l:Nat}:(jd r d l).length=(r l).length:=by
 unfold jd;split<;>simp
def aJ.attach{E:af}(H:aJ E){id j I:Nat}{o o' oj:ai}{q:Option (Nat × Nat)}(W:E.H[id]? = some o)(hlab:o.label=some I)(hlab':o'.label=some I)(hver:o'.aV = o.aV)(hj:E.H[j]? = some oj)(hlj:oj.label=none)(hq:E.ae[j]? = some q)
  (ho:E.le { w:=E.w,H:=(E.H.set id o').set j .dead,ae:=E.ae.set j none,X:=E.X.re (e_ E.X.r I q) }->aZ { w:=E.w,H:=(E.H.set id o').set j .dead,ae:=E.ae.set j none,X:=E.X.re (e_ E.X.r I q) } id o')
  (hmm:o.dW=none\/o'.dW=o.dW:=by first|exact .inl rfl|exact .inr rfl|assumption) :
  aJ { w:=E.w,H:=(E.H.set id o').set j .dead,ae:=E.ae.set j none,X:=E.X.re (e_ E.X.r I q) }/\E.le { w:=E.w,H:=(E.H.set id o').set j .dead,ae:=E.ae.set j none,X:=E.X.re (e_ E.X.r I q) }:=by
 have hne:j≠id:=fun e=>by rw[e,W]at hj; cases hj; rw[hlab]at hlj; cases hlj
 have hlt:=aY W;have hltj:=aY hj;have loc_old:∀(i:Nat) x,(E.ae.set j none)[i]? = some (some x)->i≠j/\E.ae[i]? = some (some x):=fun i x hi=>by
  rw[eC]at hi;split at hi
  ·split at hi<;>cases hi
  ·rename_i e
   exact⟨Ne.symm e,hi⟩
 have H_old:∀(i:Nat) x,((E.H.set id o').set j .dead)[i]? = some x->(i=j/\x=.dead)\/(i=id/\x=o')\/(i≠j/\i≠id/\E.H[i]? = some x):=fun i x hi=>by
  by_cases e:i=j
  ·subst e
   rw[bB (by simp; exact hltj)]at hi;cases hi;exact .inl ⟨rfl,rfl⟩
  ·rw [bg (Ne.symm e)] at hi
   by_cases M:i=id
   ·subst M
    rw[bB hlt]at hi;cases hi;exact .inr (.inl ⟨rfl,rfl⟩)
   ·rw [bg (Ne.symm M)] at hi
    exact .inr (.inr ⟨e,M,hi⟩)
 have hid':((E.H.set id o').set j .dead)[id]? = some o':=by
  rw[bg hne,bB hlt]
 have rcase:∀(l h b m:Nat),(e_ E.X.r I q l)[h]? = some (some (some (b,m)))->(E.X.r l)[h]? = some (some (some (b,m)))\/(l=I/\h=(E.X.r l).length/\E.ae[j]? = some (some (b,m))):=fun l h b m hk=>by
  rcases WD hk with g|⟨O,g2,g3⟩
  ·exact .inl g
  ·cases g3
   exact .inr ⟨O,g2,hq⟩
 have hle:E.le { w:=E.w,H:=(E.H.set id o').set j .dead,ae:=E.ae.set j none,X:=E.X.re (e_ E.X.r I q) }:=by
  refine⟨fun i al hp=>?_,aM _,fun _ _ _=>rfl,fun b hb hno=>?_,fun i al hp N=>?_,⟨rfl,rfl⟩,fun l h hh=>?_,.refl _,fun i l x h1 d hv=>?_⟩
  rotate_right
  ·by_cases e : i = j
   ·subst e
    obtain⟨y,V,h4⟩:=hv;simp only[]at V;rw[bB (by simp; exact hltj)]at V;cases V;cases h4
   ·by_cases M : i = id
    ·subst M
     rw[W]at h1;cases h1;have e3:I=l:=by
      have:=ai.og d;rw[hlab]at this;cases this;rfl
     subst e3;rcases hmm with h|h
     ·rw[h]at d; cases d
     ·exact⟨⟨[some q],iP rfl⟩,o',hid',by rw[h]; exact d⟩
    ·have e3 : l ≠ I := fun e3 => M (H.uniq i id x o l h1 W (ai.og d) (by rw [e3]; exact hlab))
     exact⟨⟨[],by rw[da]; exact iN e3⟩,x,by simp only[]; rw[bg (Ne.symm e),bg (Ne.symm M)]; exact h1,d⟩
  ·obtain ⟨x, h1, d⟩ := hp
   by_cases e:i=j
   ·subst e
    exact⟨.dead,by simp only[]; rw[bB (by simp; exact hltj)],rfl,fun v hv=>by cases hv⟩
   ·by_cases M : i = id
    ·subst M
     rw[W]at h1;cases h1;exact⟨o',hid',ai.B2 hlab',fun v hv=>d.2 v (by rw[<-hver]; exact hv)⟩
    ·exact⟨x,by simp only[]; rw[bg (Ne.symm e),bg (Ne.symm M)]; exact h1,d⟩
  ·rintro (⟨i, c, hi⟩ | ⟨l, h, m, hm⟩)
   ·exact hno (.inl ⟨i,c,(loc_old i _ hi).2⟩)
   ·rcases rcase l h b m hm with h1 | ⟨_, _, h1⟩
    ·exact hno (.inr ⟨l,h,m,h1⟩)
    ·exact hno (.inl ⟨j,m,h1⟩)
  ·obtain ⟨x, h1, d⟩ := N
   rcases H_old i x h1 with⟨_,rfl⟩|⟨rfl,rfl⟩|⟨e1,M,V⟩
   ·cases d
   ·exact⟨⟨o,W,by rw[<-hver]; exact d⟩,by simp only[]; rw[bg hne]⟩
   ·exact⟨⟨x,V,d⟩,by simp only[]; rw[bg (Ne.symm e1)]⟩
  ·obtain ⟨O, g2⟩ := GS (r := E.X.r) (l0 := I) (q := q) hh
   exact⟨O,fun y hy=>by
    have hy:(e_ E.X.r I q l)[h]? = some (some y):=hy
    rwa [g2]at hy⟩
 refine⟨⟨by simp[H.len],fun i k b m n hi hk=>H.inj i k b m n (loc_old i _ hi).2 (loc_old k _ hk).2,fun i b m hi=>H.lt i b m (loc_old i _ hi).2,fun b hb=>H.X b hb,fun i x hi=>?_,H.gL.bU hle.toC,fun l h l' h' b m n h1 d=>?_,fun i b m l h n hi hk=>?_,fun l h b m hk=>?_,fun i k x y l hi hk h1 d=>?_,fun l hn h y hy=>?_⟩,hle⟩
 ·rcases H_old i x hi with ⟨rfl, rfl⟩ | ⟨rfl, rfl⟩ | ⟨e1, M, V⟩
  ·simp only [aZ]
   rw[bB (by rw[H.len]; exact hltj)]
  ·exact ho hle
  ·refine nh (fun a _ hr => bD hle a hr) (by simp only []; rw [bg (Ne.symm e1)]) (fun _ _ _ => rfl) (fun l N => ?_) (H.obj i x V)
   have hne2:l≠I:=fun e=>M (H.uniq i id x o l V W N (by rw[hlab,e]));exact⟨iN hne2,fun _ _ _ _=>rfl⟩
 ·rcases rcase l h b m h1 with O | ⟨O, g2, g3⟩ <;> rcases rcase l' h' b n d with U | ⟨U, k2, k3⟩
  ·exact H.fN _ _ _ _ _ _ _ O U
  ·exact(H.du _ _ _ _ _ _ k3 O).elim
  ·exact(H.du _ _ _ _ _ _ g3 U).elim
  ·exact⟨by rw[O,U],by rw[g2,k2,O,U]⟩
 ·obtain ⟨g0, O⟩ := loc_old i _ hi
  rcases rcase l h b n hk with U|⟨U,k2,k3⟩
  ·exact H.du _ _ _ _ _ _ O U
  ·exact g0 (H.inj _ _ _ _ _ O k3)
 ·rcases rcase l h b m hk with U | ⟨U, k2, k3⟩
  ·exact H.cS _ _ _ _ U
  ·exact H.lt _ _ _ k3
 ·have key:∀ (i:Nat) x,((E.H.set id o').set j .dead)[i]? = some x->x.label=some l->∃ y,E.H[i]? = some y/\y.label=some l:=by
   intro i x hi N;rcases H_old i x hi with⟨_,rfl⟩|⟨rfl,rfl⟩|⟨e1,M,V⟩
   ·cases N
   ·exact⟨o,W,by rw[hlab,<-hlab',N]⟩
   ·exact⟨x,V,N⟩
  obtain⟨x',a1,a2⟩:=key i x hi h1;obtain⟨y',b1,b2⟩:=key k y hk d;exact H.uniq i k x' y' l a1 b1 a2 b2
 ·have hne2 : l ≠ I := fun e => hn id o' hid' (by rw [hlab', e])
  have hy:(e_ E.X.r I q l)[h]? = some (some y):=hy;unfold e_ at hy;rw[iN hne2]at hy;refine H.ja l (fun i x hi N=>?_) h y hy;by_cases e:i=id
  ·subst e
   rw[W]at hi;cases hi;exact hne2 (by rw[hlab]at N; cases N; rfl)
  ·by_cases e1 : i = j
   ·subst e1
    rw[hj]at hi;cases hi;rw[hlj]at N;cases N
   ·exact hn i x (by show ((E.H.set id o').set j .dead)[i]? = _; rw[bg (Ne.symm e1),bg (Ne.symm e)]; exact hi) N
def aJ.Cv{E:af}(H:aJ E){id l0 h0:Nat}{o o' ov:ai}{q:Option (Nat × Nat)}(O:E.H[id]? = some o)(hlab:o.label=some l0)(hlab':o'.label=some l0)(hver:o'.aV = o.aV)(hlv:ov.label=none) (hq:∀ b m,q=some (b,m)->(E.X.r l0)[h0]? = some (some (some (b,m))))
  (ho:E.le { w:=E.w,H:=E.H.set id o'++[ov],ae:=E.ae++[q],X:=E.X.re (ib E.X.r l0 h0) }->aZ { w:=E.w,H:=E.H.set id o'++[ov],ae:=E.ae++[q],X:=E.X.re (ib E.X.r l0 h0) } id o'/\aZ { w:=E.w,H:=E.H.set id o'++[ov],ae:=E.ae++[q],X:=E.X.re (ib E.X.r l0 h0) } E.H.length ov)
  (hmm:o.dW=none:=by first|rfl|assumption) :
  aJ { w:=E.w,H:=E.H.set id o'++[ov],ae:=E.ae++[q],X:=E.X.re (ib E.X.r l0 h0) }/\E.le { w:=E.w,H:=E.H.set id o'++[ov],ae:=E.ae++[q],X:=E.X.re (ib E.X.r l0 h0) }:=by
 have hlt:=aY O;have W:∀(i:Nat) x,(E.ae++[q])[i]? = some x->E.ae[i]? = some x\/(i=E.ae.length/\x=q):=fun i x hi=>by
  rw[gk]at hi;split at hi
  ·exact .inl hi
  ·right
   cases d:i-E.ae.length with
   |zero=>rw[d]at hi; simp at hi; exact⟨by omega,hi.symm⟩
   |succ n=>rw[d]at hi; simp at hi
 have H_old:∀(i:Nat) x,(E.H.set id o'++[ov])[i]? = some x->(i=E.H.length/\x=ov)\/(i=id/\x=o')\/(i≠id/\E.H[i]? = some x):=fun i x hi=>by
  rw[gk]at hi;split at hi
  ·by_cases g : i = id
   ·subst g
    rw[bB hlt]at hi;cases hi;exact .inr (.inl ⟨rfl,rfl⟩)
   ·rw [bg (Ne.symm g)] at hi
    exact .inr (.inr ⟨g,hi⟩)
  ·left
   cases d:i-(E.H.set id o').length with
   |zero=>rw[d]at hi; simp at hi; simp at d; rename_i h1; simp at h1; exact⟨by omega,hi.symm⟩
   |succ n=>rw[d]at hi; simp at hi
 have hid':(E.H.set id o'++[ov])[id]? = some o':=by
  rw[di (by simp; exact hlt),bB hlt]
 have U:∀(l h:Nat) y,(ib E.X.r l0 h0 l)[h]? = some (some y)->(E.X.r l)[h]? = some (some y)/\¬ (l=l0/\h=h0):=fun l h y d=>WE d;have hle:E.le { w:=E.w,H:=E.H.set id o'++[ov],ae:=E.ae++[q],X:=E.X.re (ib E.X.r l0 h0) }:=by
  refine⟨fun i al hp=>?_,aM _,fun _ _ _=>rfl,fun b hb hno=>?_,fun i al hp M=>?_,⟨rfl,rfl⟩,fun l h hh=>?_,.refl _,fun i l x h1 I hv=>?_⟩
  rotate_right
  ·by_cases g : i = id
   ·subst g
    rw[O]at h1;cases h1;rw[hmm]at I;cases I
   ·have e3 : l ≠ l0 := fun e3 => g (H.uniq i id x o l h1 O (ai.og I) (by rw [e3]; exact hlab))
    exact⟨⟨[],by rw[da]; exact iN e3⟩,x,by simp only[]; rw[di (by rw[iE]; exact aY h1),bg (Ne.symm g)]; exact h1,I⟩
  ·obtain ⟨x, h1, I⟩ := hp
   by_cases g:i=id
   ·subst g
    rw[O]at h1;cases h1;exact⟨o',hid',ai.B2 hlab',fun v hv=>I.2 v (by rw[<-hver]; exact hv)⟩
   ·exact⟨x,by simp only[]; rw[di (by simp; exact aY h1),bg (Ne.symm g)]; exact h1,I⟩
  ·rintro (⟨i, c, hi⟩ | ⟨l, h, m, hm⟩)
   ·rcases W i _ hi with h1 | ⟨_, h1⟩
    ·exact hno (.inl ⟨i,c,h1⟩)
    ·exact hno (.inr ⟨l0,h0,c,hq b c h1.symm⟩)
   ·exact hno (.inr ⟨l,h,m,(U l h _ hm).1⟩)
  ·obtain ⟨x0, N, _⟩ := hp
   have hii:=aY N;obtain⟨x,h1,I⟩:=M;have hloc:(E.ae++[q])[i]? = E.ae[i]? := di (by rw[H.len]; exact hii);rcases H_old i x h1 with⟨e,rfl⟩|⟨rfl,rfl⟩|⟨g,V⟩
   ·omega
   ·exact⟨⟨o,O,by rw[<-hver]; exact I⟩,hloc⟩
   ·exact⟨⟨x,V,I⟩,hloc⟩
  ·refine ⟨?_, fun y hy => (U l h y hy).1⟩
   show h<(ib E.X.r l0 h0 l).length
   rw[WG];exact hh
 refine⟨⟨by simp[H.len],fun i k b m n hi d=>?_,fun i b m hi=>?_,fun b hb=>H.X b hb,fun i x hi=>?_,H.gL.bU hle.toC,fun l h l' h' b m n h1 I=>H.fN _ _ _ _ _ _ _ (U l h _ h1).1 (U l' h' _ I).1,fun i b m l h n hi d=>?_,fun l h b m d=>H.cS _ _ _ _ (U l h _ d).1,fun i k x y l hi d h1 I=>?_,fun l hn h y hy=>?_⟩,hle⟩
 ·rcases W i _ hi with N | ⟨N, g2⟩ <;> rcases W k _ d with k1 | ⟨k1, k2⟩
  ·exact H.inj _ _ _ _ _ N k1
  ·exact(H.du _ _ _ _ _ _ N (hq b n k2.symm)).elim
  ·exact(H.du _ _ _ _ _ _ k1 (hq b m g2.symm)).elim
  ·omega
 ·rcases W i _ hi with N | ⟨N, g2⟩
  ·exact H.lt _ _ _ N
  ·exact H.cS _ _ _ _ (hq b m g2.symm)
 ·rcases H_old i x hi with ⟨rfl, rfl⟩ | ⟨rfl, rfl⟩ | ⟨g, V⟩
  ·exact(ho hle).2
  ·exact(ho hle).1
  ·refine nh (fun a _ hr => bD hle a hr) (by simp only []; rw [di (by rw [H.len]; exact aY V)]) (fun _ _ _ => rfl) (fun l M => ?_) (H.obj i x V)
   have hne2:l≠l0:=fun e=>g (H.uniq i id x o l V O M (by rw[hlab,e]));exact⟨iN hne2,fun _ _ _ _=>rfl⟩
 ·obtain ⟨r1, r2⟩ := U l h _ d
  rcases W i _ hi with N|⟨N,g2⟩
  ·exact H.du _ _ _ _ _ _ N r1
  ·exact r2 (H.fN _ _ _ _ _ _ _ r1 (hq b m g2.symm))
 ·have key:∀ (i:Nat) x,(E.H.set id o'++[ov])[i]? = some x->x.label=some l->∃ y,E.H[i]? = some y/\y.label=some l:=by
   intro i x hi M;rcases H_old i x hi with⟨_,rfl⟩|⟨rfl,rfl⟩|⟨g,V⟩
   ·rw[hlv]at M; cases M
   ·exact⟨o,O,by rw[hlab,<-hlab',M]⟩
   ·exact⟨x,V,M⟩
  obtain⟨x',a1,a2⟩:=key i x hi h1;obtain⟨y',b1,b2⟩:=key k y d I;exact H.uniq i k x' y' l a1 b1 a2 b2
 ·refine H.ja l (fun i x hi M => ?_) h y (U l h y hy).1
  by_cases e:i=id
  ·subst e
   rw[O]at hi;cases hi;exact hn i o' hid' (by rw[hlab',<-hlab,M])
  ·exact hn i x (by show (E.H.set id o'++[ov])[i]? = _; rw[di (by simp; exact aY hi),bg (Ne.symm e)]; exact hi) M
def aJ.GU{E:af}(H:aJ E){id I:Nat}{o o':ai}(M:E.H[id]? = some o)(hlab:o.label=some I)(hlab':o'.label=none)(hver:o'.aV = o.aV)
  (ho:E.le { w:=E.w,H:=E.H.set id o',ae:=E.ae,X:=E.X.re (jd E.X.r I) }->aZ { w:=E.w,H:=E.H.set id o',ae:=E.ae,X:=E.X.re (jd E.X.r I) } id o')
  (hmm:o.dW=none:=by first|rfl|assumption) (hborn:o'.born=true:=by first|rfl|assumption) :
  aJ { w:=E.w,H:=E.H.set id o',ae:=E.ae,X:=E.X.re (jd E.X.r I) }/\E.le { w:=E.w,H:=E.H.set id o',ae:=E.ae,X:=E.X.re (jd E.X.r I) }:=by
 have hlt:=aY M;have V:∀(i:Nat) x,(E.H.set id o')[i]? = some x->(i=id/\x=o')\/(i≠id/\E.H[i]? = some x):=fun i x hi=>by
  by_cases g:i=id
  ·subst g
   rw[bB hlt]at hi;cases hi;exact .inl ⟨rfl,rfl⟩
  ·rw [bg (Ne.symm g)] at hi
   exact .inr ⟨g,hi⟩
 have U:E.le { w:=E.w,H:=E.H.set id o',ae:=E.ae,X:=E.X.re (jd E.X.r I) }:=by
  refine⟨fun i al hp=>?_,aM _,fun _ _ _=>rfl,fun b hb hno=>?_,fun i al hp q=>?_,⟨rfl,rfl⟩,fun l h hh=>?_,.refl _,fun i l x h1 d hv=>?_⟩
  rotate_right
  ·by_cases g : i = id
   ·subst g
    rw[M]at h1;cases h1;rw[hmm]at d;cases d
   ·have W : l ≠ I := fun W => g (H.uniq i id x o l h1 M (ai.og d) (by rw [W]; exact hlab))
    exact⟨⟨[],by rw[da]; exact iN W⟩,x,by simp only[]; rw[bg (Ne.symm g)]; exact h1,d⟩
  ·obtain ⟨x, h1, d⟩ := hp
   by_cases g:i=id
   ·subst g
    rw[M]at h1;cases h1;exact⟨o',by simp only[]; rw[bB hlt],hborn,fun v hv=>d.2 v (by rw[<-hver]; exact hv)⟩
   ·exact⟨x,by simp only[]; rw[bg (Ne.symm g)]; exact h1,d⟩
  ·rintro (⟨i, c, hi⟩ | ⟨l, h, m, hm⟩)
   ·exact hno (.inl ⟨i,c,hi⟩)
   ·exact hno (.inr ⟨l,h,m,(j6 hm).1⟩)
  ·obtain ⟨x, h1, d⟩ := q
   rcases V i x h1 with⟨rfl,rfl⟩|⟨g,N⟩
   ·exact⟨⟨o,M,by rw[<-hver]; exact d⟩,rfl⟩
   ·exact⟨⟨x,N,d⟩,rfl⟩
  ·refine ⟨?_, fun y hy => (j6 hy).1⟩
   show h<(jd E.X.r I l).length
   rw[Md];exact hh
 refine⟨⟨by simp[H.len],H.inj,H.lt,H.X,fun i x hi=>?_,H.gL.bU U.toC,fun l h l' h' b m n h1 d=>H.fN _ _ _ _ _ _ _ (j6 h1).1 (j6 d).1,fun i b m l h n hi O=>H.du _ _ _ _ _ _ hi (j6 O).1,fun l h b m O=>H.cS _ _ _ _ (j6 O).1,fun i k x y l hi O h1 d=>?_,fun l hn h y hy=>?_⟩,U⟩
 ·rcases V i x hi with ⟨rfl, rfl⟩ | ⟨g, N⟩
  ·exact ho U
  ·refine nh (fun a _ hr => bD U a hr) rfl (fun _ _ _ => rfl) (fun l q => ?_) (H.obj i x N)
   have hne2:l≠I:=fun e=>g (H.uniq i id x o l N M q (by rw[hlab,e]));exact⟨iN hne2,fun _ _ _ _=>rfl⟩
 ·have key:∀ (i:Nat) x,(E.H.set id o')[i]? = some x->x.label=some l->E.H[i]? = some x:=by
   intro i x hi q;rcases V i x hi with⟨rfl,rfl⟩|⟨g,N⟩
   ·rw[hlab']at q; cases q
   ·exact N
  exact H.uniq i k x y l (key i x hi h1) (key k y O d) h1 d
 ·obtain ⟨g1, g2⟩ := j6 hy
  refine H.ja l (fun i x hi q=>?_) h y g1;by_cases e:i=id
  ·subst e
   rw[M]at hi;cases hi;exact g2 (by rw[hlab]at q; cases q; rfl)
  ·exact hn i x (by show (E.H.set id o')[i]? = _; rw[bg (Ne.symm e)]; exact hi) q
def Cw{E:af}(HE:aJ E){id l w cl:Nat}{g:List (AV × Option (List (List AV)) × Nat)}{c:ao}(k:E.H[id]? = some (.a7 l w g cl))(q:ad E (.map id) c) :
  ∃ b n d,c=.map (some b)/\E.ae[id]? = some (some (b,n))/\E.w.heap[b]? = some (.map d cl)/\bL E (dj g) d.toList/\kY E l w g d.toList:=by
 have ho:=HE.obj id _ k;simp only[aZ]at ho;obtain⟨b,n,d,h1,v,y,I⟩:=ho;simp only[ad]at q;obtain⟨_,_,M⟩:=q;obtain⟨O,U,h,N⟩:=M ⟨_,k,rfl⟩;rw[h1]at h;simp only[bf,bo]at h;obtain⟨rfl,rfl⟩:=h;exact⟨b,n,d,N,h1,v,y,I⟩
def GV{P:aj}{d:aF}{k:AV}{g:List ao}(h:jb P d k=some g):hZ k=(k,.undef):=by
 unfold jb at h;split at h
 ·cases h
 ·split at h
  ·rfl
  ·rfl
  ·cases h
def yU{d:List (AV × Option (List (List AV)) × Nat)}{i:Nat}{x:AV × Option (List (List AV)) × Nat}(h:d[i]? = some x):(dj d)[i]? = some ((hZ x.1).1,(hZ x.1).2,x.2.2):=by
 unfold dj;rw[bY,h];rfl
def Cx(P:aj)(t:aF):Option Nat:=match cZ P t with
 |.slice _ w _=>some w
 |_=>none
def ra (d:List (AV × Option (List (List AV)) × Nat)) (i:Nat):Option (AV × List (List AV) × Nat):=match d[i]? with
 |some (key,some rZ,n)=>some (key,rZ,n)
 |_=>none
def tu(P:aj)(t:aF)(m k:AV)(H:List ai):Option (AV × List ai) :=
 match dO P t,m with
 | some (g,h),.map id=>match H[id]? with
  | some (.a7 l w d cl)=>match jb P g k,Cx P h,ju P h with
   | some q,some w',some (.lit (.slice none 0 0))=>match aG w' w with
    | true=>match fi P g q (dj d) 0 with
     | some (some (i,_))=>match ra d i with
      |some (key,rZ,n)=>some (.vQ w H.length 0 0 rZ.length,H.set id (.a7 l w (d.set i (key,none,n)) cl)++[.vQ w 0 rZ])
      |none=>none
     |some none=>some (.vQ w H.length 0 0 0,H.set id (.a7 l w d cl)++[.vQ w 0 []])
     |none=>none
    |false=>none
   |_,_,_=>none
  |_=>none
 |_,_=>none
def WH{E:af}{l w i:Nat}{g:List (AV × Option (List (List AV)) × Nat)}{v:List MapEntry}{x:AV × Option (List (List AV)) × Nat}(O:x.2.1=none)(h:kY E l w g v):kY E l w (g.set i x) v:=by
 obtain⟨U,h1,V⟩:=h;have k:∀(j:Nat) y,(g.set i x)[j]? = some y->y.2.1.isSome=true->g[j]? = some y/\j≠i:=fun j y d q=>by
  rw[eC]at d;split at d
  ·split at d
   ·cases d
    rw[O]at q;cases q
   ·cases d
  ·rename_i N
   exact⟨d,Ne.symm N⟩
 refine⟨U,fun a b y z d W I sz he=>h1 a b y z (k a y d I).1 (k b z W sz).1 I sz he,fun a y rZ e d M he=>V a y rZ e (k a y d (by rw[M]; rfl)).1 M he⟩
def GW{E:af}{i:Nat}{d:List (AV × Option (List (List AV)) × Nat)}{g:List MapEntry}{x y:AV × Option (List (List AV)) × Nat}(hi:d[i]? = some x)(h1:y.1=x.1)(k:y.2.2=x.2.2)(h:bL E (dj d) g):bL E (dj (d.set i y)) g:=by
 have e:dj (d.set i y)=dj d:=by
  apply jG;intro j;unfold dj;rw[bY,bY,eC];split
  ·rename_i e
   subst e;rw[iP (aY hi),hi];simp[h1,k]
  ·rfl
 rw[e];exact h
def WI{P:aj}{E:af}(HE:aJ E){t:aF}{m k v:AV}{c d:ao}{H':List ai}(h:tu P t m k E.H=some (v,H'))(hm:ad E m c)(hk:ad E k d) :
  ∃ u w',(lD t c d false).run P E.w=.ok u w'/\dc E v H' u w':=by
 unfold tu at h;split at h
 case h_2=>cases h
 rename_i kt et id ht;split at h
 case h_2=>cases h
 rename_i l w V cl hid;split at h
 case h_2=>cases h
 rename_i kv w' hkv hw' hz;split at h
 case h_2=>cases h
 rename_i hww;have hww:=bz hww;clear hw' hww;obtain⟨b,n,ms,rfl,h1,h2,h3,h4⟩:=Cw HE hid hm;have hkv':=jt hkv hk;have hpk:=GV hkv;have e1:(getObj b).run P E.w=.ok (.map ms cl) E.w:=by simp[getObj,iG,h2]
 have hlenH:E.H.length=E.ae.length:=HE.len.symm;split at h
 ·rename_i i v0 hf
  split at h
  case h_2=>cases h
  rename_i key rZ bn hat;cases h;have hes:V[i]? = some (key,some rZ,bn):=by
   unfold ra at hat;split at hat
   ·rename_i a1 a2 a3 he
    cases hat;exact he
   ·cases hat
  obtain⟨r',g1,g2⟩:=iI hkv' E.w h3 hf;cases r' with
  |none=>simp[dK]at g2
  | some q =>
   simp only[dK]at g2;obtain⟨q1,q2,_,e',q4,q5⟩:=g2;simp only[fD]at q4;have hval:q.2=e'.val:=q5.symm;obtain⟨hs,k1,k2⟩:=h4;have hsl:=k2 i _ rZ e' hes rfl q4;obtain⟨O,h0,z1,z2,z3⟩:∃(O:Option (Nat × Nat)) (h0:Nat),(∀ b m,O=some (b,m)->(E.X.r l)[h0]? = some (some (some (b,m)))) /\
     (∀ j y,V[j]? = some y->y.2.1.isSome=true->j≠i->∀ b m,(E.X.r l)[hs j]? = some (some (some (b,m)))->hs j≠h0) /\
     ((O=none/\rZ=[]/\∃ aN,e'.val=.slice aN 0 0)\/∃ b m,O=some (b,m)/\e'.val=.slice (some ⟨b,0,none⟩) rZ.length m/\isRow E.w b (m*w)/\rZ.length<=m/\fv rZ/\cY E w rZ b 0):=by
    rcases hsl with⟨s1,s2⟩|⟨W,mm,s1,s2,s3,s4,s5,s6⟩
    ·exact⟨none,(E.X.r l).length,fun _ _ e=>(by cases e),fun j y _ _ _ b m hb e=>(by rw[e]at hb; have:=aY hb; omega),.inl ⟨rfl,s1,s2⟩⟩
    ·exact⟨some (W,mm),hs i,fun _ _ e=>(by cases e; exact s1),fun j y N hsy hne _ _ _ e=>hne (k1 j i _ _ N hes hsy rfl e),.inr ⟨W,mm,rfl,s2,s3,s4,s5,s6⟩⟩
   obtain⟨r1,r2⟩:=aJ.Cv HE (id:=id) (l0:=l) (h0:=h0) (o':=.a7 l w (V.set i (key,none,bn)) cl) (ov:=.vQ w 0 rZ) (q:=O) hid rfl rfl rfl rfl z1 fun hle=>by
    refine⟨?_,?_⟩
    ·simp only [aZ]
     refine⟨b,n,ms,?_,h2,?_,?_⟩
     ·rw [di (aY h1)]
      exact h1
     ·exact f_ (fun a _ I=>bD hle a I) (GW hes rfl rfl h3)
     ·obtain ⟨_, k3, k4⟩ := WH (i := i) (x := (key, none, bn)) rfl (show kY E l w V ms.toList from ⟨hs, k1, k2⟩)
      refine⟨hs,fun a b' y z N hz sy sz he=>?_,fun a y rws e N I he=>?_⟩
      all_goals
       have old:∀(j:Nat) y,(V.set i (key,none,bn))[j]? = some y->y.2.1.isSome=true->V[j]? = some y/\j≠i:=fun j y N hsm=>by
        rw[eC]at N;split at N
        ·split at N
         ·cases N
          cases hsm
         ·cases N
        ·rename_i hne
         exact⟨N,Ne.symm hne⟩
      ·exact k1 a b' y z (old a y N sy).1 (old b' z hz sz).1 sy sz he
      ·obtain ⟨o1, o2⟩ := old a y N (by rw [I]; rfl)
       rcases k2 a y rws e o1 I he with U|⟨W,mm,s1,s2,s3,s4,s5,s6⟩
       ·exact .inl U
       ·refine .inr ⟨W, mm, ?_, s2, s3, s4, s5, gz (fun a _ I => bD hle a I) rfl s6⟩
        have hne:=z2 a y o1 (by rw[I]; rfl) o2 W mm s1;show (ib E.X.r l h0 l)[hs a]? = _
        rw[Cu fun e=>hne e.2];exact s1
    ·simp only [aZ]
     have U:(E.ae++[O])[E.H.length]? = some O:=by rw[hlenH]; simp
     rcases z3 with⟨rfl,s1,_⟩|⟨W,mm,rfl,_,s3,s4,s5,s6⟩
     ·exact .inl ⟨U,s1⟩
     ·exact .inr ⟨W,mm,U,s3,s4,s5,gz (fun a _ I=>bD hle a I) rfl s6⟩
   refine⟨q.2,E.w,?_,E.ae++[O],ib E.X.r l h0,?_,r1,r2⟩
   ·simp only [lD, cr, Sem.bF (gn ht), cf, e1, ft, gM hkv', g1]
    rfl
   ·have hnew:(E.H.set id (.a7 l w (V.set i (key,none,bn)) cl)++[.vQ w 0 rZ])[E.H.length]? = some (.vQ w 0 rZ):=by
     rw[iY (by simp)];simp
    have U:(E.ae++[O])[E.H.length]? = some O:=by rw[hlenH]; simp
    rw[hval];simp only[ad];rcases z3 with⟨rfl,s1,aN,s2⟩|⟨W,mm,rfl,s2,s3,s4,s5,s6⟩
    ·subst s1
     refine⟨⟨aN,0,by rw[s2]; rfl,aM _,fun h=>by simp at h⟩,⟨_,hnew,rfl,fun v hv=>by cases hv; exact aM _⟩,fun _=>⟨fun _=>⟨by first|rfl|trivial,by first|rfl|trivial,aN,s2⟩,fun b' m' M=>?_⟩⟩;rw[U]at M;cases M
    ·refine ⟨⟨_, mm, s2, s4, fun _ => ⟨W, 0, rfl⟩⟩, ⟨_, hnew, rfl, fun v hv => by cases hv; exact aM _⟩, fun _ => ⟨fun M => ?_, fun b' m' M => ?_⟩⟩
     ·rw [U] at M
      cases M
     ·rw [U] at M
      cases M;exact⟨by omega,0,fun _=>by simp,by rw[s2,fD]⟩
 ·rename_i hf
  cases h;obtain⟨r',g1,g2⟩:=iI hkv' E.w h3 hf;cases r' with
  |some _=>simp[dK]at g2
  | none =>
   obtain⟨zv,z1,z2⟩:=tm hz E.w;have hzv:zv=.slice none 0 0:=by have:=z2 E; simpa[ad]using this
   obtain⟨r1,r2⟩:=aJ.Cv HE (id:=id) (l0:=l) (h0:=(E.X.r l).length) (o':=.a7 l w V cl) (ov:=.vQ w 0 []) (q:=none) hid rfl rfl rfl rfl (fun _ _ e=>by cases e) fun hle=>by
    refine⟨?_,?_⟩
    ·simp only [aZ]
     refine⟨b,n,ms,?_,h2,f_ (fun a _ I=>bD hle a I) h3,yD (E:=E) (fun h g m hk=>⟨?_,rfl⟩) (fun _ _ _ _ _ b' M _ I=>gz (fun a _ I=>bD hle a I) M I) h4⟩
     ·rw [di (aY h1)]
      exact h1
     ·show (ib E.X.r l (E.X.r l).length l)[h]? = _
      rw[Cu fun e=>by rw[e.2]at hk; have:=aY hk; omega];exact hk
    ·simp only [aZ]
     exact .inl ⟨by rw[hlenH]; simp,by first|rfl|trivial⟩
   refine⟨zv,E.w,?_,E.ae++[none],ib E.X.r l (E.X.r l).length,?_,r1,r2⟩
   ·simp only [lD, cr, Sem.bF (gn ht), cf, e1, ft, gM hkv', g1, z1]
    rfl
   ·have hnew:(E.H.set id (.a7 l w V cl)++[.vQ w 0 []])[E.H.length]? = some (.vQ w 0 []):=by
     rw[iY (by simp)];simp
    have U:(E.ae++[(none:Option (Nat × Nat))])[E.H.length]? = some none:=by rw[hlenH]; simp
    rw[hzv];simp only[ad];refine⟨⟨none,0,rfl,aM _,fun h=>by simp at h⟩,⟨_,hnew,rfl,fun v hv=>by cases hv; exact aM _⟩,fun _=>⟨fun _=>⟨by first|rfl|trivial,by first|rfl|trivial,none,rfl⟩,fun b' m' M=>?_⟩⟩;rw[U]at M;cases M
 ·cases h
def GX{d:List (AV × Option (List (List AV)) × Nat)}{i:Nat}{x:AV × Option (List (List AV)) × Nat}{f:AV × Option (List (List AV)) × Nat->AV × Option (List (List AV)) × Nat}(h:d[i]? = some x):d.modify i f=d.set i (f x):=by
 apply jG;intro j;rw[iH,eC];by_cases e:i=j
 ·subst e
  rw[iP rfl,iP (aY h),h];simp
 ·rw [iN e]
  simp[e]
def qf(P:aj)(t:aF)(m k v:AV)(H:List ai):Option (List ai) :=
 match dO P t,m,v with
 | some (g,_),.map id,.vQ w j al oF n=>match H[id]?,H[j]? with
  | some (.a7 l w' d cl),some (.vQ q h rZ)=>match jb P g k with
   | some y=>if (w=w'/\w=q)/\(al=h/\oF=0)/\n=rZ.length/\k.closed=true then
     match fi P g y (dj d) 0 with
     |some (some (i,_))=>some ((H.set id (.a7 l w' (d.modify i fun e=>(k,some rZ,e.2.2)) cl)).set j .dead)
     |some none=>some ((H.set id (.a7 l w' (d++[(k,some rZ,cl)]) (cl+1))).set j .dead)
     |none=>none
    else none
   |none=>none
  |_,_=>none
 |_,_,_=>none
def yV{P:aj}{E:af}(HE:aJ E){id l w b n cl cl':Nat}{es q:List (AV × Option (List (List AV)) × Nat)}{ms d:Array MapEntry}(U:E.H[id]? = some (.a7 l w es cl)) (v:E.ae[id]? = some (some (b,n)))
  (hb:E.w.heap[b]? = some (.map ms cl)) (k:bL E (dj q) d.toList) (V:kY E l w q d.toList) :
  ∃ w',(setObj b (.map d cl')).run P E.w=.ok () w'/\aJ { w:=w',H:=E.H.set id (.a7 l w q cl'),ae:=E.ae,X:=E.X }/\E.le { w:=w',H:=E.H.set id (.a7 l w q cl'),ae:=E.ae,X:=E.X } /\
   w'.heap[b]? = some (.map d cl')/\∀ y,y≠b->w'.heap[y]? = E.w.heap[y]? := by
 have M:=(HE.lt id b n v).1;have W:({ E.w with heap:=E.w.heap.setIfInBounds b (.map d cl') }:a_).heap.size=E.w.heap.size:=by simp
 have I:∀ y,y≠b->({ E.w with heap:=E.w.heap.setIfInBounds b (.map d cl') }:a_).heap[y]? = E.w.heap[y]? := by
  intro y hy;simp only[BM];rw[iN (fun e=>hy e.symm)]
 have key:=aJ.vf (E:=E) (w':={ E.w with heap:=E.w.heap.setIfInBounds b (.map d cl') }) (o':=.a7 l w q cl') (r':=E.X.r) HE U rfl rfl rfl (by rw[W]; exact aM _) (fun x _ hne _=>I x fun e=>hne n (by rw[e]; exact v)) (fun _ _=>rfl) (fun _ _ _ h=>.inl h) (fun h hh=>⟨hh,fun _ hq=>hq⟩) (fun N=>by
  simp only[aZ];refine⟨b,n,d,v,by simp[M],f_ (fun a _ k=>bD N a k) k,yD (E:=E) (fun h g m O=>⟨O,I g fun e=>HE.du _ _ _ _ _ _ v (by rw[<-e]; exact O)⟩) (fun _ _ _ _ _ b' hb' _ k=>gz (fun a _ k=>bD N a k) hb' k) V⟩) ⟨rfl,rfl,rfl,by first|exact fun _=>aM _|exact fun _=>gY _ _⟩
 rw[XS.F_]at key;exact⟨_,by simp[setObj,iG,hb],key.1,key.2,by simp[M],I⟩
def GY{E:af}(HE:aJ E){id j l w cl i al:Nat}{g:List (AV × Option (List (List AV)) × Nat)}{rZ:List (List AV)}{key:AV}{bn b n:Nat}{N:Array MapEntry}{e:MapEntry}(hid:E.H[id]? = some (.a7 l w g cl))(O:E.H[j]? = some (.vQ w al rZ))
  (hi:g[i]? = some (key,none,bn)) (hloc:E.ae[id]? = some (some (b,n))) (hb:E.w.heap[b]? = some (.map N cl)) (he:N.toList[i]? = some e) (I:bL E (dj g) N.toList) (hsl:kY E l w g N.toList) (hv:ad E (.vQ w j al 0 rZ.length) e.val) :
  ∃ loc' r',aJ { w:=E.w,H:=(E.H.set id (.a7 l w (g.set i (key,some rZ,bn)) cl)).set j .dead,ae:=loc',X:=E.X.re r' }/\E.le { w:=E.w,H:=(E.H.set id (.a7 l w (g.set i (key,some rZ,bn)) cl)).set j .dead,ae:=loc',X:=E.X.re r' }:=by
 have W:j≠id:=fun e=>by rw[e,hid]at O; cases O
 have hoj:=HE.obj j _ O;simp only[ad]at hv;obtain⟨_,_,v3⟩:=hv;obtain⟨v4,v5⟩:=v3 ⟨_,O,rfl⟩;simp only[aZ]at hoj;obtain⟨q,hq⟩:∃ q,E.ae[j]? = some q:=by
  rcases hoj with⟨h1,_⟩|⟨b',m',h1,_⟩
  ·exact⟨_,h1⟩
  ·exact⟨_,h1⟩
 obtain⟨V,k1,k2⟩:=hsl;have htl:∀ h,h<(E.X.r l).length->(e_ E.X.r l q l)[h]? = (E.X.r l)[h]? := fun h d=>(GS d).2;have hnew:(e_ E.X.r l q l)[(E.X.r l).length]? = some (some q):=by
  unfold e_;rw[iP rfl];simp
 obtain⟨r1,r2⟩:=aJ.attach HE (id:=id) (j:=j) (o':=.a7 l w (g.set i (key,some rZ,bn)) cl) (q:=q) hid rfl rfl rfl O rfl hq fun hle=>by
  simp only[aZ];refine⟨b,n,N,?_,hb,f_ (fun a _ I=>bD hle a I) (GW hi rfl rfl I),?_⟩
  ·rw [bg W]
   exact hloc
  ·-- handles: the U ones, but at i the new one; empty ones take none
   have U:∀(a:Nat) y,(g.set i (key,some rZ,bn))[a]? = some y->a≠i->g[a]? = some y:=fun a y k W=>by
    rwa [bg (Ne.symm W)]at k
   have at_i:∀ y,(g.set i (key,some rZ,bn))[i]? = some y->y=(key,some rZ,bn):=fun y k=>by
    rw[bB (aY hi)]at k;cases k;rfl
   refine⟨fun a=>if a=i then (E.X.r l).length else if V a<(E.X.r l).length then V a else (E.X.r l).length+1+V a,fun a c y z k hz sy sz d=>?_,fun a y rws e' k hr' he'=>?_⟩
   ·by_cases v : a = i
    ·by_cases M : c = i
     ·rw[v,M]
     ·simp only [iP v, iN M] at d
      split at d<;>omega
    ·by_cases M : c = i
     ·simp only [iN v, iP M] at d
      split at d<;>omega
     ·simp only [iN v, iN M] at d
      refine k1 a c y z (U a y k v) (U c z hz M) sy sz ?_;split at d<;>split at d<;>omega
   ·by_cases v : a = i
    ·subst v
     have:=at_i y k;subst this;cases hr';rw[he]at he';cases he';rcases hoj with⟨h1,h2⟩|⟨b',m',h1,h2,h3,h4,h5⟩
     ·obtain ⟨_, _, aN, h3⟩ := v4 h1
      subst h2;exact .inl ⟨rfl,aN,h3⟩
     ·obtain ⟨h6, o, h7, h8⟩ := v5 b' m' h1
      rw[hq]at h1;cases h1;simp only[cP,qM,fD]at h6 h7 h8;by_cases hm:0<m'
      ·have := h7 hm
       subst this;refine .inr ⟨b',m',?_,h8,h2,h3,h4,gz (fun a _ I=>bD hle a I) rfl h5⟩;simp only[if_true];exact hnew
      ·have hr0 : rZ = [] := uU (by omega)
       have hm0:m'=0:=by omega
       subst hr0;subst hm0;exact .inl ⟨rfl,_,h8⟩
    ·rcases k2 a y rws e' (U a y k v) hr' he' with hl | ⟨bb, mm, s1, s2, s3, s4, s5, s6⟩
     ·exact .inl hl
     ·refine .inr ⟨bb, mm, ?_, s2, s3, s4, s5, gz (fun a _ I => bD hle a I) rfl s6⟩
      have d:=aY s1;simp only[iN v,iP d];show (e_ E.X.r l q l)[V a]? = _
      rw[htl _ d];exact s1
 exact⟨_,_,r1,r2⟩
def WJ{P:aj}{E:af}(HE:aJ E){t:aF}{m k v:AV}{c d u:ao}{H':List ai}(h:qf P t m k v E.H=some H')(hm:ad E m c)(hk:ad E k d)(hv:ad E v u) :
  ∃ w',(mY t c d u).run P E.w=.ok () w'/\∀ x,dc E .undef H' x w':=by
 unfold qf at h;split at h
 case h_2=>cases h
 rename_i kt et id w j al oF n ht;split at h
 case h_2=>cases h
 rename_i l w' I cl w2 ver' rZ hid hj;split at h
 case h_2=>cases h
 rename_i kv hkv;split at h
 case isFalse=>cases h
 rename_i hc;obtain⟨⟨rfl,rfl⟩,⟨rfl,rfl⟩,rfl,hcl⟩:=hc;obtain⟨b,n,V,rfl,h1,h2,h3,h4⟩:=Cw HE hid hm;have hne:j≠id:=fun e=>by rw[e,hid]at hj; cases hj
 have hkv':=jt hkv hk;have O:=GV hkv;have e1:(getObj b).run P E.w=.ok (.map V cl) E.w:=by simp[getObj,iG,h2]
 obtain⟨hlen,hall⟩:=e9.1 h3;rw[Gd]at hlen;split at h
 ·rename_i i v0 hf
  cases h;obtain⟨W,g1,g2⟩:=iI hkv' E.w h3 hf;cases W with
  |none=>simp[dK]at g2
  | some q =>
   simp only[dK]at g2;obtain⟨q1,q2,_,e',q4,q5⟩:=g2;obtain⟨_,x,y,f1,f2,f3⟩:=vE hf;simp only[fD]at q4 f1;obtain⟨a1,a2,a3,a4,a5⟩:=hall i x e' f1 q4;obtain⟨s1,s2⟩:=yQ hkv' (jt f2 a1) f3;have q4':V[i]? = some e':=by simpa using q4
   have hlt:i<I.length:=by have:=aY q4; omega
   obtain⟨N,hx0⟩:∃ N,I[i]? = some N:=⟨I[i],bZ hlt⟩
   have hx:x=((hZ N.1).1,(hZ N.1).2,N.2.2):=by rw[yU hx0]at f1; cases f1; rfl
   have hkk:(k,(none:Option (List (List AV))),N.2.2)=(k,none,N.2.2):=rfl;have hre:bL E (dj (I.set i (k,none,N.2.2))) (V.modify i fun e=>{ e with key:=d,val:=u }).toList:=by
    rw[e9];refine⟨by simp[dj,hlen],fun a y z g M=>?_⟩;simp only[kS,iH]at M;obtain⟨z0,hz0,rfl⟩:=eL.1 M;unfold dj at g;rw[bY,eC]at g;by_cases e:i=a
    ·subst e
     rw[iP rfl,iP hlt]at g;cases g;rw[q4]at hz0;cases hz0;simp only[if_true];refine⟨by simpa[O]using hk,by simp[O,ad],?_,by simpa[O]using hcl,by simp[O,AV.closed]⟩;rw[a3,hx]
    ·rw [iN e] at g
     obtain⟨b1,b2,b3,b4,b5⟩:=hall a y z0 (by unfold dj; rw[bY]; exact g) hz0;simp only[iN e];exact⟨b1,b2,b3,b4,b5⟩
   have hsl2:kY E l w (I.set i (k,none,N.2.2)) (V.modify i fun e=>{ e with key:=d,val:=u }).toList:=by
    obtain⟨hs,k1,k2⟩:=h4;have U:∀(a:Nat) y,(I.set i (k,none,N.2.2))[a]? = some y->y.2.1.isSome=true->I[a]? = some y/\a≠i:=fun a y g hsm=>by
     by_cases ei:i=a
     ·subst ei
      rw[bB hlt]at g;cases g;cases hsm
     ·rw [bg ei] at g
      exact⟨g,Ne.symm ei⟩
    refine⟨hs,fun a c y z g M sy sz he=>k1 a c y z (U a y g sy).1 (U c z M sz).1 sy sz he,fun a y rws e g hr he=>?_⟩;obtain⟨o1,o2⟩:=U a y g (by rw[hr]; rfl);simp only[kS,iH]at he;obtain⟨z0,hz0,rfl⟩:=eL.1 he;rw[iN (Ne.symm o2)];exact k2 a y rws z0 o1 hr hz0
   obtain⟨w',p1,p2,p3,p4,p5⟩:=yV (P:=P) HE (cl':=cl) hid h1 h2 hre hsl2;have hst:(qP e'.key d).run P E.w=.ok d E.w:=by simp[qP,s2]
   have hrun:(mY t (.map (some b)) d u).run P E.w=.ok () w':=by
    subst q1;simp only[mY,cr,Sem.bF (gn ht),cf,e1,gM hkv',g1,q4',ff,m_,hst];exact p1
   have hidE:({ w:=w',H:=E.H.set id (.a7 l w (I.set i (k,none,N.2.2)) cl),ae:=E.ae,X:=E.X }:af).H[id]? = some (.a7 l w (I.set i (k,none,N.2.2)) cl):=by
    simp only[];rw[bB (aY hid)]
   have hjE:({ w:=w',H:=E.H.set id (.a7 l w (I.set i (k,none,N.2.2)) cl),ae:=E.ae,X:=E.X }:af).H[j]? = some (.vQ w al rZ):=by
    simp only[];rw[bg (Ne.symm hne)];exact hj
   have hobj:=p2.obj id _ hidE;simp only[aZ]at hobj;obtain⟨b2,n2,ms2,o1,o2,o3,o4⟩:=hobj;rw[h1]at o1;simp only[bf,bo]at o1;obtain⟨rfl,rfl⟩:=o1;rw[p4]at o2;cases o2;obtain⟨loc',W,r1,r2⟩:=GY p2 (i:=i) (key:=k) (bn:=N.2.2) (e:={ e' with key:=d,val:=u }) hidE hjE (by rw[bB hlt]) h1 p4 (by
    simp only[kS,iH,q4];simp) o3 o4 (bD p3 _ hv)
   refine⟨w',hrun,fun xx=>⟨loc',W,by simp[ad],?_,p3.trans ?_⟩⟩
   ·simpa[lE,GX hx0]using r1
   ·simpa[lE,GX hx0]using r2
 ·rename_i hf
  cases h;obtain⟨W,g1,g2⟩:=iI hkv' E.w h3 hf;cases W with
  |some _=>simp[dK]at g2
  | none =>
   have hml:V.toList.length=I.length:=by omega
   have hre:bL E (dj (I++[(k,none,cl)])) (V.push { key:=d,val:=u,born:=cl }).toList:=by
    rw[e9];refine⟨by simp[dj,hlen],fun a y z g M=>?_⟩;unfold dj at g;rw[jY]at g;simp only[ob,gk,c8]at g M;rw[hml]at M;by_cases e:a<I.length
    ·simp only [iP e] at g M
     exact hall a y z (by unfold dj; exact g) M
    ·simp only [iN e] at g M
     cases hj2:a-I.length with
     | zero =>
      rw[hj2]at g M;simp at g M;subst g; subst M;exact⟨by simpa[O]using hk,by simp[O,ad],rfl,by simpa[O]using hcl,by simp[O,AV.closed]⟩
     |succ _=>rw[hj2]at g; simp at g
   have hsl2:kY E l w (I++[(k,none,cl)]) (V.push { key:=d,val:=u,born:=cl }).toList:=by
    obtain⟨hs,k1,k2⟩:=h4;have U:∀(a:Nat) y,(I++[(k,(none:Option (List (List AV))),cl)])[a]? = some y->y.2.1.isSome=true->I[a]? = some y/\a<I.length:=fun a y g hsm=>by
     rw[gk]at g;split at g
     ·rename_i hh
      exact⟨g,hh⟩
     ·cases hk2 : a - I.length with
      | zero =>
       rw[hk2]at g;simp at g;subst g;cases hsm
      |succ _=>rw[hk2]at g; simp at g
    refine⟨hs,fun a c y z g M sy sz he=>k1 a c y z (U a y g sy).1 (U c z M sz).1 sy sz he,fun a y rws e g hr he=>?_⟩;obtain⟨o1,o2⟩:=U a y g (by rw[hr]; rfl);simp only[ob]at he;rw[di (by omega)]at he;exact k2 a y rws e o1 hr he
   obtain⟨w',p1,p2,p3,p4,p5⟩:=yV (P:=P) HE (cl':=cl+1) hid h1 h2 hre hsl2;have hrun:(mY t (.map (some b)) d u).run P E.w=.ok () w':=by
    simp only[mY,cr,Sem.bF (gn ht),cf,e1,gM hkv',g1];exact p1
   have hidE:({ w:=w',H:=E.H.set id (.a7 l w (I++[(k,none,cl)]) (cl+1)),ae:=E.ae,X:=E.X }:af).H[id]? = some (.a7 l w (I++[(k,none,cl)]) (cl+1)):=by
    simp only[];rw[bB (aY hid)]
   have hjE:({ w:=w',H:=E.H.set id (.a7 l w (I++[(k,none,cl)]) (cl+1)),ae:=E.ae,X:=E.X }:af).H[j]? = some (.vQ w al rZ):=by
    simp only[];rw[bg (Ne.symm hne)];exact hj
   have hobj:=p2.obj id _ hidE;simp only[aZ]at hobj;obtain⟨b2,n2,ms2,o1,o2,o3,o4⟩:=hobj;rw[h1]at o1;simp only[bf,bo]at o1;obtain⟨rfl,rfl⟩:=o1;rw[p4]at o2;cases o2;obtain⟨loc',W,r1,r2⟩:=GY p2 (i:=I.length) (key:=k) (bn:=cl) (e:={ key:=d,val:=u,born:=cl }) hidE hjE (by simp) h1 p4 (by
    simp only[ob];rw[iY (by omega)];simp[hml]) o3 o4 (bD p3 _ hv)
   have e2:(I++[(k,(none:Option (List (List AV))),cl)]).set I.length (k,some rZ,cl)=I++[(k,some rZ,cl)]:=by
    rw[Vn _ _ (aM _),lF];rfl
   refine⟨w',hrun,fun xx=>⟨loc',W,by simp[ad],?_,p3.trans ?_⟩⟩
   ·simpa[lE,e2]using r1
   ·simpa[lE,e2]using r2
 ·cases h
def aJ.yW{E:af}(H:aJ E){id l0:Nat}{o o':ai}(M:E.H[id]? = some o)(hlab:o.label=none)(V:o'.label=some l0)(W:o'.aV = o.aV)(O:∀(i:Nat) x,E.H[i]? = some x->x.label≠some l0)
  (ho:E.le { w:=E.w,H:=E.H.set id o',ae:=E.ae,X:=E.X }->aZ { w:=E.w,H:=E.H.set id o',ae:=E.ae,X:=E.X } id o') :
  aJ { w:=E.w,H:=E.H.set id o',ae:=E.ae,X:=E.X }/\E.le { w:=E.w,H:=E.H.set id o',ae:=E.ae,X:=E.X }:=by
 have hlt:=aY M;have N:∀(i:Nat) x,(E.H.set id o')[i]? = some x->(i=id/\x=o')\/(i≠id/\E.H[i]? = some x):=fun i x hi=>by
  by_cases g:i=id
  ·subst g
   rw[bB hlt]at hi;cases hi;exact .inl ⟨rfl,rfl⟩
  ·rw [bg (Ne.symm g)] at hi
   exact .inr ⟨g,hi⟩
 have U:E.le { w:=E.w,H:=E.H.set id o',ae:=E.ae,X:=E.X }:=by
  refine⟨fun i al hp=>?_,aM _,fun _ _ _=>rfl,fun b hb O=>O,fun i al hp q=>?_,⟨rfl,rfl⟩,fun l h hh=>⟨hh,fun _ hq=>hq⟩,.refl _,fun i l x h1 d hv=>⟨⟨[],(da _).symm⟩,?_⟩⟩
  rotate_right
  ·by_cases g : i = id
   ·subst g
    rw[M]at h1;cases h1;rw[ai.B3 hlab]at d;cases d
   ·exact⟨x,by simp only[]; rw[bg (Ne.symm g)]; exact h1,d⟩
  ·obtain ⟨x, h1, d⟩ := hp
   by_cases g:i=id
   ·subst g
    rw[M]at h1;cases h1;exact⟨o',by simp only[]; rw[bB hlt],ai.B2 V,fun v hv=>d.2 v (by rw[<-W]; exact hv)⟩
   ·exact⟨x,by simp only[]; rw[bg (Ne.symm g)]; exact h1,d⟩
  ·obtain ⟨x, h1, d⟩ := q
   rcases N i x h1 with⟨rfl,rfl⟩|⟨g,I⟩
   ·exact⟨⟨o,M,by rw[<-W]; exact d⟩,rfl⟩
   ·exact⟨⟨x,I,d⟩,rfl⟩
 refine⟨⟨by simp[H.len],H.inj,H.lt,H.X,fun i x hi=>?_,H.gL.bU U.toC,H.fN,H.du,H.cS,fun i k x y l hi hk h1 d=>?_,fun l hn h y hy=>?_⟩,U⟩
 ·rcases N i x hi with ⟨rfl, rfl⟩ | ⟨g, I⟩
  ·exact ho U
  ·exact nh (fun a _ hr=>bD U a hr) rfl (fun _ _ _=>rfl) (fun l q=>⟨rfl,fun _ _ _ _=>rfl⟩) (H.obj i x I)
 ·rcases N i x hi with ⟨rfl, rfl⟩ | ⟨g, I⟩ <;> rcases N k y hk with ⟨rfl, rfl⟩ | ⟨e4, h5⟩
  ·rfl
  ·rw [V] at h1
   cases h1;exact(O k y h5 d).elim
  ·rw [V] at d
   cases d;exact(O i x I h1).elim
  ·exact H.uniq i k x y l I h5 h1 d
 ·refine H.ja l (fun i x hi q => ?_) h y hy
  by_cases e:i=id
  ·subst e
   rw[M]at hi;cases hi;rw[hlab]at q;cases q
  ·exact hn i x (by show (E.H.set id o')[i]? = _; rw[bg (Ne.symm e)]; exact hi) q
def WK{E:af}(HE:aJ E){id l w cl:Nat}(d:E.H[id]? = some (.map [] cl))(g:kZ E.H l=true) :
  aJ { w:=E.w,H:=E.H.set id (.a7 l w [] cl),ae:=E.ae,X:=E.X }/\E.le { w:=E.w,H:=E.H.set id (.a7 l w [] cl),ae:=E.ae,X:=E.X } :=
 aJ.yW HE d rfl rfl rfl (qc g) fun h=>by
  have ho:=HE.obj id _ d;simp only[aZ]at ho|-;obtain⟨b,n,k,h1,q,v⟩:=ho;refine⟨b,n,k,h1,q,f_ (fun a _ I=>bD h a I) v,fun _=>0,fun i j x y hi=>by simp at hi,fun i x rZ e hi=>by simp at hi⟩
def WL{E:af}(HE:aJ E){id l w cl:Nat}{g:List (AV × AV × Nat)}{es:List (AV × Option (List (List AV)) × Nat)}(h:E.H[id]? = some (.map g cl))(he:dj es=g)(hn:∀ x∈es,x.2.1=none)(k:kZ E.H l=true) :
  aJ { w:=E.w,H:=E.H.set id (.a7 l w es cl),ae:=E.ae,X:=E.X }/\E.le { w:=E.w,H:=E.H.set id (.a7 l w es cl),ae:=E.ae,X:=E.X } :=
 aJ.yW HE h rfl rfl rfl (qc k) fun q=>by
  have ho:=HE.obj id _ h;simp only[aZ]at ho|-;obtain⟨b,n,v,h1,I,M⟩:=ho;refine⟨b,n,v,h1,I,f_ (fun a _ N=>bD q a N) (by rw[he]; exact M),fun i=>i,fun i j x y hi O d=>?_,fun i x rZ e hi d=>?_⟩
  ·rw [hn x (eS hi)] at d
   cases d
  ·rw [hn x (eS hi)] at d
   cases d
def WM{E:af}(HE:aJ E){id l w cl i:Nat}{d:List (AV × Option (List (List AV)) × Nat)}{key:AV}{rZ:List (List AV)}{bn b n:Nat}{ms:Array MapEntry}{e':MapEntry}(hid:E.H[id]? = some (.a7 l w d cl))(hes:d[i]? = some (key,some rZ,bn))
  (h1:E.ae[id]? = some (some (b,n))) (h2:E.w.heap[b]? = some (.map ms cl)) (h3:bL E (dj d) ms.toList) (h4:kY E l w d ms.toList) (q4:ms.toList[i]? = some e') :
  ∃ loc' r',aJ { w:=E.w,H:=E.H.set id (.a7 l w (d.set i (key,none,bn)) cl)++[.vQ w 0 rZ],ae:=loc',X:=E.X.re r' }/\E.le { w:=E.w,H:=E.H.set id (.a7 l w (d.set i (key,none,bn)) cl)++[.vQ w 0 rZ],ae:=loc',X:=E.X.re r' } /\
   ad { w:=E.w,H:=E.H.set id (.a7 l w (d.set i (key,none,bn)) cl)++[.vQ w 0 rZ],ae:=loc',X:=E.X.re r' } (.vQ w E.H.length 0 0 rZ.length) e'.val:=by
 have hlenH:E.H.length=E.ae.length:=HE.len.symm;obtain⟨hs,k1,k2⟩:=h4;have hsl:=k2 i _ rZ e' hes rfl q4;obtain⟨k,h0,z1,z2,z3⟩:∃(k:Option (Nat × Nat)) (h0:Nat),(∀ b m,k=some (b,m)->(E.X.r l)[h0]? = some (some (some (b,m)))) /\
   (∀ j y,d[j]? = some y->y.2.1.isSome=true->j≠i->∀ b m,(E.X.r l)[hs j]? = some (some (some (b,m)))->hs j≠h0) /\
   ((k=none/\rZ=[]/\∃ aN,e'.val=.slice aN 0 0)\/∃ b m,k=some (b,m)/\e'.val=.slice (some ⟨b,0,none⟩) rZ.length m/\isRow E.w b (m*w)/\rZ.length<=m/\fv rZ/\cY E w rZ b 0):=by
  rcases hsl with⟨s1,s2⟩|⟨I,mm,s1,s2,V,U,W,s6⟩
  ·exact⟨none,(E.X.r l).length,fun _ _ e=>(by cases e),fun j y _ _ _ b m hb e=>(by rw[e]at hb; have:=aY hb; omega),.inl ⟨rfl,s1,s2⟩⟩
  ·exact⟨some (I,mm),hs i,fun _ _ e=>(by cases e; exact s1),fun j y g hsy hne _ _ _ e=>hne (k1 j i _ _ g hes hsy rfl e),.inr ⟨I,mm,rfl,s2,V,U,W,s6⟩⟩
 obtain⟨r1,r2⟩:=aJ.Cv HE (id:=id) (l0:=l) (h0:=h0) (o':=.a7 l w (d.set i (key,none,bn)) cl) (ov:=.vQ w 0 rZ) (q:=k) hid rfl rfl rfl rfl z1 fun hle=>by
  refine⟨?_,?_⟩
  ·simp only [aZ]
   refine⟨b,n,ms,?_,h2,?_,?_⟩
   ·rw [di (aY h1)]
    exact h1
   ·exact f_ (fun a _ M=>bD hle a M) (GW hes rfl rfl h3)
   ·refine ⟨hs, fun a b' y z g hz sy sz he => ?_, fun a y rws e g M he => ?_⟩
    all_goals
     have old:∀(j:Nat) y,(d.set i (key,none,bn))[j]? = some y->y.2.1.isSome=true->d[j]? = some y/\j≠i:=fun j y g hsm=>by
      rw[eC]at g;split at g
      ·split at g
       ·cases g
        cases hsm
       ·cases g
      ·rename_i hne
       exact⟨g,Ne.symm hne⟩
    ·exact k1 a b' y z (old a y g sy).1 (old b' z hz sz).1 sy sz he
    ·obtain ⟨o1, o2⟩ := old a y g (by rw [M]; rfl)
     rcases k2 a y rws e o1 M he with O|⟨I,mm,s1,s2,V,U,W,s6⟩
     ·exact .inl O
     ·refine .inr ⟨I, mm, ?_, s2, V, U, W, gz (fun a _ M => bD hle a M) rfl s6⟩
      have hne:=z2 a y o1 (by rw[M]; rfl) o2 I mm s1;show (ib E.X.r l h0 l)[hs a]? = _
      rw[Cu fun e=>hne e.2];exact s1
  ·simp only [aZ]
   have O:(E.ae++[k])[E.H.length]? = some k:=by rw[hlenH]; simp
   rcases z3 with⟨rfl,s1,_⟩|⟨I,mm,rfl,_,V,U,W,s6⟩
   ·exact .inl ⟨O,s1⟩
   ·exact .inr ⟨I,mm,O,V,U,W,gz (fun a _ M=>bD hle a M) rfl s6⟩
 refine⟨E.ae++[k],ib E.X.r l h0,r1,r2,?_⟩;have hnew:(E.H.set id (.a7 l w (d.set i (key,none,bn)) cl)++[.vQ w 0 rZ])[E.H.length]? = some (.vQ w 0 rZ):=by
  rw[iY (by simp)];simp
 have O:(E.ae++[k])[E.H.length]? = some k:=by rw[hlenH]; simp
 simp only[ad];rcases z3 with⟨rfl,s1,aN,s2⟩|⟨I,mm,rfl,s2,V,U,W,s6⟩
 ·subst s1
  refine⟨⟨aN,0,by rw[s2]; rfl,aM _,fun h=>by simp at h⟩,⟨_,hnew,rfl,fun v hv=>by cases hv; exact aM _⟩,fun _=>⟨fun _=>⟨by first|rfl|trivial,by first|rfl|trivial,aN,s2⟩,fun b' m' N=>?_⟩⟩;rw[O]at N;cases N
 ·refine ⟨⟨_, mm, s2, U, fun _ => ⟨I, 0, rfl⟩⟩, ⟨_, hnew, rfl, fun v hv => by cases hv; exact aM _⟩, fun _ => ⟨fun N => ?_, fun b' m' N => ?_⟩⟩
  ·rw [O] at N
   cases N
  ·rw [O] at N
   cases N;exact⟨by omega,0,fun _=>by simp,by rw[s2,fD]⟩
def GZ{E:af}(HE:aJ E)(w:Nat) :
  aJ { w:=E.w,H:=E.H++[.vQ w 0 []],ae:=E.ae++[none],X:=E.X }/\E.le { w:=E.w,H:=E.H++[.vQ w 0 []],ae:=E.ae++[none],X:=E.X } /\
   ad { w:=E.w,H:=E.H++[.vQ w 0 []],ae:=E.ae++[none],X:=E.X } (.vQ w E.H.length 0 0 0) (.slice none 0 0):=by
 have q:E.le (E.push E.w (.vQ w 0 []) none):=af.mv HE.len (Ext.refl _) (fun b n h=>by cases h);have d:(E.ae++[(none:Option (Nat × Nat))])[E.H.length]? = some none:=by rw[<-HE.len]; simp
 have k:aZ (E.push E.w (.vQ w 0 []) none) E.H.length (.vQ w 0 []):=by
  simp only[aZ,af.push];exact .inl ⟨d,trivial⟩
 refine⟨aJ.push HE (Ext.refl _) (fun b n h=>by cases h) k,q,?_⟩;simp only[ad];refine⟨⟨none,0,rfl,aM _,fun h=>by simp at h⟩,⟨.vQ w 0 [],by simp,rfl,fun v y=>by cases y; exact aM _⟩,fun _=>⟨fun _=>⟨by first|rfl|trivial,by first|rfl|trivial,none,rfl⟩,fun I m' g=>?_⟩⟩;rw[d]at g;cases g
def kz(P:aj)(t:aF)(m k:AV)(H:List ai):Option (AV × List ai) :=
 match dO P t,m with
 | some (g,h),.map id=>match H[id]? with
  | some (.a7 l w d cl)=>match jb P g k,Cx P h,ju P h with
   | some q,some w',some (.lit (.slice none 0 0))=>match aG w' w&&k.closed with
    | true=>match fi P g q (dj d) 0 with
     | some (some (i,_))=>match ra d i with
      |some (_,rZ,n)=>some (.tuple [.vQ w H.length 0 0 rZ.length,.lit (goInt n)],H.set id (.a7 l w (d.set i (k,none,n)) cl)++[.vQ w 0 rZ])
      |none=>none
     |some none=>some (.tuple [.vQ w H.length 0 0 0,.lit (goInt cl)],H.set id (.a7 l w (d++[(k,none,cl)]) (cl+1))++[.vQ w 0 []])
     |none=>none
    |false=>none
   |_,_,_=>none
  |_=>none
 |_,_=>none
def WN{P:aj}{E:af}(HE:aJ E){t:aF}{m k v:AV}{c d:ao}{H':List ai}(h:kz P t m k E.H=some (v,H'))(hm:ad E m c)(hk:ad E k d) :
  ∃ u w',(FZ t c d).run P E.w=.ok u w'/\dc E v H' u w':=by
 unfold kz at h;split at h
 case h_2=>cases h
 rename_i kt et id ht;split at h
 case h_2=>cases h
 rename_i l w M cl hid;split at h
 case h_2=>cases h
 rename_i kv w' hkv hw' I;split at h
 case h_2=>cases h
 rename_i hww;simp only[aK]at hww;have hcl:=hww.2;clear hw' hww;obtain⟨b,n,U,rfl,h1,h2,h3,h4⟩:=Cw HE hid hm;have W:=jt hkv hk;have N:=GV hkv;have e1:(getObj b).run P E.w=.ok (.map U cl) E.w:=by simp[getObj,iG,h2]
 obtain⟨hlen,hall⟩:=e9.1 h3;rw[Gd]at hlen;have hidE:∀(w':a_) es' cl',({ w:=w',H:=E.H.set id (.a7 l w es' cl'),ae:=E.ae,X:=E.X }:af).H[id]? = some (.a7 l w es' cl'):=fun w' es' cl'=>by
  simp only[];rw[bB (aY hid)]
 split at h
 ·rename_i i v0 hf
  split at h
  case h_2=>cases h
  rename_i key rZ V hat;cases h;have hes:M[i]? = some (key,some rZ,V):=by
   unfold ra at hat;split at hat
   ·rename_i a1 a2 a3 he
    cases hat;exact he
   ·cases hat
  have hlt:=aY hes;obtain⟨r',g1,g2⟩:=iI W E.w h3 hf;cases r' with
  |none=>simp[dK]at g2
  | some q =>
   simp only[dK]at g2;obtain⟨q1,q2,_,e',q4,q5⟩:=g2;obtain⟨_,x,y,f1,f2,f3⟩:=vE hf;simp only[fD]at q4 f1;obtain⟨a1,a2,a3,a4,a5⟩:=hall i x e' f1 q4;obtain⟨s1,s2⟩:=yQ W (jt f2 a1) f3;have q4':U[i]? = some e':=by simpa using q4
   have hx:x=((hZ key).1,(hZ key).2,V):=by rw[yU hes]at f1; cases f1; rfl
   have hre:bL E (dj (M.set i (k,some rZ,V))) (U.modify i fun e=>{ e with key:=d }).toList:=by
    rw[e9];refine⟨by simp[dj,hlen],fun a y z g I=>?_⟩;simp only[kS,iH]at I;obtain⟨z0,hz0,rfl⟩:=eL.1 I;unfold dj at g;rw[bY,eC]at g;by_cases e:i=a
    ·subst e
     rw[iP rfl,iP hlt]at g;cases g;rw[q4]at hz0;cases hz0;simp only[if_true];refine⟨by simpa[N]using hk,by simp[N,ad],?_,by simpa[N]using hcl,by simp[N,AV.closed]⟩;rw[a3,hx]
    ·rw [iN e] at g
     obtain⟨b1,b2,b3,b4,b5⟩:=hall a y z0 (by unfold dj; rw[bY]; exact g) hz0;simp only[iN e];exact⟨b1,b2,b3,b4,b5⟩
   have hsl2:kY E l w (M.set i (k,some rZ,V)) (U.modify i fun e=>{ e with key:=d }).toList:=by
    obtain⟨hs,k1,k2⟩:=h4;have O:∀(a:Nat) y,(M.set i (k,some rZ,V))[a]? = some y->∃ z,M[a]? = some z/\z.2.1=y.2.1:=fun a y g=>by
     by_cases ei:i=a
     ·subst ei
      rw[bB hlt]at g;cases g;exact⟨_,hes,rfl⟩
     ·rw [bg ei] at g
      exact⟨y,g,rfl⟩
    refine⟨hs,fun a c y z g I sy sz he=>?_,fun a y rws e g hr he=>?_⟩
    ·obtain ⟨y', hy', ey⟩ := O a y g
     obtain⟨z',hz',ez⟩:=O c z I;exact k1 a c y' z' hy' hz' (by rw[ey]; exact sy) (by rw[ez]; exact sz) he
    ·obtain ⟨y', hy', ey⟩ := O a y g
     simp only[kS,iH]at he;obtain⟨z0,hz0,rfl⟩:=eL.1 he;have:=k2 a y' rws z0 hy' (by rw[ey]; exact hr) hz0;split<;>exact this
   obtain⟨w1,p1,p2,p3,p4,p5⟩:=yV (P:=P) HE (cl':=cl) hid h1 h2 hre hsl2;have hobj:=p2.obj id _ (hidE w1 _ _);simp only[aZ]at hobj;obtain⟨b2,n2,ms2,o1,o2,o3,o4⟩:=hobj;rw[h1]at o1;simp only[bf,bo]at o1;obtain⟨rfl,rfl⟩:=o1;rw[p4]at o2;cases o2;obtain⟨loc',r',r1,r2,r3⟩:=WM p2 (i:=i) (key:=k) (rZ:=rZ) (bn:=V) (e':={ e' with key:=d }) (hidE w1 _ _) (by rw[bB hlt]) h1 p4 o3 o4 (by
    simp only[kS,iH,q4];simp)
   simp only[lE,iE]at r1 r2 r3;refine⟨.tuple #[e'.val,goInt V],w1,?_,loc',r',?_,r1,p3.trans r2⟩
   ·have hst : (qP e'.key d).run P E.w = .ok d E.w := by simp [qP, s2]
    subst q1;simp only[FZ,cr,Sem.bF (gn ht),cf,e1,gM W,g1,q4',ff,m_,hst];rw[p1];simp only[cf,ft];rw[a3,hx,<-q5]
   ·simp only [ad]
    refine⟨_,rfl,?_⟩;simp only[ax,and_true];exact⟨r3,by simp[ad]⟩
 ·rename_i hf
  cases h;obtain⟨r',g1,g2⟩:=iI W E.w h3 hf;cases r' with
  |some _=>simp[dK]at g2
  | none =>
   obtain⟨zv,z1,z2⟩:=tm I E.w;have hzv:zv=.slice none 0 0:=by have:=z2 E; simpa[ad]using this
   have hml:U.toList.length=M.length:=by omega
   have hre:bL E (dj (M++[(k,none,cl)])) (U.push { key:=d,val:=zv,born:=cl }).toList:=by
    rw[e9];refine⟨by simp[dj,hlen],fun a y z g I=>?_⟩;unfold dj at g;rw[jY]at g;simp only[ob,gk,c8]at g I;rw[hml]at I;by_cases e:a<M.length
    ·simp only [iP e] at g I
     exact hall a y z (by unfold dj; exact g) I
    ·simp only [iN e] at g I
     cases hj2:a-M.length with
     | zero =>
      rw[hj2]at g I;simp at g I;subst g; subst I;exact⟨by simpa[N]using hk,by simp[N,ad],rfl,by simpa[N]using hcl,by simp[N,AV.closed]⟩
     |succ _=>rw[hj2]at g; simp at g
   have hsl2:kY E l w (M++[(k,none,cl)]) (U.push { key:=d,val:=zv,born:=cl }).toList:=by
    obtain⟨hs,k1,k2⟩:=h4;have O:∀(a:Nat) y,(M++[(k,(none:Option (List (List AV))),cl)])[a]? = some y->y.2.1.isSome=true->M[a]? = some y/\a<M.length:=fun a y g hsm=>by
     rw[gk]at g;split at g
     ·rename_i hh
      exact⟨g,hh⟩
     ·cases hk2 : a - M.length with
      | zero =>
       rw[hk2]at g;simp at g;subst g;cases hsm
      |succ _=>rw[hk2]at g; simp at g
    refine⟨hs,fun a c y z g I sy sz he=>k1 a c y z (O a y g sy).1 (O c z I sz).1 sy sz he,fun a y rws e g hr he=>?_⟩;obtain⟨o1,o2⟩:=O a y g (by rw[hr]; rfl);simp only[ob]at he;rw[di (by omega)]at he;exact k2 a y rws e o1 hr he
   obtain⟨w1,p1,p2,p3,p4,p5⟩:=yV (P:=P) HE (cl':=cl+1) hid h1 h2 hre hsl2;obtain⟨r1,r2,r3⟩:=GZ p2 w;simp only[iE]at r3;refine⟨.tuple #[zv,goInt cl],w1,?_,E.ae++[none],E.X.r,?_,r1,p3.trans r2⟩
   ·simp only [FZ, cr, Sem.bF (gn ht), cf, e1, gM W, g1, z1]
    rw[p1];rfl
   ·simp only [ad]
    refine⟨_,rfl,?_⟩;simp only[ax,and_true];rw[hzv];exact⟨r3,by simp[ad]⟩
 ·cases h
def tv (d:List (AV × Option (List (List AV)) × Nat)) (st:Int):Option Nat:=d.findIdx? fun x=>(x.2.2:Int)==st
def plainKey:AV->Bool
 |.tuple _=>false
 |_=>true
def WO{k:AV}(h:plainKey k=true):hZ k=(k,.undef):=by
 cases k<;>first|rfl|cases h
def nq(m s v:AV)(H:List ai):Option (List ai) :=
 match m,s,v with
 | .map id,.lit (.int .i64 st),.vQ w j al oF n=>match H[id]?,H[j]? with
  | some (.a7 l w' d cl),some (.vQ h g rZ)=>if (w=w'/\w=h)/\(al=g/\oF=0)/\n=rZ.length then
    match tv d st with
    | some i=>match d[i]? with
     | some (key,_,k)=>match plainKey (hZ key).1 with
      |true=>some ((H.set id (.a7 l w' (d.set i ((hZ key).1,some rZ,k)) cl)).set j .dead)
      |false=>none
     |none=>none
    |none=>none
   else none
  |_,_=>none
 |_,_,_=>none
def Me{E:af}{st:Int}:∀{d:List (AV × Option (List (List AV)) × Nat)} {g:List MapEntry},bL E (dj d) g->g.findIdx? (fun e=>(e.born:Int)==st)=tv d st
 | [],[],_=>rfl
 | [],_::_,h=>by simp[dj,bL]at h
 |_::_,[],h=>by simp[dj,bL]at h
 | x::d,e::g,h=>by
  have h':bL E (((hZ x.1).1,(hZ x.1).2,x.2.2)::dj d) (e::g):=h;simp only[bL]at h';obtain⟨_,_,q,_,_,v⟩:=h';have k:=Me (st:=st) v;unfold tv at k|-;simp only[KU,q,k]
def WQ{P:aj}{E:af}(HE:aJ E){t:aF}{m s v:AV}{c d u:ao}{H':List ai}(h:nq m s v E.H=some H')(hm:ad E m c)(hs:ad E s d)(hv:ad E v u) :
  ∃ w',(BO t c d u).run P E.w=.ok () w'/\∀ x,dc E .undef H' x w':=by
 unfold nq at h;split at h
 case h_2=>cases h
 rename_i id st w j al oF n;split at h
 case h_2=>cases h
 rename_i l w' q cl w2 ver' rZ N hj;split at h
 case isFalse=>cases h
 rename_i hc;obtain⟨⟨rfl,rfl⟩,⟨rfl,rfl⟩,rfl⟩:=hc;split at h
 case h_2=>cases h
 rename_i i hi;split at h
 case h_2=>cases h
 rename_i key0 O I hes;split at h
 case h_2=>cases h
 rename_i hpl;cases h;have M:=WO hpl;obtain⟨key,hkey⟩:∃ key,key=(hZ key0).1:=⟨_,rfl⟩
 rw[<-hkey]at M|-;obtain⟨b,n,k,rfl,h1,h2,h3,h4⟩:=Cw HE N hm;have hne:j≠id:=fun e=>by rw[e,N]at hj; cases hj
 have e1:(getObj b).run P E.w=.ok (.map k cl) E.w:=by simp[getObj,iG,h2]
 obtain⟨hlen,hall⟩:=e9.1 h3;rw[Gd]at hlen;have hlt:=aY hes;obtain⟨e',q4⟩:∃ e',k.toList[i]? = some e':=⟨k.toList[i]'(by omega),bZ _⟩
 have hfind:k.findIdx? (fun e=>(e.born:Int)==st)=some i:=by
  have e0:k=k.toList.toArray:=by simp
  rw[e0,amm,Me h3,hi]
 have hre:bL E (dj (q.set i (key,none,I))) (k.modify i fun e=>{ e with val:=u }).toList:=by
  rw[e9];refine⟨by simp[dj,hlen],fun a y z g V=>?_⟩;simp only[kS,iH]at V;obtain⟨W,U,rfl⟩:=eL.1 V;unfold dj at g;rw[bY,eC]at g;by_cases e:i=a
  ·subst e
   rw[iP rfl,iP hlt]at g;cases g;obtain⟨b1,b2,b3,b4,b5⟩:=hall i _ W (yU hes) U;simp only[if_true];exact⟨by simpa only[M,<-hkey]using b1,by simp[M,ad],b3,by simpa only[M,<-hkey]using b4,by simp[M,AV.closed]⟩
  ·rw [iN e] at g
   obtain⟨b1,b2,b3,b4,b5⟩:=hall a y W (by unfold dj; rw[bY]; exact g) U;simp only[iN e];exact⟨b1,b2,b3,b4,b5⟩
 have hsl2:kY E l w (q.set i (key,none,I)) (k.modify i fun e=>{ e with val:=u }).toList:=by
  obtain⟨hs,k1,k2⟩:=h4;have O:∀(a:Nat) y,(q.set i (key,none,I))[a]? = some y->y.2.1.isSome=true->q[a]? = some y/\a≠i:=fun a y g hsm=>by
   by_cases ei:i=a
   ·subst ei
    rw[bB hlt]at g;cases g;cases hsm
   ·rw [bg ei] at g
    exact⟨g,Ne.symm ei⟩
  refine⟨hs,fun a c y z g V sy sz he=>k1 a c y z (O a y g sy).1 (O c z V sz).1 sy sz he,fun a y rws e g hr he=>?_⟩;obtain⟨o1,o2⟩:=O a y g (by rw[hr]; rfl);simp only[kS,iH]at he;obtain⟨W,U,rfl⟩:=eL.1 he;rw[iN (Ne.symm o2)];exact k2 a y rws W o1 hr U
 obtain⟨w',p1,p2,p3,p4,p5⟩:=yV (P:=P) HE (cl':=cl) N h1 h2 hre hsl2;have hd:d=.int .i64 st:=by simpa[ad]using hs
 have hrun:(BO t (.map (some b)) d u).run P E.w=.ok () w':=by
  subst hd;simp only[BO,asInt,asIntOf,cr,cf,e1,ft,hfind];exact p1
 have hidE:({ w:=w',H:=E.H.set id (.a7 l w (q.set i (key,none,I)) cl),ae:=E.ae,X:=E.X }:af).H[id]? = some (.a7 l w (q.set i (key,none,I)) cl):=by
  simp only[];rw[bB (aY N)]
 have hjE:({ w:=w',H:=E.H.set id (.a7 l w (q.set i (key,none,I)) cl),ae:=E.ae,X:=E.X }:af).H[j]? = some (.vQ w al rZ):=by
  simp only[];rw[bg (Ne.symm hne)];exact hj
 have hobj:=p2.obj id _ hidE;simp only[aZ]at hobj;obtain⟨b2,n2,ms2,o1,o2,o3,o4⟩:=hobj;rw[h1]at o1;simp only[bf,bo]at o1;obtain⟨rfl,rfl⟩:=o1;rw[p4]at o2;cases o2;obtain⟨loc',r',r1,r2⟩:=GY p2 (i:=i) (key:=key) (bn:=I) (e:={ e' with val:=u }) hidE hjE (by rw[bB hlt]) h1 p4 (by
  simp only[kS,iH,q4];simp) o3 o4 (bD p3 _ hv)
 refine⟨w',hrun,fun xx=>⟨loc',r',by simp[ad],?_,p3.trans ?_⟩⟩
 ·simpa[lE]using r1
 ·simpa[lE]using r2
end Go.AL

namespace Go.AL
open Go
variable [Dr]
def Mf{r:List (Option (Option (Nat × Nat)))}(h:∀(i:Nat) q,r[i]? ≠ some (some q)):dU r=[]:=by
 unfold dU;rw[List.filterMap_eq_nil_iff];intro x d;obtain⟨i,hi,e⟩:=pR d;cases x with
 |none=>rfl
 |some q=>exact absurd (by rw[bZ hi,e]) (h i q)
def Mg{E:af}(HE:aJ E){id l cl:Nat}(d:E.H[id]? = some (.map [] cl))(g:kZ E.H l=true) :
  aJ { w:=E.w,H:=E.H.set id (.mm l [] [] cl),ae:=E.ae,X:=E.X }/\E.le { w:=E.w,H:=E.H.set id (.mm l [] [] cl),ae:=E.ae,X:=E.X } :=
 aJ.yW HE d rfl rfl rfl (qc g) fun h=>by
  have ho:=HE.obj id _ d;simp only[aZ]at ho|-;obtain⟨b,n,k,h1,q,v⟩:=ho;have y:=Mf (HE.ja l (qc g));refine⟨b,n,k,h1,q,f_ (fun a _ I=>bD h a I) v,?_,fun i x e M=>by simp at M,fun j m b hm=>by simp at hm⟩;show (dU (E.X.r l)).length=0
  rw[y];rfl
def G0{E:af}(HE:aJ E){id l cl:Nat}{g:List (AV × Option Nat × Nat)}{q:List (List (AV × AV × Nat) × Nat)}{c:ao}(k:E.H[id]? = some (.mm l g q cl))(v:ad E (.map id) c) :
  ∃ b n d,c=.map (some b)/\E.ae[id]? = some (some (b,n))/\E.w.heap[b]? = some (.map d cl)/\bL E (h_ g) d.toList/\B5 E l g q d.toList:=by
 have ho:=HE.obj id _ k;simp only[aZ]at ho;obtain⟨b,n,d,h1,y,I,M⟩:=ho;simp only[ad]at v;obtain⟨_,_,N⟩:=v;obtain⟨U,V,h,O⟩:=N ⟨_,k,rfl⟩;rw[h1]at h;simp only[bf,bo]at h;obtain⟨rfl,rfl⟩:=h;exact⟨b,n,d,O,h1,y,I,M⟩
def Mh{E:af}(HE:aJ E){id l cl i:Nat}{y:List (AV × Option Nat × Nat)}{k:List (List (AV × AV × Nat) × Nat)}{m:List (AV × AV × Nat) × Nat}{c:ao}(g:E.H[id]? = some (.mm l y k cl))(hm:k[i]? = some m) (q:ad E (.sub id l (some i)) c) :
  ∃ b d,c=.map (some b)/\(dU (E.X.r l))[i]? = some b/\E.w.heap[b]? = some (.map d m.2)/\bL E m.1 d.toList:=by
 have ho:=HE.obj id _ g;simp only[aZ]at ho;obtain⟨_,_,d,_,_,_,_,_,I⟩:=ho;simp only[ad]at q;rcases q with⟨h,_⟩|⟨V,h1,_,_,M⟩
 ·cases h
 cases h1;obtain⟨_,b,v,N⟩:=M ⟨_,g,rfl⟩;obtain⟨mm,O,U⟩:=I i m b hm v;exact⟨b,mm,N,v,O,U⟩
def tw(P:aj)(t:aF)(m k:AV)(H:List ai):Option AV :=
 match dO P t,m with
 | some (d,h),.map id=>match H[id]? with
  | some (.mm l g _ _)=>match jb P d k,ju P h with
   | some q,some (.lit (.map none))=>match fi P d q (h_ g) 0 with
    |some (some (i,_))=>(g[i]?).map fun x=>.sub id l x.2.1
    |some none=>some (.sub id l none)
    |none=>none
   |_,_=>none
  |_=>none
 |_,_=>none
def WR{P:aj}{E:af}(HE:aJ E){t:aF}{m k v:AV}{c d:ao}(h:tw P t m k E.H=some v)(hm:ad E m c)(hk:ad E k d) :
  ∃ u,(lD t c d false).run P E.w=.ok u E.w/\ad E v u:=by
 unfold tw at h;split at h
 case h_2=>cases h
 rename_i kt et id W;split at h
 case h_2=>cases h
 rename_i l es ms cl I;split at h
 case h_2=>cases h
 rename_i kv hkv hz;obtain⟨b,n,mes,rfl,h1,h2,h3,_,hmm,_⟩:=G0 HE I hm;have y:=jt hkv hk;obtain⟨zv,z1,z2⟩:=tm hz E.w;have hzv:zv=.map none:=by simpa[ad]using z2 E
 subst hzv;have e1:(getObj b).run P E.w=.ok (.map mes cl) E.w:=by simp[getObj,iG,h2]
 split at h
 ·rename_i i v0 M
  obtain⟨N,O,g⟩:=iI y E.w h3 M;cases N with
  |none=>simp[dK]at g
  | some q =>
   simp only[dK]at g;obtain⟨q1,_,_,e,q4,q5⟩:=g;obtain⟨x,hx,rfl⟩:=eL.1 h;refine⟨q.2,?_,?_⟩
   ·simp only [lD, cr, Sem.bF (gn W), cf, e1, ft, gM y, O]
    rfl
   ·rw [<- q5]
    simp only[ad];rcases hmm i x e hx (by simpa using q4)with⟨U,V⟩|⟨j,bj,U,V,a3⟩
    ·exact .inl ⟨U,V⟩
    ·exact .inr ⟨j,U,⟨bj,a3⟩,⟨_,I,rfl,fun v _=>eV v⟩,fun _=>⟨⟨_,I,rfl⟩,bj,V,a3⟩⟩
 ·rename_i M
  obtain⟨N,O,g⟩:=iI y E.w h3 M;cases h;cases N with
  |some _=>simp[dK]at g
  | none =>
   refine⟨.map none,?_,by simp[ad]⟩;simp only[lD,cr,Sem.bF (gn W),cf,e1,ft,gM y,O,z1];rfl
 ·cases h
def vF(P:aj)(t:aF)(m k:AV)(ok:Bool)(H:List ai):Option AV :=
 match dO P t,m with
 | some (d,g),.sub id l (some i)=>match H[id]? with
  | some (.mm l' _ h _)=>match aG l l',h[i]?,jb P d k,qe P g with
   | true,some mm,some q,some z=>match fi P d q mm.1 0 with
    | some r=>let v:=match r with
      |some (_,v)=>v
      |none=>z
     some (match ok with
      |true=>.tuple [v,.lit (.bool r.isSome)]
      |false=>v)
    |none=>none
   |_,_,_,_=>none
  |_=>none
 |_,_=>none
def WS{P:aj}{E:af}(HE:aJ E){t:aF}{m k v:AV}{ok:Bool}{c d:ao}(h:vF P t m k ok E.H=some v)(hm:ad E m c)(hk:ad E k d) :
  ∃ u,(lD t c d ok).run P E.w=.ok u E.w/\ad E v u:=by
 unfold vF at h;split at h
 case h_2=>cases h
 rename_i kt et id l i M;split at h
 case h_2=>cases h
 rename_i l' es ms cl hid;split at h
 case h_2=>cases h
 rename_i mm kv z I hmm hkv hz;have I:=bz I;subst I;split at h
 case h_2=>cases h
 rename_i r hr;obtain⟨b,mes,rfl,_,h2,h3⟩:=Mh HE hid hmm hm;have y:=jt hkv hk;obtain⟨N,O,g⟩:=iI y E.w h3 hr;obtain⟨U,z1,V⟩:=L4 hz E.w;have W:(getObj b).run P E.w=.ok (.map mes mm.2) E.w:=by simp[getObj,iG,h2]
 cases h;cases r with
 | none =>
  cases N with
  |some _=>simp[dK]at g
  | none =>
   refine⟨if ok then .tuple #[U,.bool false] else U,?_,?_⟩
   ·simp only[lD,cr,Sem.bF (gn M),cf,W,ft,gM y,O,z1]
   ·cases ok with
    |true=>simp[ad,ax,V E]
    |false=>simpa using V E
 | some p =>
  cases N with
  |none=>simp[dK]at g
  | some q =>
   simp only[dK]at g;obtain⟨q1,q2,_,_,_,_⟩:=g;refine⟨if ok then .tuple #[q.2,.bool true] else q.2,?_,?_⟩
   ·simp only[lD,cr,Sem.bF (gn M),cf,W,ft,gM y,O]
   ·cases ok with
    |true=>simp[ad,ax,q2]
    |false=>simpa using q2
def Mi:∀{r:List (Option (Option (Nat × Nat)))},(∀(h h' b m n:Nat),r[h]? = some (some (some (b,m)))->r[h']? = some (some (some (b,n)))->h=h')->(dU r).Nodup
 | [],_=>List.nodup_nil
 | x::r,H=>by
  have d:=Mi (r:=r) fun h h' b m n h1 g=>by
   have:=H (h+1) (h'+1) b m n (by simpa using h1) (by simpa using g);omega
  match x,H with
  |none,_=>exact d
  |some none,_=>exact d
  | some (some (b,m)),H =>
   show (b::dU r).Nodup
   refine List.nodup_cons.2 ⟨fun hm=>?_,d⟩;obtain⟨i,n,hi⟩:=qU hm;have:=H 0 (i+1) b m n rfl (by simpa using hi);omega
def Mj{E:af}(HE:aJ E){l i j b:Nat} (h1:(dU (E.X.r l))[i]? = some b) (d:(dU (E.X.r l))[j]? = some b):i=j :=
 (List.getElem?_inj (aY h1) (Mi fun h h' b m n g k=>(HE.fN l h l h' b m n g k).2)).1 (by rw[h1,d])
def mz(P:aj)(t:aF)(m k:AV)(ok:Bool)(H:List ai):Option AV :=
 match m with
 |.sub id l j=>vF P t (.sub id l j) k ok H
 | .map id=>match ok with
  |false=>tw P t (.map id) k H
  |true=>none
 |_=>none
def WT{P:aj}{E:af}(HE:aJ E){t:aF}{m k v:AV}{ok:Bool}{c d:ao}(h:mz P t m k ok E.H=some v)(hm:ad E m c)(g:ad E k d) :
  ∃ u,(lD t c d ok).run P E.w=.ok u E.w/\ad E v u:=by
 unfold mz at h;split at h
 ·exact WS HE h hm g
 ·split at h
  ·exact WR HE h hm g
  ·cases h
 ·cases h
def Mk{P:aj}{t:aF}{m k v:AV}{ok:Bool}{H H2:List ai}(I:∀(i l:Nat) g q (cl:Nat),H[i]? = some (ai.mm l g q cl)->H2[i]? = some (ai.mm l g q cl))(h:mz P t m k ok H=some v):mz P t m k ok H2=some v/\ia P t m k ok H2=none:=by
 unfold mz at h|-;unfold ia;split at h
 ·rename_i id l j
  refine⟨?_,by split<;>first|rfl|(rename_i e; cases e)⟩;unfold vF at h|-;split at h
  case h_2=>cases h
  rename_i M N i O;split at h
  case h_2=>cases h
  rename_i l' g q cl d;simp only[I _ _ _ _ _ d];exact h
 ·rename_i id
  split at h
  case h_2=>cases h
  cases y:dO P t with
  | none =>
   simp only[tw,y]at h;cases h
  | some p =>
   simp only[tw,y]at h|-;split at h
   case h_2=>cases h
   rename_i d;simp only[I _ _ _ _ _ d];exact⟨h,trivial⟩
 ·cases h
def WU{P:aj}{t:aF}{m k:AV}{ok:Bool}{H d:List ai}(h1:∀ id,m=.map id->d[id]? = H[id]?)(g:∀ id l j,m=.sub id l j->d[id]? = H[id]?):mz P t m k ok d=mz P t m k ok H:=by
 unfold mz;cases m<;>try rfl
 ·rename_i id
  cases ok with
  |true=>rfl
  | false =>
   unfold tw;cases dO P t with
   |none=>rfl
   |some p=>simp only[h1 id rfl]
 ·rename_i id l j
  unfold vF;cases dO P t with
  |none=>rfl
  | some p =>
   cases j with
   |none=>rfl
   |some j=>simp only[g id l (some j) rfl]
def Ml{P:aj}{E:af}(HE:aJ E){id l cl i b:Nat}{q:List (AV × Option Nat × Nat)}{k:List (List (AV × AV × Nat) × Nat)}{m m':List (AV × AV × Nat) × Nat}{mes mes':Array MapEntry}(hid:E.H[id]? = some (.mm l q k cl))(hm:k[i]? = some m)
  (hb:(dU (E.X.r l))[i]? = some b) (h2:E.w.heap[b]? = some (.map mes m.2)) (d:bL E m'.1 mes'.toList) :
  ∃ w',(setObj b (.map mes' m'.2)).run P E.w=.ok () w'/\aJ { w:=w',H:=E.H.set id (.mm l q (k.set i m') cl),ae:=E.ae,X:=E.X }/\E.le { w:=w',H:=E.H.set id (.mm l q (k.set i m') cl),ae:=E.ae,X:=E.X }:=by
 obtain⟨h,O,U⟩:=qU (eS hb);have hlt:=(HE.cS l h b O U).1;have hsz:({ E.w with heap:=E.w.heap.setIfInBounds b (.map mes' m'.2) }:a_).heap.size=E.w.heap.size:=by simp
 have M:∀ y,y≠b->({ E.w with heap:=E.w.heap.setIfInBounds b (.map mes' m'.2) }:a_).heap[y]? = E.w.heap[y]? := by
  intro y hy;simp only[BM];rw[iN (fun e=>hy e.symm)]
 have key:=aJ.vf (w':={ E.w with heap:=E.w.heap.setIfInBounds b (.map mes' m'.2) }) (r':=E.X.r) (o':=.mm l q (k.set i m') cl) HE hid rfl rfl rfl (KV hsz.symm) (fun x _ _ hx=>M x fun e=>by
   subst e;exact hx h O U) (fun _ _=>rfl) (fun _ _ _ V=>.inl V) (fun _ V=>⟨V,fun _ hq=>hq⟩) (fun N=>?_) ⟨rfl,rfl,rfl,fun _=>aM _⟩ (.inr ⟨rfl,[],(da _).symm⟩)
 ·exact⟨_,by simp[setObj,iG,h2],key.1,key.2⟩
 ·have ho := HE.obj id _ hid
  simp only[aZ]at ho|-;obtain⟨v,n,mes0,g1,g2,g3,g4,g5,g6⟩:=ho;have hne:v≠b:=fun e=>HE.du id v n l h O g1 (by rw[e]; exact U);refine⟨v,n,mes0,g1,?_,f_ (fun a _ d=>bD N a d) g3,?_,g5,fun j mj W I g=>?_⟩
  ·rw [<- g2]
   exact M v hne
  ·show (dU (E.X.r l)).length = _
   rw[iE];exact g4
  ·have g : (dU (E.X.r l))[j]? = some W := g
   by_cases e:i=j
   ·subst e
    rw[bB (aY hm)]at I;cases I;rw[hb]at g;cases g;exact⟨mes',by simp[hlt],f_ (fun a _ d=>bD N a d) d⟩
   ·rw [bg e] at I
    obtain⟨mm,k1,k2⟩:=g6 j mj W I g;refine⟨mm,?_,f_ (fun a _ d=>bD N a d) k2⟩;rw[<-k1];exact M W fun e2=>e (Mj HE hb (by rw[<-e2]; exact g))
def tx(P:aj)(t:aF)(m k v:AV)(H:List ai):Option (List ai) :=
 match dO P t,m with
 | some (y,_),.sub id l (some g)=>match H[id]? with
  | some (.mm l' h d q)=>match aG l l',d[g]?,jb P y k with
   | true,some mm,some I=>if v.closed=true/\k.closed=true then
     match fi P y I mm.1 0 with
     |some (some (i,_))=>some (H.set id (.mm l h (d.set g (mm.1.modify i fun e=>(k,v,e.2.2),mm.2)) q))
     |some none=>some (H.set id (.mm l h (d.set g (mm.1++[(k,v,mm.2)],mm.2+1)) q))
     |none=>none
    else none
   |_,_,_=>none
  |_=>none
 |_,_=>none
def WV{P:aj}{E:af}(HE:aJ E){t:aF}{m k v:AV}{c d u:ao}{H':List ai}(h:tx P t m k v E.H=some H')(hm:ad E m c)(hk:ad E k d)(hv:ad E v u) :
  ∃ w',(mY t c d u).run P E.w=.ok () w'/\aJ { w:=w',H:=H',ae:=E.ae,X:=E.X }/\E.le { w:=w',H:=H',ae:=E.ae,X:=E.X }:=by
 unfold tx at h;split at h
 case h_2=>cases h
 rename_i kt et id l i0 ht;split at h
 case h_2=>cases h
 rename_i l' oes oms ocl hid;split at h
 case h_2=>cases h
 rename_i mm kv hll hmm hkv;have hll:=bz hll;subst hll;obtain⟨es,cl⟩:=mm;split at h
 case isFalse=>cases h
 rename_i U;obtain⟨b,M,rfl,h1,h2,h3⟩:=Mh HE hid hmm hm;have N:=jt hkv hk;have e1:(getObj b).run P E.w=.ok (.map M cl) E.w:=by simp[getObj,iG,h2]
 obtain⟨W,hall⟩:=e9.1 h3;split at h
 ·rename_i i v0 V
  cases h;obtain⟨r',g1,O⟩:=iI N E.w h3 V;cases r' with
  |none=>simp[dK]at O
  | some q =>
   simp only[dK]at O;obtain⟨q1,q2,_,e',q4,q5⟩:=O;obtain⟨_,x,l,f1,f2,f3⟩:=vE V;simp only[fD]at q4 f1;obtain⟨a1,a2,a3,a4,a5⟩:=hall i x e' f1 q4;obtain⟨s1,s2⟩:=yQ N (jt f2 a1) f3;have q4':M[i]? = some e':=by simpa using q4
   obtain⟨w',r1,r2,r3⟩:=Ml (P:=P) HE (m':=(es.modify i fun e=>(k,v,e.2.2),cl)) (mes':=M.modify i fun e=>{ e with key:=d,val:=u }) hid hmm h1 h2 (by
    rw[e9];refine⟨by simp[W],fun j y z g I=>?_⟩;simp only[iH]at g;simp only[kS,iH]at I;obtain⟨y0,hy0,rfl⟩:=eL.1 g;obtain⟨z0,hz0,rfl⟩:=eL.1 I;obtain⟨b1,b2,b3,b4,b5⟩:=hall j y0 z0 hy0 hz0;by_cases e:i=j
    ·subst e
     simp only[if_true];exact⟨hk,hv,b3,U.2,U.1⟩
    ·simp only [iN e]
     exact⟨b1,b2,b3,b4,b5⟩)
   refine⟨w',?_,r2,r3⟩;subst q1;have hst:(qP e'.key d).run P E.w=.ok d E.w:=by simp[qP,s2]
   simp only[mY,cr,Sem.bF (gn ht),cf,e1,gM N,g1,q4',ff,m_,hst];exact r1
 ·rename_i V
  cases h;obtain⟨r',g1,O⟩:=iI N E.w h3 V;cases r' with
  |some _=>simp[dK]at O
  | none =>
   obtain⟨w',r1,r2,r3⟩:=Ml (P:=P) HE (m':=(es++[(k,v,cl)],cl+1)) (mes':=M.push { key:=d,val:=u,born:=cl }) hid hmm h1 h2 (by
    rw[e9];refine⟨by simp[W],fun j y z g I=>?_⟩;simp only[ob,gk,W]at g I;by_cases e:j<M.toList.length
    ·simp only [iP e] at g I
     exact hall j y z g I
    ·simp only [iN e] at g I
     cases hj:j-M.toList.length with
     | zero =>
      rw[hj]at g I;simp at g I;subst g; subst I;exact⟨hk,hv,rfl,U.2,U.1⟩
     |succ _=>rw[hj]at g; simp at g)
   refine⟨w',?_,r2,r3⟩;simp only[mY,cr,Sem.bF (gn ht),cf,e1,gM N,g1];exact r1
 ·cases h
def Mm{P:aj}{E:af}(HE:aJ E){id l b n cl cl':Nat}{es es':List (AV × Option Nat × Nat)}{k:List (List (AV × AV × Nat) × Nat)}{U mes':Array MapEntry}(I:E.H[id]? = some (.mm l es k cl)) (g:E.ae[id]? = some (some (b,n)))
  (hb:E.w.heap[b]? = some (.map U cl)) (d:bL E (h_ es') mes'.toList)
  (V:∀(i:Nat) x e,es'[i]? = some x->mes'.toList[i]? = some e->(x.2.1=none/\e.val=.map none)\/∃ j b,x.2.1=some j/\(dU (E.X.r l))[j]? = some b/\e.val=.map (some b)) :
  ∃ w',(setObj b (.map mes' cl')).run P E.w=.ok () w'/\aJ { w:=w',H:=E.H.set id (.mm l es' k cl'),ae:=E.ae,X:=E.X }/\E.le { w:=w',H:=E.H.set id (.mm l es' k cl'),ae:=E.ae,X:=E.X }:=by
 have W:=(HE.lt id b n g).1;have hsz:({ E.w with heap:=E.w.heap.setIfInBounds b (.map mes' cl') }:a_).heap.size=E.w.heap.size:=by simp
 have v:∀ y,y≠b->({ E.w with heap:=E.w.heap.setIfInBounds b (.map mes' cl') }:a_).heap[y]? = E.w.heap[y]? := by
  intro y hy;simp only[BM];rw[iN (fun e=>hy e.symm)]
 have key:=aJ.vf (w':={ E.w with heap:=E.w.heap.setIfInBounds b (.map mes' cl') }) (r':=E.X.r) (o':=.mm l es' k cl') HE I rfl rfl rfl (KV hsz.symm) (fun x _ hx _=>v x fun e=>by
   subst e;exact hx n g) (fun _ _=>rfl) (fun _ _ _ q=>.inl q) (fun _ q=>⟨q,fun _ hq=>hq⟩) (fun M=>?_) ⟨rfl,rfl,rfl,fun _=>aM _⟩ (.inr ⟨rfl,[],(da _).symm⟩)
 ·exact⟨_,by simp[setObj,iG,hb],key.1,key.2⟩
 ·have ho := HE.obj id _ I
  simp only[aZ]at ho|-;obtain⟨b0,n0,mes0,g1,g2,g3,g4,g5,g6⟩:=ho;refine⟨b,n,mes',g,by simp[W],f_ (fun a _ d=>bD M a d) d,g4,V,fun j mj O hj N=>?_⟩;obtain⟨mm,k1,k2⟩:=g6 j mj O hj N;obtain⟨h,mc,hh⟩:=qU (eS N);refine⟨mm,?_,f_ (fun a _ d=>bD M a d) k2⟩;rw[<-k1];exact v O fun e2=>HE.du id b n l h mc g (by rw[<-e2]; exact hh)
def lN(P:aj)(t:aF)(m k:AV)(H:List ai):Option (AV × List ai) :=
 match dO P t,m with
 | some (d,h),.map id=>match H[id]? with
  | some (.mm l g q cl)=>match jb P d k,ju P h,k.closed with
   | some v,some (.lit (.map none)),true=>match fi P d v (h_ g) 0 with
    |some none=>some (.tuple [.sub id l none,.lit (goInt cl)],H.set id (.mm l (g++[(k,none,cl)]) q (cl+1)))
    |_=>none
   |_,_,_=>none
  |_=>none
 |_,_=>none
def WW{P:aj}{E:af}(HE:aJ E){t:aF}{m k v:AV}{c d:ao}{H':List ai}(h:lN P t m k E.H=some (v,H'))(hm:ad E m c)(hk:ad E k d) :
  ∃ u w',(FZ t c d).run P E.w=.ok u w'/\dc E v H' u w':=by
 unfold lN at h;split at h
 case h_2=>cases h
 rename_i kt et id ht;split at h
 case h_2=>cases h
 rename_i l N ms cl W;split at h
 case h_2=>cases h
 rename_i kv hkv q hcl;obtain⟨b,n,mes,rfl,h1,h2,h3,h4,h5,h6⟩:=G0 HE W hm;have V:=jt hkv hk;have U:(getObj b).run P E.w=.ok (.map mes cl) E.w:=by simp[getObj,iG,h2]
 obtain⟨O,hall⟩:=e9.1 h3;rw[Ln]at O;split at h
 case h_2=>cases h
 rename_i hf;cases h;obtain⟨r',g1,g2⟩:=iI V E.w h3 hf;cases r' with
 |some _=>simp[dK]at g2
 | none =>
  obtain⟨zv,z1,z2⟩:=tm q E.w;have hzv:zv=.map none:=by have:=z2 E; simpa[ad]using this
  subst hzv;have hre:bL E (h_ (N++[(k,none,cl)])) (mes.push { key:=d,val:=.map none,born:=cl }).toList:=by
   rw[e9];refine⟨by simp[h_,O],fun a y z g q=>?_⟩;unfold h_ at g;rw[jY]at g;simp only[ob,gk,c8]at g q;rw[<-O]at q;by_cases e:a<N.length
   ·simp only [iP e] at g q
    exact hall a y z (by unfold h_; exact g) q
   ·simp only [iN e] at g q
    cases M:a-N.length with
    | zero =>
     rw[M]at g q;simp at g q;subst g; subst q;exact⟨hk,by simp[ad],rfl,hcl,rfl⟩
    |succ _=>rw[M]at g; simp at g
  obtain⟨w1,p1,p2,p3⟩:=Mm (P:=P) HE (cl':=cl+1) W h1 h2 hre (fun i x e I he=>by
   simp only[ob,gk]at I he;rw[<-O]at he;by_cases U:i<N.length
   ·simp only [iP U] at I he
    exact h5 i x e I he
   ·simp only [iN U] at I he
    cases M:i-N.length with
    | zero =>
     rw[M]at I he;simp at I he;subst I; subst he;exact .inl ⟨rfl,rfl⟩
    |succ _=>rw[M]at I; simp at I)
  refine⟨.tuple #[.map none,goInt cl],w1,?_,E.ae,E.X.r,?_,p2,p3⟩
  ·simp only [FZ, cr, Sem.bF (gn ht), cf, U, gM V, g1, z1]
   rw[p1];rfl
  ·simp only [ad]
   refine⟨_,rfl,?_⟩;simp[ax,ad]
def tz(d:List (AV × Option Nat × Nat))(st:Int):Option Nat:=d.findIdx? fun x=>(x.2.2:Int)==st
def Mn{E:af}{st:Int}:∀{d:List (AV × Option Nat × Nat)} {g:List MapEntry},bL E (h_ d) g->g.findIdx? (fun e=>(e.born:Int)==st)=tz d st
 | [],[],_=>rfl
 | [],_::_,h=>by simp[h_,bL]at h
 |_::_,[],h=>by simp[h_,bL]at h
 | x::d,e::g,h=>by
  have h':bL E ((x.1,.undef,x.2.2)::h_ d) (e::g):=h;simp only[bL]at h';obtain⟨_,_,q,_,_,v⟩:=h';have k:=Mn (st:=st) v;unfold tz at k|-;simp only[KU,q,k]
def WX{E:af}(HE:aJ E){id j l cl y:Nat}{N:List (AV × Option Nat × Nat)}{q:List (List (AV × AV × Nat) × Nat)}{I:List (AV × AV × Nat)}{u:ao}(W:E.H[id]? = some (.mm l N q cl))(O:E.H[j]? = some (.map I y))(hu:ad E (.map j) u) :
  ∃ d V U,u=.map (some d)/\(∃ t,U l=E.X.r l++t)/\(dU (U l))[q.length]? = some d/\(∀ i,i≠j->V[i]? = E.ae[i]?) /\
   aJ { w:=E.w,H:=(E.H.set id (.mm l N (q++[(I,y)]) cl)).set j .dead,ae:=V,X:=E.X.re U }/\E.le { w:=E.w,H:=(E.H.set id (.mm l N (q++[(I,y)]) cl)).set j .dead,ae:=V,X:=E.X.re U }:=by
 obtain⟨d,n,mes,rfl,h1,h2,h3⟩:=vD HE O hu;have ho:=HE.obj id _ W;simp only[aZ]at ho;obtain⟨b0,n0,mes0,g1,g2,g3,g4,g5,g6⟩:=ho;have hne:j≠id:=fun e=>by rw[e,W]at O; cases O
 have hra:e_ E.X.r l (some (d,n)) l=E.X.r l++[some (some (d,n))]:=iP rfl;have M:dU (e_ E.X.r l (some (d,n)) l)=dU (E.X.r l)++[d]:=by
  rw[hra,yC];rfl
 have key:=aJ.attach HE (o':=.mm l N (q++[(I,y)]) cl) W rfl rfl rfl O rfl h1 (fun hle=>?_) (.inr rfl)
 ·refine ⟨d, E.ae.set j none, e_ E.X.r l (some (d, n)), rfl, ⟨_, hra⟩, ?_, fun i hi => bg (Ne.symm hi), key.1, key.2⟩
  rw[M,<-g4];simp
 ·simp only [aZ]
  refine⟨b0,n0,mes0,by rw[bg hne]; exact g1,g2,f_ (fun a _ v=>bD hle a v) g3,?_,fun i x e hx he=>?_,fun i mi bi k g=>?_⟩
  ·show (dU (e_ E.X.r l (some (d, n)) l)).length = _
   rw[M];simp[g4]
  ·rcases g5 i x e hx he with h | ⟨i', b', a1, a2, a3⟩
   ·exact .inl h
   ·refine .inr ⟨i', b', a1, ?_, a3⟩
    show (dU (e_ E.X.r l (some (d,n)) l))[i']? = _
    rw[M,di (aY a2)];exact a2
  ·have g : (dU (e_ E.X.r l (some (d, n)) l))[i]? = some bi := g
   rw[M]at g;rw[gk]at k g;by_cases e:i<q.length
   ·rw [iP e] at k
    rw[iP (by omega)]at g;obtain⟨mm,k1,k2⟩:=g6 i mi bi k g;exact⟨mm,k1,f_ (fun a _ v=>bD hle a v) k2⟩
   ·rw [iN e] at k
    rw[iN (by omega),g4]at g;cases hk:i-q.length with
    | zero =>
     rw[hk]at k g;simp at k g;subst k g;exact⟨mes,h2,f_ (fun a _ v=>bD hle a v) h3⟩
    |succ _=>rw[hk]at k; simp at k
def oA(m s v:AV)(H:List ai):Option (List ai) :=
 match m,s,v with
 | .map id,.lit (.int .i64 st),.map j=>match H[id]?,H[j]? with
  | some (.mm l d g cl),some (.map h k)=>match tz d st with
   | some i=>match d[i]? with
    |some (key,none,q)=>some ((H.set id (.mm l (d.set i (key,some g.length,q)) (g++[(h,k)]) cl)).set j .dead)
    |_=>none
   |none=>none
  |_,_=>none
 |_,_,_=>none
def WY{P:aj}{E:af}(HE:aJ E){t:aF}{m s v:AV}{c d u:ao}{H':List ai}(h:oA m s v E.H=some H')(hm:ad E m c)(hs:ad E s d)(hv:ad E v u) :
  ∃ w',(BO t c d u).run P E.w=.ok () w'/\∀ x,dc E .undef H' x w':=by
 unfold oA at h;split at h
 case h_2=>cases h
 rename_i id st j;split at h
 case h_2=>cases h
 rename_i l q g cl I M W hj;split at h
 case h_2=>cases h
 rename_i i hi;split at h
 case h_2=>cases h
 rename_i key O hes;cases h;obtain⟨b,n,k,rfl,h1,h2,h3,h4,h5,h6⟩:=G0 HE W hm;have hne:j≠id:=fun e=>by rw[e,W]at hj; cases hj
 have e1:(getObj b).run P E.w=.ok (.map k cl) E.w:=by simp[getObj,iG,h2]
 obtain⟨hlen,hall⟩:=e9.1 h3;rw[Ln]at hlen;have hlt:=aY hes;obtain⟨e',q4⟩:∃ e',k.toList[i]? = some e':=⟨k.toList[i]'(by omega),bZ _⟩
 have hfind:k.findIdx? (fun e=>(e.born:Int)==st)=some i:=by
  have e0:k=k.toList.toArray:=by simp
  rw[e0,amm,Mn h3,hi]
 obtain⟨bj,U,r',rfl,⟨tt,ht⟩,hlv,hloc,HE1,V⟩:=WX HE W hj hv;have hd:d=.int .i64 st:=by simpa[ad]using hs
 have hidE:({ w:=E.w,H:=(E.H.set id (.mm l q (g++[(I,M)]) cl)).set j .dead,ae:=U,X:=E.X.re r' }:af).H[id]? = some (.mm l q (g++[(I,M)]) cl):=by
  simp only[];rw[bg hne,bB (aY W)]
 have hre:bL { w:=E.w,H:=(E.H.set id (.mm l q (g++[(I,M)]) cl)).set j .dead,ae:=U,X:=E.X.re r' } (h_ (q.set i (key,some g.length,O))) (k.modify i fun e=>{ e with val:=.map (some bj) }).toList:=by
  rw[e9];refine⟨by simp[h_,hlen],fun a y z N hz=>?_⟩;simp only[kS,iH]at hz;obtain⟨z0,hz0,rfl⟩:=eL.1 hz;unfold h_ at N;rw[bY,eC]at N;by_cases e:i=a
  ·subst e
   rw[iP rfl,iP hlt]at N;cases N;obtain⟨b1,b2,b3,b4,b5⟩:=hall i (key,.undef,O) z0 (by unfold h_; rw[bY,hes]; rfl) hz0;simp only[if_true];exact⟨bD V _ b1,by simp[ad],b3,b4,rfl⟩
  ·rw [iN e] at N
   obtain⟨b1,b2,b3,b4,b5⟩:=hall a y z0 (by unfold h_; rw[bY]; exact N) hz0;simp only[iN e];exact⟨bD V _ b1,bD V _ b2,b3,b4,b5⟩
 obtain⟨w',p1,p2,p3⟩:=Mm (P:=P) HE1 (cl':=cl) (es':=q.set i (key,some g.length,O)) (mes':=k.modify i fun e=>{ e with val:=.map (some bj) }) hidE (by
  show U[id]? = _
  rw[hloc id (Ne.symm hne)];exact h1) h2 hre (fun a x e hx he=>by
  simp only[kS,iH]at he;obtain⟨z0,hz0,rfl⟩:=eL.1 he;by_cases e:i=a
  ·subst e
   rw[bB hlt]at hx;cases hx;exact .inr ⟨g.length,bj,rfl,hlv,by simp⟩
  ·rw [bg e] at hx
   simp only[iN e];rcases h5 a x z0 hx hz0 with h|⟨i',b',a1,a2,a3⟩
   ·exact .inl h
   ·refine .inr ⟨i', b', a1, ?_, a3⟩
    show (dU (r' l))[i']? = _
    rw[ht,yC,di (aY a2)];exact a2)
 have hH:((E.H.set id (.mm l q (g++[(I,M)]) cl)).set j .dead).set id (.mm l (q.set i (key,some g.length,O)) (g++[(I,M)]) cl)=(E.H.set id (.mm l (q.set i (key,some g.length,O)) (g++[(I,M)]) cl)).set j .dead:=by
  rw[oc _ _ hne,lE]
 rw[hH]at p2 p3;have hrun:(BO t (.map (some b)) d (.map (some bj))).run P E.w=.ok () w':=by
  subst hd;simp only[BO,asInt,asIntOf,cr,cf,e1,ft,hfind];exact p1
 exact⟨w',hrun,fun xx=>⟨U,r',by simp[ad],p2,V.trans p3⟩⟩
end Go.AL

namespace Go.AL
open Go
variable [Dr]
def WZ{E:af}(HE:aJ E){id l k:Nat}{rZ:List (List AV)}(g:E.H[id]? = some (.vQ 1 0 rZ))(hn:rZ≠[])(h:kZ E.H l=true) :
  aJ { w:=E.w,H:=E.H.set id (.cM l k rZ.length []),ae:=E.ae,X:=E.X }/\E.le { w:=E.w,H:=E.H.set id (.cM l k rZ.length []),ae:=E.ae,X:=E.X } :=
 aJ.yW HE g rfl rfl rfl (qc h) fun y=>by
  have ho:=HE.obj id _ g;simp only[aZ]at ho|-;rcases ho with⟨_,d⟩|⟨b,m,h1,⟨cs,q,d,I⟩,M,_,_⟩
  ·exact(hn d).elim
  ·have v := Mf (HE.ja l (qc h))
   refine⟨b,m,cs,q,h1,d,?_,eV _,by have:cs.toList.length=cs.size:=iF; omega,fun i rZ b hi=>by simp at hi⟩;show (dU (E.X.r l)).length=0
   rw[v];rfl
def tA(P:aj)(t:aF)(x v:AV)(H:List ai):Option (List ai) :=
 match gl P t,pg v,x with
 | some (n,_),some cs,.sptr id l j w row d=>match H[id]? with
  | some (.cM l' k h g) =>
   if cs.length=n/\l=l'/\k=w/\AV.bM cs=true then
    match g[j]? with
    | some rZ=>match rZ[row]? with
     |some r=>if d+n<=r.length then some (H.set id (.cM l k h (g.set j (rZ.set row (putCells r cs d))))) else none
     |none=>none
    |none=>none
   else none
  |_=>none
 |_,_,_=>none
def W0{P:aj}{E:af}(HE:aJ E){t:aF}{x v:AV}{c d:ao}{H':List ai}(h:tA P t x v E.H=some H')(M:ad E x c)(hv:ad E v d) :
  ∃ w',(uV t c d).run P E.w=.ok () w'/\aJ { w:=w',H:=H',ae:=E.ae,X:=E.X }/\E.le { w:=w',H:=H',ae:=E.ae,X:=E.X }:=by
 unfold tA at h;split at h
 case h_2=>cases h
 rename_i n ag cs id l j w row g ht bT;obtain⟨i,dd,hi,hd,hs,ha⟩:=lL ht;obtain⟨hrel,h1⟩:=Cf bT hv;split at h
 case h_2=>cases h
 rename_i l' k n' ms hid;split at h
 case isFalse=>cases h
 rename_i hc;obtain⟨hn,rfl,rfl,hclosed⟩:=hc;split at h
 case h_2=>cases h
 rename_i rZ hj;split at h
 case h_2=>cases h
 rename_i r hrow;split at h
 case isFalse=>cases h
 rename_i hcol;cases h;have hlen:=jZ hrel;have hsz:d.cells.size=n:=by rw[<-hn,hlen]; simp
 simp only[ad]at M;obtain⟨_,hpast,hlive⟩:=M;obtain⟨_,b,g1,rfl⟩:=hlive ⟨_,hid,rfl⟩;have ho:=HE.obj id _ hid;simp only[aZ]at ho;obtain⟨U,m0,cs0,el0,e2,e3,e4,e5,e6,e7⟩:=ho;obtain⟨m,q1,⟨y,el,W,hsize⟩,q4,q5,q6⟩:=e7 j rZ b hj g1;obtain⟨hh,mc,hhh⟩:=qU (eS g1);have hrlt:=aY hrow;obtain⟨hrk,hrc⟩:=oq q6 hrow;rw[cP]at hrc;have hrow1:(row+1)*k<=m*k:=qN _ (by omega);rw[gx,yt]at hrow1;have O:row*k+g+0+d.cells.toList.length<=y.size:=by rw[hsize]; simp; omega
 have hst:=run_storeCells_at P b (row*k+g) el d.cells.toList 0 y E.w W O (fun v hv=>by rw[vt]; exact h1 v hv);simp only[n_]at hst O;generalize hw':E.w.setRow b (y.toList.take (row*k+g)++d.cells.toList++y.toList.drop (row*k+g+d.cells.toList.length)).toArray=w' at hst;have hsize':w'.heap.size=E.w.heap.size:=by rw[<-hw']; exact setRow_size _ _ _
 have henv:fw E.w w':=by rw[<-hw']; exact⟨rfl,rfl,rfl,by first|exact fun _=>aM _|exact fun _=>gY _ _⟩
 have V:∀ x,x≠b->w'.heap[x]? = E.w.heap[x]? := by intro x M; rw[<-hw']; exact setRow_other _ _ _ _ M
 have hb':w'.heap[b]? = some (.cells (y.toList.take (row*k+g)++d.cells.toList++y.toList.drop (row*k+g+d.cells.toList.length)).toArray el (0,0)):=by
  rw[<-hw']; exact setRow_heap E.w b y _ el (0,0) W
 have key:=aJ.vf (w':=w') (r':=E.X.r) (o':=.cM l k n' (ms.set j (rZ.set row (putCells r cs g)))) HE hid rfl rfl rfl (KV hsize'.symm) (fun x _ _ M=>V x fun e=>by
   subst e;exact M hh mc hhh) (fun _ _=>rfl) (fun _ _ _ hk=>.inl hk) (fun _ hk=>⟨hk,fun _ hq=>hq⟩) (fun hle=>?_) henv (.inr ⟨rfl,[],(da _).symm⟩)
 ·refine ⟨w', ?_, key.1, key.2⟩
  simp only[uV,mW,cr,ft,cf,storeVar,Sem.run_sizeOf hi,hs];rw[iN (by omega)];exact hst
 ·simp only [aZ]
  have hne:U≠b:=fun e=>HE.du id U m0 l hh mc e2 (by rw[e]; exact hhh);refine⟨U,m0,cs0,el0,e2,?_,?_,by simpa using e5,e6,fun i2 rws N hi2 I=>?_⟩
  ·show w'.heap[U]? = _
   rw[V U hne];exact e3
  ·show (dU (E.X.r l)).length = _
   rw[iE];exact e4
  ·have I : (dU (E.X.r l))[i2]? = some N := I
   by_cases e:j=i2
   ·subst e
    rw[g1]at I;cases I;rw[bB (aY hj)]at hi2;cases hi2;refine⟨m,by rw[iE]; exact q1,⟨_,el,hb',?_⟩,by simpa using q4,?_,?_⟩
    ·simp only [BJ, fu, mX, pV, iF, hsize] at O |-
     omega
    ·intro r' hr'
     rcases List.mem_or_eq_of_mem_set hr' with h'|h'
     ·exact q5 r' h'
     ·rw [h', putCells, yL, yL]
      have:=q5 r (eS hrow);simp[yF _ _ this,vk _ _ this,hclosed]
    ·rw [om] at q6 |-
     intro j2 r' hj2;rw[eC]at hj2;split at hj2
     ·rename_i ej
      subst ej;cases hj2;refine⟨by rw[GH (by omega)]; exact hrk,?_⟩;rw[cP];exact Ck (fun a c hr=>bD hle a hr) W hb' O hrc hrel h1 (by omega)
     ·rename_i ej
      obtain⟨g1',g2⟩:=q6 j2 r' hj2;refine⟨g1',?_⟩;rw[kn]at g2|-;intro q a hq;obtain⟨vv,p1,p2,p3⟩:=g2 q a hq;refine⟨vv,?_,p2,bD hle a p3⟩;have hql:=aY hq;rw[GG W hb' O,iN]
      ·exact p1
      ·rcases Nat.lt_or_gt_of_ne ej with hlt | hgt
       ·have : (row + 1) * k <= j2 * k := qN _ (by omega)
        rw[gx,yt]at this;simp only[iF];omega
       ·have : (j2 + 1) * k <= row * k := qN _ (by omega)
        rw[gx,yt]at this;omega
   ·rw [bg e] at hi2
    obtain⟨m2,p1,⟨c2,el2,p2,p3⟩,p4,p5,p6⟩:=e7 i2 rws N hi2 I;have hbne:N≠b:=fun e2=>e (Mj HE g1 (by rw[<-e2]; exact I));exact⟨m2,p1,⟨c2,el2,by show w'.heap[N]? = _; rw[V N hbne]; exact p2,p3⟩,p4,p5,gz (fun a _ hr=>bD hle a hr) (V N hbne) p6⟩
def yX(P:aj)(t:aF)(x v:AV)(H:List ai):Option (List ai) :=
 match gl P t,x,v with
 | some (sz,_),.ptr id y pw row q,.vQ k j al oF n=>match H[id]?,H[j]? with
  | some (.cM l I d g),some (.vQ M h rZ) =>
   if (sz=1/\y=0/\pw=1/\q=0)/\(k=I/\k=M/\al=h/\oF=0)/\(n=rZ.length/\0<n)/\(row=g.length/\row<d) then some ((H.set id (.cM l k d (g++[rZ]))).set j .dead) else none
  |_,_=>none
 |_,_,_=>none
def W1{P:aj}{E:af}(HE:aJ E){t:aF}{x v:AV}{c d:ao}{H':List ai}(h:yX P t x v E.H=some H')(W:ad E x c)(hv:ad E v d) :
  ∃ w',(uV t c d).run P E.w=.ok () w'/\∀ x,dc E .undef H' x w':=by
 unfold yX at h;split at h
 case h_2=>cases h
 rename_i sz ag id pv pw row col k j al oF n ht;split at h
 case h_2=>cases h
 rename_i l k' n' g k2 ver' rZ O hj;split at h
 case isFalse=>cases h
 rename_i hc;obtain⟨⟨rfl,rfl,rfl,rfl⟩,⟨rfl,rfl,rfl,rfl⟩,⟨rfl,hpos⟩,rfl,hlt⟩:=hc;cases h;have hne:j≠id:=fun e=>by rw[e,O]at hj; cases hj
 obtain⟨i,dd,hi,hd,hs,ha⟩:=lL ht;simp only[ad]at W;obtain⟨_,_,hlive⟩:=W;obtain⟨b,m,e1,rfl⟩:=hlive ⟨_,O,rfl⟩;have ho:=HE.obj id _ O;simp only[aZ]at ho;obtain⟨b0,m0,y,el,e2,hblk,e4,e5,e6,e7⟩:=ho;rw[e1]at e2;cases e2;have hv0:=hv;simp only[ad]at hv0;obtain⟨⟨aN,cap,rfl,_,_⟩,_,hv3⟩:=hv0;have hcells:(Value.slice aN rZ.length cap).cells=#[.slice aN rZ.length cap]:=rfl;have hfit:g.length+0+[Value.slice aN rZ.length cap].length<=y.size:=by
  have:y.toList.length=y.size:=iF;simp;omega
 have hst:=run_storeCells_at P b g.length el [Value.slice aN rZ.length cap] 0 y E.w hblk hfit (fun v hv=>by simp at hv; subst hv; rw[vt]; rfl);simp only[n_]at hst hfit;generalize hw':E.w.setRow b (y.toList.take g.length++[Value.slice aN rZ.length cap]++y.toList.drop (g.length+[Value.slice aN rZ.length cap].length)).toArray=w' at hst;have hsize':w'.heap.size=E.w.heap.size:=by rw[<-hw']; exact setRow_size _ _ _
 have henv:fw E.w w':=by rw[<-hw']; exact⟨rfl,rfl,rfl,by first|exact fun _=>aM _|exact fun _=>gY _ _⟩
 have hother:∀ x,x≠b->w'.heap[x]? = E.w.heap[x]? := by intro x W; rw[<-hw']; exact setRow_other _ _ _ _ W
 have hb':w'.heap[b]? = some (.cells (y.toList.take g.length++[Value.slice aN rZ.length cap]++y.toList.drop (g.length+[Value.slice aN rZ.length cap].length)).toArray el (0,0)):=by
  rw[<-hw']; exact setRow_heap E.w b y _ el (0,0) hblk
 have hcell:∀ i,i<g.length->(y.toList.take g.length++[Value.slice aN rZ.length cap]++y.toList.drop (g.length+[Value.slice aN rZ.length cap].length))[i]? = y.toList[i]? := fun i hi=>by
  rw[gG,di (by simp at e6|-; omega),List.getElem?_take,iP hi]
 have hat:(y.toList.take g.length++[Value.slice aN rZ.length cap]++y.toList.drop (g.length+[Value.slice aN rZ.length cap].length))[g.length]? = some (.slice aN rZ.length cap):=by
  have hl:(y.toList.take g.length).length=g.length:=by
   rw[mX];omega
  rw[gG,iY (by omega),hl,lF];rfl
 have key:=aJ.vf (w':=w') (r':=E.X.r) (o':=.cM l k n' g) HE O rfl rfl rfl (KV hsize'.symm) (fun x _ W _=>hother x fun e=>by
   subst e;exact W m e1) (fun _ _=>rfl) (fun _ _ _ hk=>.inl hk) (fun _ hk=>⟨hk,fun _ hq=>hq⟩) (fun hle=>by
  simp only[aZ];refine⟨b,m,_,el,e1,hb',e4,e5,?_,fun N rws I M q=>?_⟩
  ·simp
   simp at e6;omega
  ·have q : (dU (E.X.r l))[N]? = some I := q
   obtain⟨m2,p1,⟨c2,el2,p2,p3⟩,p4,p5,p6⟩:=e7 N rws I M q;obtain⟨hh,mc,hhh⟩:=qU (eS q);have hbne:I≠b:=fun e=>HE.du id b m l hh mc e1 (by rw[<-e]; exact hhh);exact⟨m2,by simp only[]; rw[hcell N (aY M)]; exact p1,⟨c2,el2,by show w'.heap[I]? = _; rw[hother I hbne]; exact p2,p3⟩,p4,p5,gz (fun a _ hr=>bD hle a hr) (hother I hbne) p6⟩) henv (.inr ⟨rfl,[],(da _).symm⟩)
 rw[XS.F_]at key;obtain⟨HE1,hle1⟩:=key;have hset:E.H.set id (.cM l k n' g)=E.H:=by
  apply jG;intro a;rw[eC];split
  ·rename_i e
   subst e;rw[iP (aY O),O]
  ·rfl
 rw[hset]at HE1 hle1;have hoj:=HE1.obj j _ hj;simp only[aZ]at hoj;rcases hoj with⟨_,e⟩|⟨U,V,f1,f2,f3,f4,f5⟩
 ·rw [e] at hpos
  simp at hpos
 obtain⟨_,v5⟩:=hv3 ⟨_,hj,rfl⟩;obtain⟨_,o,v7,v8⟩:=v5 U V f1;have:=v7 (by omega);rw[qM]at this;subst this;rw[fD]at v8;have hra:e_ E.X.r l (some (U,V)) l=E.X.r l++[some (some (U,V))]:=iP rfl;have hlv:dU (e_ E.X.r l (some (U,V)) l)=dU (E.X.r l)++[U]:=by
  rw[hra,yC];rfl
 have ho1:=HE1.obj id _ O;simp only[aZ]at ho1;have key2:=aJ.attach HE1 (o':=.cM l k n' (g++[rZ])) O rfl rfl rfl hj rfl f1 (fun hle=>?_) (.inr rfl)
 ·refine ⟨w', ?_, fun x => ⟨_, _, by simp [ad], key2.1, hle1.trans key2.2⟩⟩
  simp only[uV,mW,cr,ft,cf,storeVar,Sem.run_sizeOf hi,hs,hcells];rw[iN (by simp)];simpa using hst
 ·simp only [aZ]
  refine⟨b,m,_,el,by rw[bg hne]; exact e1,hb',?_,by simp; omega,?_,fun N rws I M q=>?_⟩
  ·show (dU (e_ E.X.r l (some (U, V)) l)).length = _
   rw[hlv];simp[e4]
  ·simp
   simp at e6;omega
  ·have q : (dU (e_ E.X.r l (some (U, V)) l))[N]? = some I := q
   rw[hlv]at q;rw[gk]at M q;by_cases e:N<g.length
   ·rw [iP e] at M
    rw[iP (by omega)]at q;obtain⟨m2,p1,⟨c2,el2,p2,p3⟩,p4,p5,p6⟩:=e7 N rws I M q;obtain⟨hh,mc,hhh⟩:=qU (eS q);have hbne:I≠b:=fun e=>HE.du id b m l hh mc e1 (by rw[<-e]; exact hhh);exact⟨m2,by simp only[]; rw[hcell N e]; exact p1,⟨c2,el2,by show w'.heap[I]? = _; rw[hother I hbne]; exact p2,p3⟩,p4,p5,gz (fun a _ hr=>bD (hle1.trans hle) a hr) (hother I hbne) p6⟩
   ·rw [iN e] at M
    rw[iN (by omega),e4]at q;cases hk:N-g.length with
    | zero =>
     rw[hk]at M q;simp at M q;subst M q;have hi3:N=g.length:=by omega
     subst hi3;exact⟨V,by simp only[]; rw[hat,v8],f2,f3,f4,gz (fun a _ hr=>bD hle a hr) rfl f5⟩
    |succ _=>rw[hk]at M; simp at M
end Go.AL

namespace Go.AL
open Go
variable [Dr]
abbrev k9:=AV × (Option (List (List AV)) × Option (List (List AV))) × Nat
def W2{E:af}(HE:aJ E){id l w cl:Nat}(d:E.H[id]? = some (.map [] cl))(k:kZ E.H l=true) :
  aJ { w:=E.w,H:=E.H.set id (.bJ l w [] cl),ae:=E.ae,X:=E.X }/\E.le { w:=E.w,H:=E.H.set id (.bJ l w [] cl),ae:=E.ae,X:=E.X } :=
 aJ.yW HE d rfl rfl rfl (qc k) fun q=>by
  have ho:=HE.obj id _ d;simp only[aZ]at ho|-;obtain⟨b,n,g,h1,I,h⟩:=ho;have v:g.toList=[]:=by
   have:=(e9.1 h).1;exact uU this.symm
  refine⟨b,n,g,h1,I,f_ (fun a _ M=>bD q a M) h,fun e he=>(by rw[v]at he; cases he),fun _ _=>0,fun s s' i j x y hi=>by simp at hi,fun s i x rZ e hi=>by simp at hi⟩
def Mo{E:af}(HE:aJ E){id l w cl:Nat}{g:List k9}{c:ao}(k:E.H[id]? = some (.bJ l w g cl))(q:ad E (.map id) c) :
  ∃ b n d,c=.map (some b)/\E.ae[id]? = some (some (b,n))/\E.w.heap[b]? = some (.map d cl)/\bL E (fZ g) d.toList/\o_ E l w g d.toList:=by
 have ho:=HE.obj id _ k;simp only[aZ]at ho;obtain⟨b,n,d,h1,v,y,I⟩:=ho;simp only[ad]at q;obtain⟨_,_,M⟩:=q;obtain⟨O,U,h,N⟩:=M ⟨_,k,rfl⟩;rw[h1]at h;simp only[bf,bo]at h;obtain⟨rfl,rfl⟩:=h;exact⟨b,n,d,N,h1,v,y,I⟩
def Mp{d:List k9}{i:Nat}{x:k9}(h:d[i]? = some x):(fZ d)[i]? = some (x.1,.undef,x.2.2):=by
 unfold fZ;rw[bY,h];rfl
def Mq{d:List k9}{i:Nat}{x y:k9}(hi:d[i]? = some x)(h1:y.1=x.1)(g:y.2.2=x.2.2):fZ (d.set i y)=fZ d:=by
 apply jG;intro j;unfold fZ;rw[bY,bY,eC];split
 ·rename_i e
  subst e;rw[iP (aY hi),hi];simp[h1,g]
 ·rfl
def fx(s:Bool)(x:k9) (r:Option (List (List AV))):k9:=(x.1,(bif s then (x.2.1.1,r) else (r,x.2.1.2)),x.2.2)
def Mr(s:Bool)(x:k9) (r:Option (List (List AV))):(gK s (fx s x r)).2.1=r:=by cases s<;>rfl
def Ms{s s':Bool}(h:s'≠s)(x:k9) (r:Option (List (List AV))):(gK s' (fx s x r)).2.1=(gK s' x).2.1:=by
 cases s<;>cases s'<;>first|rfl|exact absurd rfl h
def Mt{E:af}(HE:aJ E){id l w cl i:Nat}{d:List k9}{x:k9}{s:Bool}{rZ:List (List AV)}{b n:Nat}{W:Array MapEntry}{e':MapEntry}(hid:E.H[id]? = some (.bJ l w d cl))(V:d[i]? = some x)(hsome:(gK s x).2.1=some rZ)
  (h1:E.ae[id]? = some (some (b,n))) (h2:E.w.heap[b]? = some (.map W cl)) (h3:bL E (fZ d) W.toList) (h4:o_ E l w d W.toList) (q4:W.toList[i]? = some e') :
  ∃ loc' r',aJ { w:=E.w,H:=E.H.set id (.bJ l w (d.set i (fx s x none)) cl)++[.vQ w 0 rZ],ae:=loc',X:=E.X.re r' }/\E.le { w:=E.w,H:=E.H.set id (.bJ l w (d.set i (fx s x none)) cl)++[.vQ w 0 rZ],ae:=loc',X:=E.X.re r' } /\
   ad { w:=E.w,H:=E.H.set id (.bJ l w (d.set i (fx s x none)) cl)++[.vQ w 0 rZ],ae:=loc',X:=E.X.re r' } (.vQ w E.H.length 0 0 rZ.length) (qV s e'.val)/\loc'[id]? = some (some (b,n)):=by
 have hlenH:E.H.length=E.ae.length:=HE.len.symm;obtain⟨k00,hs,k1,k2⟩:=h4;have hsl:=k2 s i x rZ e' V hsome q4;have hls:(gK s x).2.1.isSome=true:=by rw[hsome]; rfl
 obtain⟨g,h0,z1,z2,z3⟩:∃(g:Option (Nat × Nat)) (h0:Nat),(∀ b m,g=some (b,m)->(E.X.r l)[h0]? = some (some (some (b,m)))) /\
   (∀ s' (j:Nat) y,d[j]? = some y->(gK s' y).2.1.isSome=true->¬ (s'=s/\j=i)->∀ b m,(E.X.r l)[hs s' j]? = some (some (some (b,m)))->hs s' j≠h0) /\
   ((g=none/\rZ=[]/\∃ aN,qV s e'.val=.slice aN 0 0)\/∃ b m,g=some (b,m)/\qV s e'.val=.slice (some ⟨b,0,none⟩) rZ.length m/\isRow E.w b (m*w)/\rZ.length<=m/\fv rZ/\cY E w rZ b 0):=by
  rcases hsl with⟨s1,s2⟩|⟨I,mm,s1,s2,s3,s4,s5,s6⟩
  ·exact⟨none,(E.X.r l).length,fun _ _ e=>(by cases e),fun s' j y _ _ _ b m hb e=>(by rw[e]at hb; have:=aY hb; omega),.inl ⟨rfl,s1,s2⟩⟩
  ·exact⟨some (I,mm),hs s i,fun _ _ e=>(by cases e; exact s1),fun s' j y k hsy hne _ _ _ e=>hne (k1 s' s j i _ _ k V hsy hls e),.inr ⟨I,mm,rfl,s2,s3,s4,s5,s6⟩⟩
 have old:∀ s' (j:Nat) y,(d.set i (fx s x none))[j]? = some y->(gK s' y).2.1.isSome=true->∃ U,d[j]? = some U/\(gK s' U).2.1=(gK s' y).2.1/\¬ (s'=s/\j=i):=fun s' j y k hsm=>by
  by_cases e:i=j
  ·subst e
   rw[bB (aY V)]at k;cases k;by_cases e2:s'=s
   ·subst e2
    rw[Mr]at hsm;cases hsm
   ·exact⟨x,V,(Ms e2 x none).symm,fun h=>e2 h.1⟩
  ·rw [bg e] at k
   exact⟨y,k,rfl,fun h=>e h.2.symm⟩
 obtain⟨r1,r2⟩:=aJ.Cv HE (id:=id) (l0:=l) (h0:=h0) (o':=.bJ l w (d.set i (fx s x none)) cl) (ov:=.vQ w 0 rZ) (q:=g) hid rfl rfl rfl rfl z1 fun hle=>by
  refine⟨?_,?_⟩
  ·simp only [aZ]
   refine⟨b,n,W,?_,h2,?_,k00,hs,fun s1 s2 a c y z k hz sy sz he=>?_,fun s1 a y rws e k M he=>?_⟩
   ·rw [di (aY h1)]
    exact h1
   ·rw [Mq (y := fx s x none) V rfl rfl]
    exact f_ (fun a _ M=>bD hle a M) h3
   ·obtain ⟨U, o1, o2, _⟩ := old s1 a y k sy
    obtain⟨z0,o3,o4,_⟩:=old s2 c z hz sz;exact k1 s1 s2 a c U z0 o1 o3 (by rw[o2]; exact sy) (by rw[o4]; exact sz) he
   ·obtain ⟨U, o1, o2, o3⟩ := old s1 a y k (by rw [M]; rfl)
    rcases k2 s1 a U rws e o1 (by rw[o2]; exact M) he with O|⟨I,mm,t1,t2,t3,t4,t5,t6⟩
    ·exact .inl O
    ·refine .inr ⟨I, mm, ?_, t2, t3, t4, t5, gz (fun a _ M => bD hle a M) rfl t6⟩
     have hne:=z2 s1 a U o1 (by rw[o2,M]; rfl) o3 I mm t1;show (ib E.X.r l h0 l)[hs s1 a]? = _
     rw[Cu fun e=>hne e.2];exact t1
  ·simp only [aZ]
   have O:(E.ae++[g])[E.H.length]? = some g:=by rw[hlenH]; simp
   rcases z3 with⟨rfl,s1,_⟩|⟨I,mm,rfl,_,s3,s4,s5,s6⟩
   ·exact .inl ⟨O,s1⟩
   ·exact .inr ⟨I,mm,O,s3,s4,s5,gz (fun a _ M=>bD hle a M) rfl s6⟩
 refine⟨E.ae++[g],ib E.X.r l h0,r1,r2,?_,by rw[di (aY h1)]; exact h1⟩;have hnew:(E.H.set id (.bJ l w (d.set i (fx s x none)) cl)++[.vQ w 0 rZ])[E.H.length]? = some (.vQ w 0 rZ):=by
  rw[iY (by simp)];simp
 have O:(E.ae++[g])[E.H.length]? = some g:=by rw[hlenH]; simp
 simp only[ad];rcases z3 with⟨rfl,s1,aN,s2⟩|⟨I,mm,rfl,s2,s3,s4,s5,s6⟩
 ·subst s1
  refine⟨⟨aN,0,by rw[s2]; rfl,aM _,fun h=>by simp at h⟩,⟨_,hnew,rfl,fun v hv=>by cases hv; exact aM _⟩,fun _=>⟨fun _=>⟨by first|rfl|trivial,by first|rfl|trivial,aN,s2⟩,fun b' m' N=>?_⟩⟩;rw[O]at N;cases N
 ·refine ⟨⟨_, mm, s2, s4, fun _ => ⟨I, 0, rfl⟩⟩, ⟨_, hnew, rfl, fun v hv => by cases hv; exact aM _⟩, fun _ => ⟨fun N => ?_, fun b' m' N => ?_⟩⟩
  ·rw [O] at N
   cases N
  ·rw [O] at N
   cases N;exact⟨by omega,0,fun _=>by simp,by rw[s2,fD]⟩
def yY(P:aj)(t:aF)(m k:AV)(H:List ai):Option (AV × List ai) :=
 match dO P t,m with
 | some (g,h),.map id=>match H[id]? with
  | some (.bJ l w d cl)=>match jb P g k,ju P h with
   | some q,some (.agg [.lit (.slice none 0 0),.lit (.slice none 0 0)])=>match fi P g q (fZ d) 0 with
    | some (some (i,_))=>match d[i]? with
     |some (key,(some r0,some r1),n)=>some (.agg [.vQ w H.length 0 0 r0.length,.vQ w (H.length+1) 0 0 r1.length],H.set id (.bJ l w (d.set i (key,(none,none),n)) cl)++[.vQ w 0 r0]++[.vQ w 0 r1])
     |_=>none
    |some none=>some (.agg [.vQ w H.length 0 0 0,.vQ w (H.length+1) 0 0 0],H++[.vQ w 0 []]++[.vQ w 0 []])
    |none=>none
   |_,_=>none
  |_=>none
 |_,_=>none
def W3{P:aj}{E:af}(HE:aJ E){t:aF}{m k v:AV}{c d:ao}{H':List ai}(h:yY P t m k E.H=some (v,H'))(hm:ad E m c)(hk:ad E k d) :
  ∃ u w',(lD t c d false).run P E.w=.ok u w'/\dc E v H' u w':=by
 unfold yY at h;split at h
 case h_2=>cases h
 rename_i kt et id ht;split at h
 case h_2=>cases h
 rename_i l w M cl O;split at h
 case h_2=>cases h
 rename_i kv hkv hz;obtain⟨b,n,ms,rfl,h1,h2,h3,h4⟩:=Mo HE O hm;have hkv':=jt hkv hk;have e1:(getObj b).run P E.w=.ok (.map ms cl) E.w:=by simp[getObj,iG,h2]
 split at h
 ·rename_i i v0 hf
  split at h
  case h_2=>cases h
  rename_i key r0 r1 I hes;cases h;obtain⟨r',g1,V⟩:=iI hkv' E.w h3 hf;cases r' with
  |none=>simp[dK]at V
  | some q =>
   simp only[dK]at V;obtain⟨q1,q2,_,e',q4,q5⟩:=V;simp only[fD]at q4;have hval:q.2=e'.val:=q5.symm;obtain⟨va,vb,hab,ha1,hb1⟩:=h4.1 e' (eS q4);obtain⟨loc1,rr1,HE1,hle1,U,hl1⟩:=Mt (s:=false) (rZ:=r0) HE O hes rfl h1 h2 h3 h4 q4;have hid1:({ w:=E.w,H:=E.H.set id (.bJ l w (M.set i (fx false (key,(some r0,some r1),I) none)) cl)++[.vQ w 0 r0],ae:=loc1,X:=E.X.re rr1 }:af).H[id]? = some (.bJ l w (M.set i (fx false (key,(some r0,some r1),I) none)) cl):=by
    simp only[];rw[di (by rw[iE]; exact aY O),bB (aY O)]
   have ho1:=HE1.obj id _ hid1;simp only[aZ]at ho1;obtain⟨b2,n2,ms2,o1,o2,o3,o4⟩:=ho1;rw[hl1]at o1;simp only[bf,bo]at o1;obtain⟨rfl,rfl⟩:=o1;rw[h2]at o2;cases o2;obtain⟨loc2,rr2,HE2,N,g,_⟩:=Mt (s:=true) (rZ:=r1) HE1 hid1 (bB (aY hes)) rfl hl1 h2 o3 o4 q4;have hH:(E.H.set id (ai.bJ l w (M.set i (fx false (key,(some r0,some r1),I) none)) cl)++[ai.vQ w 0 r0]).set id (ai.bJ l w ((M.set i (fx false (key,(some r0,some r1),I) none)).set i (fx true (fx false (key,(some r0,some r1),I) none) none)) cl)++[ai.vQ w 0 r1] =
     E.H.set id (ai.bJ l w (M.set i (key,(none,none),I)) cl)++[ai.vQ w 0 r0]++[ai.vQ w 0 r1]:=by
    rw[List.set_append_left _ _ (by rw[iE]; exact aY O),lE,lE];rfl
   have hHl:(E.H.set id (ai.bJ l w (M.set i (fx false (key,(some r0,some r1),I) none)) cl)++[ai.vQ w 0 r0]).length=E.H.length+1:=by simp
   refine⟨q.2,E.w,?_,loc2,rr2,?_,?_,?_⟩
   ·simp only [lD, cr, Sem.bF (gn ht), cf, e1, ft, gM hkv', g1]
    rfl
   ·rw [hval, hab]
    simp only[ad];rw[hab]at U g;have hva:qV false (.agg #[va,vb])=va:=rfl;have hvb:qV true (.agg #[va,vb])=vb:=rfl;rw[hva]at U;rw[hvb]at g;have hv1':=bD N _ U;simp only[hHl]at g;refine⟨_,rfl,fun y W=>?_,?_⟩
    ·simp at W
     rcases W with rfl|rfl
     ·exact ha1
     ·exact hb1
    ·simp only [ax, and_true]
     rw[hH]at hv1' g;exact⟨hv1',g⟩
   ·rw [hH] at HE2
    exact HE2
   ·have := hle1.trans N
    rw[hH]at this;exact this
 ·rename_i hf
  cases h;obtain⟨r',g1,V⟩:=iI hkv' E.w h3 hf;cases r' with
  |some _=>simp[dK]at V
  | none =>
   obtain⟨zv,z1,z2⟩:=tm hz E.w;have hzv:zv=.agg #[.slice none 0 0,.slice none 0 0]:=by
    have:=z2 E;simp only[ad]at this;obtain⟨cs,rfl,_,h⟩:=this;obtain⟨cl⟩:=cs
    match cl,h with
    | [a,c],h =>
     simp only[ax,ad,and_true]at h;rw[h.1,h.2]
    | [],h=>simp[ax]at h
    | [_],h=>simp[ax]at h
    |_::_::_::_,h=>simp[ax]at h
   obtain⟨HE1,hle1,U⟩:=GZ HE w;obtain⟨HE2,N,g⟩:=GZ HE1 w;refine⟨zv,E.w,?_,E.ae++[none]++[none],E.X.r,?_,HE2,hle1.trans N⟩
   ·simp only [lD, cr, Sem.bF (gn ht), cf, e1, ft, gM hkv', g1, z1]
    rfl
   ·rw [hzv]
    simp only[ad];refine⟨_,rfl,fun y W=>by simp at W; subst W; rfl,?_⟩;simp only[ax,and_true];have hl:(E.H++[ai.vQ w 0 []]).length=E.H.length+1:=by simp
    simp only[hl]at g;exact⟨bD N _ U,g⟩
 ·cases h
def yZ(P:aj)(t:aF)(m k v:AV)(H:List ai):Option (List ai) :=
 match dO P t,m,v with
 | some (y,_),.map id,.agg [.vQ U d V o0 W,.vQ w1 g v1 o1 n1]=>match H[id]?,H[d]?,H[g]? with
  | some (.bJ l w q cl),some (.vQ I M h),some (.vQ N O Ad)=>match jb P y k with
   | some kv=>if ((U=w/\I=w)/\(w1=w/\N=w))/\((V=M/\v1=O)/\(o0=0/\o1=0))/\(W=h.length/\n1=Ad.length)/\(d≠g/\k.closed=true) then
     match fi P y kv (fZ q) 0 with
     |some (some (i,_))=>some (((H.set id (.bJ l w (q.modify i fun e=>(k,(some h,some Ad),e.2.2)) cl)).set d .dead).set g .dead)
     |some none=>some (((H.set id (.bJ l w (q++[(k,(some h,some Ad),cl)]) (cl+1))).set d .dead).set g .dead)
     |none=>none
    else none
   |none=>none
  |_,_,_=>none
 |_,_,_=>none
def W4{P:aj}{E:af}(HE:aJ E){id l w b n cl cl':Nat}{es q:List k9}{ms d:Array MapEntry}(U:E.H[id]? = some (.bJ l w es cl)) (v:E.ae[id]? = some (some (b,n)))
  (hb:E.w.heap[b]? = some (.map ms cl)) (k:bL E (fZ q) d.toList) (V:o_ E l w q d.toList) :
  ∃ w',(setObj b (.map d cl')).run P E.w=.ok () w'/\aJ { w:=w',H:=E.H.set id (.bJ l w q cl'),ae:=E.ae,X:=E.X }/\E.le { w:=w',H:=E.H.set id (.bJ l w q cl'),ae:=E.ae,X:=E.X } /\
   w'.heap[b]? = some (.map d cl')/\∀ y,y≠b->w'.heap[y]? = E.w.heap[y]? := by
 have M:=(HE.lt id b n v).1;have W:({ E.w with heap:=E.w.heap.setIfInBounds b (.map d cl') }:a_).heap.size=E.w.heap.size:=by simp
 have I:∀ y,y≠b->({ E.w with heap:=E.w.heap.setIfInBounds b (.map d cl') }:a_).heap[y]? = E.w.heap[y]? := by
  intro y hy;simp only[BM];rw[iN (fun e=>hy e.symm)]
 have key:=aJ.vf (E:=E) (w':={ E.w with heap:=E.w.heap.setIfInBounds b (.map d cl') }) (o':=.bJ l w q cl') (r':=E.X.r) HE U rfl rfl rfl (by rw[W]; exact aM _) (fun x _ hne _=>I x fun e=>hne n (by rw[e]; exact v)) (fun _ _=>rfl) (fun _ _ _ h=>.inl h) (fun h hh=>⟨hh,fun _ hq=>hq⟩) (fun N=>by
  simp only[aZ];refine⟨b,n,d,v,by simp[M],f_ (fun a _ k=>bD N a k) k,B6 (E:=E) (fun h g m O=>⟨O,I g fun e=>HE.du _ _ _ _ _ _ v (by rw[<-e]; exact O)⟩) (fun _ _ _ _ _ _ b' hb' _ k=>gz (fun a _ k=>bD N a k) hb' k) V⟩) ⟨rfl,rfl,rfl,by first|exact fun _=>aM _|exact fun _=>gY _ _⟩
 rw[XS.F_]at key;exact⟨_,by simp[setObj,iG,hb],key.1,key.2,by simp[M],I⟩
def Mu{E:af}(HE:aJ E){id j l w cl i al:Nat}{k:List k9}{rZ:List (List AV)}{x:k9}{s:Bool}{b n:Nat}{O:Array MapEntry}{e:MapEntry}(hid:E.H[id]? = some (.bJ l w k cl))(U:E.H[j]? = some (.vQ w al rZ))
  (hi:k[i]? = some x) (hnone:(gK s x).2.1=none) (hloc:E.ae[id]? = some (some (b,n))) (hb:E.w.heap[b]? = some (.map O cl)) (he:O.toList[i]? = some e) (I:bL E (fZ k) O.toList) (hsl:o_ E l w k O.toList) (hv:ad E (.vQ w j al 0 rZ.length) (qV s e.val)) :
  ∃ loc' r',aJ { w:=E.w,H:=(E.H.set id (.bJ l w (k.set i (fx s x (some rZ))) cl)).set j .dead,ae:=loc',X:=E.X.re r' }/\E.le { w:=E.w,H:=(E.H.set id (.bJ l w (k.set i (fx s x (some rZ))) cl)).set j .dead,ae:=loc',X:=E.X.re r' }/\loc'[id]? = some (some (b,n)):=by
 have hne:j≠id:=fun e=>by rw[e,hid]at U; cases U
 have hoj:=HE.obj j _ U;simp only[ad]at hv;obtain⟨_,_,v3⟩:=hv;obtain⟨v4,v5⟩:=v3 ⟨_,U,rfl⟩;simp only[aZ]at hoj;obtain⟨q,hq⟩:∃ q,E.ae[j]? = some q:=by
  rcases hoj with⟨h1,_⟩|⟨b',m',h1,_⟩
  ·exact⟨_,h1⟩
  ·exact⟨_,h1⟩
 obtain⟨k00,W,k1,k2⟩:=hsl;have htl:∀ h,h<(E.X.r l).length->(e_ E.X.r l q l)[h]? = (E.X.r l)[h]? := fun h d=>(GS d).2;have hnew:(e_ E.X.r l q l)[(E.X.r l).length]? = some (some q):=by
  unfold e_;rw[iP rfl];simp
 have hlocid:(E.ae.set j none)[id]? = some (some (b,n)):=by rw[bg hne]; exact hloc
 obtain⟨r1,r2⟩:=aJ.attach HE (id:=id) (j:=j) (o':=.bJ l w (k.set i (fx s x (some rZ))) cl) (q:=q) hid rfl rfl rfl U rfl hq fun hle=>by
  simp only[aZ];refine⟨b,n,O,hlocid,hb,by rw[Mq (y:=fx s x (some rZ)) hi rfl rfl]; exact f_ (fun a _ I=>bD hle a I) I,k00,?_⟩;have old:∀ s' (a:Nat) y,(k.set i (fx s x (some rZ)))[a]? = some y->(gK s' y).2.1.isSome=true->¬ (s'=s/\a=i)->∃ N,k[a]? = some N/\(gK s' N).2.1=(gK s' y).2.1:=fun s' a y g hsm hne=>by
   by_cases e:i=a
   ·subst e
    rw[bB (aY hi)]at g;cases g;by_cases e2:s'=s
    ·exact(hne ⟨e2,rfl⟩).elim
    ·exact⟨x,hi,(Ms e2 x _).symm⟩
   ·rw [bg e] at g
    exact⟨y,g,rfl⟩
  have at_i:∀ y,(k.set i (fx s x (some rZ)))[i]? = some y->y=fx s x (some rZ):=fun y g=>by
   rw[bB (aY hi)]at g;cases g;rfl
  refine⟨fun s' a=>if s'=s/\a=i then (E.X.r l).length else if W s' a<(E.X.r l).length then W s' a else (E.X.r l).length+1+W s' a,fun s1 s2 a c y z g hz sy sz d=>?_,fun s1 a y rws e' g V he'=>?_⟩
  ·by_cases v : s1 = s /\ a = i
   ·by_cases M : s2 = s /\ c = i
    ·exact⟨by rw[v.1,M.1],by rw[v.2,M.2]⟩
    ·simp only [iP v, iN M] at d
     split at d<;>omega
   ·by_cases M : s2 = s /\ c = i
    ·simp only [iN v, iP M] at d
     split at d<;>omega
    ·simp only [iN v, iN M] at d
     obtain⟨N,o1,o2⟩:=old s1 a y g sy v;obtain⟨z0,o3,o4⟩:=old s2 c z hz sz M;refine k1 s1 s2 a c N z0 o1 o3 (by rw[o2]; exact sy) (by rw[o4]; exact sz) ?_;split at d<;>split at d<;>omega
  ·by_cases v : s1 = s /\ a = i
   ·obtain ⟨rfl, rfl⟩ := v
    have:=at_i y g;subst this;rw[Mr]at V;cases V;rw[he]at he';cases he';rcases hoj with⟨h1,h2⟩|⟨b',m',h1,h2,h3,h4,h5⟩
    ·obtain ⟨_, _, aN, h3⟩ := v4 h1
     subst h2;exact .inl ⟨rfl,aN,h3⟩
    ·obtain ⟨h6, o, h7, h8⟩ := v5 b' m' h1
     rw[hq]at h1;cases h1;simp only[cP,qM,fD]at h6 h7 h8;by_cases hm:0<m'
     ·have := h7 hm
      subst this;refine .inr ⟨b',m',?_,h8,h2,h3,h4,gz (fun a _ I=>bD hle a I) rfl h5⟩;simp only[and_self,if_true];exact hnew
     ·have hr0 : rZ = [] := uU (by omega)
      have hm0:m'=0:=by omega
      subst hr0;subst hm0;exact .inl ⟨rfl,_,h8⟩
   ·obtain ⟨N, o1, o2⟩ := old s1 a y g (by rw [V]; rfl) v
    rcases k2 s1 a N rws e' o1 (by rw[o2]; exact V) he' with hl|⟨bb,mm,s1',s2,s3,s4,s5,s6⟩
    ·exact .inl hl
    ·refine .inr ⟨bb, mm, ?_, s2, s3, s4, s5, gz (fun a _ I => bD hle a I) rfl s6⟩
     have d:=aY s1';simp only[iN v,iP d];show (e_ E.X.r l q l)[W s1 a]? = _
     rw[htl _ d];exact s1'
 exact⟨_,_,r1,r2,hlocid⟩
def Mv{P:aj}{E:af}(HE:aJ E){id l w cl cl' i h k U V:Nat}{es d:List k9}{g Ad:List (List AV)}{key:AV}{bn b n:Nat}{ms v:Array MapEntry}{e:MapEntry}{u0 u1:ao}
  (q:E.H[id]? = some (.bJ l w es cl)) (M:E.H[h]? = some (.vQ w U g)) (N:E.H[k]? = some (.vQ w V Ad)) (hne:h≠k) (I:E.ae[id]? = some (some (b,n)))
  (hb:E.w.heap[b]? = some (.map ms cl)) (hr:bL E (fZ d) v.toList) (hsl:o_ E l w d v.toList) (hi:d[i]? = some (key,(none,none),bn)) (he:v.toList[i]? = some e) (hval:e.val=.agg #[u0,u1])
  (hv0:ad E (.vQ w h U 0 g.length) u0) (hv1:ad E (.vQ w k V 0 Ad.length) u1) :
  ∃ w',(setObj b (.map v cl')).run P E.w=.ok () w'/\∀ x,dc E .undef (((E.H.set id (.bJ l w (d.set i (key,(some g,some Ad),bn)) cl')).set h .dead).set k .dead) x w':=by
 have O:h≠id:=fun e=>by rw[e,q]at M; cases M
 have hn1:k≠id:=fun e=>by rw[e,q]at N; cases N
 obtain⟨w',p1,p2,W,y,p5⟩:=W4 (P:=P) HE (cl':=cl') q I hb hr hsl;have hidE:({ w:=w',H:=E.H.set id (.bJ l w d cl'),ae:=E.ae,X:=E.X }:af).H[id]? = some (.bJ l w d cl'):=by
  simp only[];rw[bB (aY q)]
 have hobj:=p2.obj id _ hidE;simp only[aZ]at hobj;obtain⟨b2,n2,ms2,o1,o2,o3,o4⟩:=hobj;rw[I]at o1;simp only[bf,bo]at o1;obtain⟨rfl,rfl⟩:=o1;rw[y]at o2;cases o2;obtain⟨loc1,r1,q1,q2,q3⟩:=Mu (s:=false) (rZ:=g) (j:=h) (al:=U) p2 hidE (by simp only[]; rw[bg (Ne.symm O)]; exact M) hi rfl I y he o3 o4 (by rw[hval]; exact bD W _ hv0);have hidE1:({ w:=w',H:=((E.H.set id (.bJ l w d cl')).set id (.bJ l w (d.set i (fx false (key,(none,none),bn) (some g))) cl')).set h .dead,ae:=loc1,X:=E.X.re r1 }:af).H[id]? = some (.bJ l w (d.set i (fx false (key,(none,none),bn) (some g))) cl'):=by
  simp only[];rw[bg O,bB (by rw[iE]; exact aY q)]
 have hobj1:=q1.obj id _ hidE1;simp only[aZ]at hobj1;obtain⟨b3,n3,ms3,o5,o6,o7,o8⟩:=hobj1;rw[q3]at o5;simp only[bf,bo]at o5;obtain⟨rfl,rfl⟩:=o5;rw[y]at o6;cases o6;obtain⟨loc2,r2,q4,q5,_⟩:=Mu (s:=true) (rZ:=Ad) (j:=k) (al:=V) q1 hidE1 (by
   simp only[];rw[bg hne,bg (Ne.symm hn1),bg (Ne.symm hn1)];exact N) (bB (aY hi)) rfl q3 y he o7 o8 (by rw[hval]; exact bD (W.trans q2) _ hv1)
 refine⟨w',p1,fun x=>⟨loc2,r2,by simp[ad],?_,W.trans (q2.trans ?_)⟩⟩
 all_goals
  have hH:((((E.H.set id (.bJ l w d cl')).set id (.bJ l w (d.set i (fx false (key,(none,none),bn) (some g))) cl')).set h .dead).set id (.bJ l w ((d.set i (fx false (key,(none,none),bn) (some g))).set i (fx true (fx false (key,(none,none),bn) (some g)) (some Ad))) cl')).set k .dead =
    ((E.H.set id (.bJ l w (d.set i (key,(some g,some Ad),bn)) cl')).set h .dead).set k .dead:=by
   rw[lE,oc _ _ O,lE,lE];rfl
 ·rw [hH] at q4
  exact q4
 ·rw [hH] at q5
  exact q5
def W5{P:aj}{E:af}(HE:aJ E){t:aF}{m k v:AV}{c d u:ao}{H':List ai}(h:yZ P t m k v E.H=some H')(hm:ad E m c)(hk:ad E k d)(hv:ad E v u) :
  ∃ w',(mY t c d u).run P E.w=.ok () w'/\∀ x,dc E .undef H' x w':=by
 unfold yZ at h;split at h
 case h_2=>cases h
 rename_i kt et id w0 j0 v0 o0 n0 w1 j1 v1 o1 n1 ht;split at h
 case h_2=>cases h
 rename_i l w I cl w0' v0' rows0 w1' v1' Ad hid hj0 hj1;split at h
 case h_2=>cases h
 rename_i kv hkv;split at h
 case isFalse=>cases h
 rename_i hc;obtain⟨⟨⟨rfl,rfl⟩,⟨rfl,rfl⟩⟩,⟨⟨rfl,rfl⟩,⟨rfl,rfl⟩⟩,⟨rfl,rfl⟩,hne,hcl⟩:=hc;obtain⟨b,n,V,rfl,h1,h2,h3,h4⟩:=Mo HE hid hm;have hkv':=jt hkv hk;have e1:(getObj b).run P E.w=.ok (.map V cl) E.w:=by simp[getObj,iG,h2]
 obtain⟨hlen,hall⟩:=e9.1 h3;rw[VK]at hlen;obtain⟨N,O,rfl,hu0,hu1,ho0,ho1⟩:∃ N O,u=.agg #[N,O]/\ad E (.vQ w1' j0 v0 0 rows0.length) N/\ad E (.vQ w1' j1 v1 0 Ad.length) O/\dZ N=true/\dZ O=true:=by
  rw[ad]at hv;obtain⟨cs,rfl,ho,h⟩:=hv;obtain⟨cl⟩:=cs
  match cl,h,ho with
  | [a,c],h,ho =>
   simp only[ax,and_true]at h;exact⟨a,c,rfl,h.1,h.2,ho a (by simp),ho c (by simp)⟩
  | [],h,_=>simp[ax]at h
  | [_],h,_=>simp[ax]at h
  |_::_::_::_,h,_=>simp[ax]at h
 split at h
 ·rename_i i v0 hf
  cases h;obtain⟨r',g1,g2⟩:=iI hkv' E.w h3 hf;cases r' with
  |none=>simp[dK]at g2
  | some q =>
   simp only[dK]at g2;obtain⟨q1,q2,_,e',q4,q5⟩:=g2;obtain⟨_,x,y,f1,f2,f3⟩:=vE hf;simp only[fD]at q4 f1;obtain⟨a1,a2,a3,a4,a5⟩:=hall i x e' f1 q4;obtain⟨s1,s2⟩:=yQ hkv' (jt f2 a1) f3;have q4':V[i]? = some e':=by simpa using q4
   have hlt:i<I.length:=by have:=aY q4; omega
   obtain⟨U,hx0⟩:∃ U,I[i]? = some U:=⟨I[i],bZ hlt⟩
   have hx:x=(U.1,.undef,U.2.2):=by rw[Mp hx0]at f1; cases f1; rfl
   have hre:bL E (fZ (I.set i (k,(none,none),U.2.2))) (V.modify i fun e=>{ e with key:=d,val:=.agg #[N,O] }).toList:=by
    rw[e9];refine⟨by simp[fZ,hlen],fun a y z g M=>?_⟩;simp only[kS,iH]at M;obtain⟨z0,W,rfl⟩:=eL.1 M;unfold fZ at g;rw[bY,eC]at g;by_cases e:i=a
    ·subst e
     rw[iP rfl,iP hlt]at g;cases g;rw[q4]at W;cases W;simp only[if_true];refine⟨hk,by simp[ad],?_,hcl,rfl⟩;rw[a3,hx]
    ·rw [iN e] at g
     obtain⟨b1,b2,b3,b4,b5⟩:=hall a y z0 (by unfold fZ; rw[bY]; exact g) W;simp only[iN e];exact⟨b1,b2,b3,b4,b5⟩
   have hsl2:o_ E l w1' (I.set i (k,(none,none),U.2.2)) (V.modify i fun e=>{ e with key:=d,val:=.agg #[N,O] }).toList:=by
    obtain⟨k00,hs,k1,k2⟩:=h4;have old:∀ s (a:Nat) y,(I.set i (k,((none:Option (List (List AV))),(none:Option (List (List AV)))),U.2.2))[a]? = some y->(gK s y).2.1.isSome=true->I[a]? = some y/\a≠i:=fun s a y g hsm=>by
     by_cases ei:i=a
     ·subst ei
      rw[bB hlt]at g;cases g;cases s<;>cases hsm
     ·rw [bg ei] at g
      exact⟨g,Ne.symm ei⟩
    refine⟨fun e he=>?_,hs,fun s s' a c y z g M sy sz he=>k1 s s' a c y z (old s a y g sy).1 (old s' c z M sz).1 sy sz he,fun s a y rws e g hr he=>?_⟩
    ·obtain ⟨a, ha, hea⟩ := pR he
     have M:(V.modify i fun e=>{ e with key:=d,val:=.agg #[N,O] }).toList[a]? = some e:=by rw[bZ ha,hea]
     simp only[kS,iH]at M;obtain⟨z0,W,rfl⟩:=eL.1 M;by_cases e:i=a
     ·subst e
      simp only[if_true];exact⟨N,O,rfl,ho0,ho1⟩
     ·simp only [iN e]
      exact k00 z0 (eS W)
    ·obtain ⟨o1, o2⟩ := old s a y g (by rw [hr]; rfl)
     simp only[kS,iH]at he;obtain⟨z0,W,rfl⟩:=eL.1 he;rw[iN (Ne.symm o2)];exact k2 s a y rws z0 o1 hr W
   have hst:(qP e'.key d).run P E.w=.ok d E.w:=by simp[qP,s2]
   obtain⟨w',p1,p2⟩:=Mv (P:=P) HE (cl':=cl) (i:=i) (key:=k) (bn:=U.2.2) (e:={ e' with key:=d,val:=.agg #[N,O] }) hid hj0 hj1 hne h1 h2 hre hsl2 (bB hlt) (by
    simp only[kS,iH,q4];simp) rfl hu0 hu1
   refine⟨w',?_,fun xx=>?_⟩
   ·subst q1
    simp only[mY,cr,Sem.bF (gn ht),cf,e1,gM hkv',g1,q4',ff,m_,hst];exact p1
   ·have hm:I.modify i (fun e=>(k,(some rows0,some Ad),e.2.2))=(I.set i (k,(none,none),U.2.2)).set i (k,(some rows0,some Ad),U.2.2):=by
     rw[lE];apply jG;intro j;rw[iH,eC];by_cases e:i=j
     ·subst e
      rw[iP rfl,iP hlt,hx0];simp
     ·rw [iN e]
      simp[e]
    rw[hm];exact p2 xx
 ·rename_i hf
  cases h;obtain⟨r',g1,g2⟩:=iI hkv' E.w h3 hf;cases r' with
  |some _=>simp[dK]at g2
  | none =>
   have hml:V.toList.length=I.length:=by omega
   have hre:bL E (fZ (I++[(k,(none,none),cl)])) (V.push { key:=d,val:=.agg #[N,O],born:=cl }).toList:=by
    rw[e9];refine⟨by simp[fZ,hlen],fun a y z g M=>?_⟩;unfold fZ at g;rw[jY]at g;simp only[ob,gk,c8]at g M;rw[hml]at M;by_cases e:a<I.length
    ·simp only [iP e] at g M
     exact hall a y z (by unfold fZ; exact g) M
    ·simp only [iN e] at g M
     cases hj2:a-I.length with
     | zero =>
      rw[hj2]at g M;simp at g M;subst g; subst M;exact⟨hk,by simp[ad],rfl,hcl,rfl⟩
     |succ _=>rw[hj2]at g; simp at g
   have hsl2:o_ E l w1' (I++[(k,(none,none),cl)]) (V.push { key:=d,val:=.agg #[N,O],born:=cl }).toList:=by
    obtain⟨k00,hs,k1,k2⟩:=h4;have old:∀ s (a:Nat) y,(I++[(k,((none:Option (List (List AV))),(none:Option (List (List AV)))),cl)])[a]? = some y->(gK s y).2.1.isSome=true->I[a]? = some y/\a<I.length:=fun s a y g hsm=>by
     rw[gk]at g;split at g
     ·rename_i hh
      exact⟨g,hh⟩
     ·cases hk2 : a - I.length with
      | zero =>
       rw[hk2]at g;simp at g;subst g;cases s<;>cases hsm
      |succ _=>rw[hk2]at g; simp at g
    refine⟨fun e he=>?_,hs,fun s s' a c y z g M sy sz he=>k1 s s' a c y z (old s a y g sy).1 (old s' c z M sz).1 sy sz he,fun s a y rws e g hr he=>?_⟩
    ·simp only [ob, db, List.mem_singleton] at he
     rcases he with he|rfl
     ·exact k00 e he
     ·exact⟨N,O,rfl,ho0,ho1⟩
    ·obtain ⟨o1, o2⟩ := old s a y g (by rw [hr]; rfl)
     simp only[ob]at he;rw[di (by omega)]at he;exact k2 s a y rws e o1 hr he
   obtain⟨w',p1,p2⟩:=Mv (P:=P) HE (cl':=cl+1) (i:=I.length) (key:=k) (bn:=cl) (e:={ key:=d,val:=.agg #[N,O],born:=cl }) hid hj0 hj1 hne h1 h2 hre hsl2 (by simp) (by
    simp only[ob];rw[iY (by omega)];simp[hml]) rfl hu0 hu1
   refine⟨w',?_,fun xx=>?_⟩
   ·simp only [mY, cr, Sem.bF (gn ht), cf, e1, gM hkv', g1]
    exact p1
   ·have e2:(I++[(k,((none:Option (List (List AV))),(none:Option (List (List AV)))),cl)]).set I.length (k,(some rows0,some Ad),cl)=I++[(k,(some rows0,some Ad),cl)]:=by
     rw[Vn _ _ (aM _),lF];rfl
    have:=p2 xx;rw[e2]at this;exact this
 ·cases h
end Go.AL
