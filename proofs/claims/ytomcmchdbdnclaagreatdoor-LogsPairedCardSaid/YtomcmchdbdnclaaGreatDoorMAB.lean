/-
 What is proved: the logic's objects. No condition.
-/
import Derived.Test.YtomcmchdbdnclaaGreatDoorMA
set_option linter.all false
open Array renaming length_toList->jK,ext'->ic,getElem?_setIfInBounds->zW,toList_modify->jL,toList_push->mu
open Bool renaming and_true->gD,and_eq_true->ax
open Go.Builtin renaming append_->og,zeroCells->zT,nextslicecap->K8,delete_->Ws,clear_->Wv
open Go.Instr renaming sureAddr->lE,storeAt->tb,buildSlice->La,range->Wo,checkKey->wI,findAsking->Wp,findNow->zX,sameNow->zY,findKey->Wq,lookup->kg,makeMap->Wr,sameBits->Lb,mapUpdate->lG,keyThatStays->pt,mapEntry->D9,entryStore->z_
open Go.Result renaming andThen_ok->bT
open Go.Sem renaming run_bind->bS,run_pure->ft,run->gE
open Go.Utf8 renaming decode->pr
open Go.Value.slice renaming injEq->kX
open List renaming append_nil->cB,append_assoc->fq,getElem?_append_left->cK,length_map->bN,getElem?_map->bB,getElem_of_mem->pj,getElem?_eq_getElem->bx,mem_of_getElem?->dJ,getElem?_append_right->iJ,getElem?_append->fE,getElem?_set_self->bf,getElem?_set_ne->aQ,getElem?_set->dv,mem_cons->bC,mem_of_mem_drop->zQ,mem_of_mem_take->wE,eq_nil_of_length_eq_zero->ta,take_append_drop->wF,ext_getElem?->iK,length_take->lF,length_set->ib,length_append->en,mem_append->cw,flatten_cons->jl,size_toArray->zV,length_drop->pq,flatten_append->nl,replicate->bQ,getElem?_modify->gF,mem_cons_self->bZ,mem_cons_of_mem->cq,replicate_zero->alL,mem_replicate->alM,set_set->kh,map_append->eO,set_append_right->Ww,findIdx?_cons->Lc,findIdx?_toArray->alN,set_comm->mv
open Nat renaming add_mul->fM,le_refl->aB,le_add_right->fV,zero_le->dX,zero_add->cn,sub_zero->fF,zero_mul->po,add_zero->mq,mul_le_mul_right->oh,one_mul->wH,beq->ai,succ_mul->zZ,eq_of_beq_eq_true->ba,sub_self->lH,le_of_eq->Ld
open Option renaming map_eq_some_iff->dI,map_some->dS,getD_some->np
open Option.some renaming injEq->aM
open Prod.mk renaming injEq->aU
namespace Go.AL
open Go
variable [Dr]
def AW(P:Program)(t:TypeId)(x:AV)(H:List ab):Option (AV × List ab) :=
 match cD P t,x with
 |.str,.lit (.string s)=>some (.ptr H.length 0 0 0 0,H++[.iter s 0])
 |_,_=>none
theorem XD{E:Env}(HE:al E)(s:ByteArray) :
  cM E (.ptr E.H.length 0 0 0 0) (E.H++[.iter s 0]) (.pointer (some ⟨E.w.heap.size,0,none⟩)) { E.w with heap:=E.w.heap.push (.stringIter s 0) }:=by
 have d:=Ext.push E.w (.stringIter s 0);have hle:=Env.k9 (o:=.iter s 0) (l:=some (E.w.heap.size,0)) HE.len d (fun b n hb=>by cases hb; exact aB _);have hblk:(E.w.heap.push (.stringIter s 0))[E.w.heap.size]? = some (.stringIter s 0):=by simp
 refine⟨E.loc++[some (E.w.heap.size,0)],E.X.r,?_,al.push HE d (fun b n hb=>?_) ?_,hle⟩
 ·simp only [rel]
  refine⟨⟨_,_,rfl⟩,⟨.iter s 0,by simp,rfl,fun v g=>by simp⟩,fun _=>⟨E.w.heap.size,0,?_,by simp⟩⟩;rw[<-HE.len]; simp
 ·cases hb
  exact⟨aB _,by simp⟩
 ·simp only [aI]
  refine⟨E.w.heap.size,0,?_,hblk⟩;simp only[Env.push]; rw[<-HE.len]; simp
theorem XE{P:Program}{E:Env}(HE:al E){t:TypeId}{x v:AV}{c:Value}{H':List ab}(h:AW P t x E.H=some (v,H'))(d:rel E x c) :
  ∃ u w',(Wo t c).run P E.w=.ok u w'/\cM E v H' u w':=by
 unfold AW at h;split at h
 ·rename_i s hk
  cases h;simp only[rel]at d;subst d;refine⟨_,_,?_,XD HE s⟩;simp[Wo,Sem.bk (rq hk),newObj];rfl
 ·cases h
def AX(x:AV)(isString:Bool)(H:List ab):Option (AV × List ab) :=
 match x,isString with
 | .ptr id 0 _ 0 0,true=>match H[id]? with
  | some (.iter s pos)=>if pos<s.size then some (.tuple [.lit (.bool true),.lit (goInt pos),.lit (.int .i32 (pr s pos).1)],H.set id (.iter s (pos+(pr s pos).2)))
    else some (.tuple [.lit (.bool false)],H)
  |_=>none
 |_,_=>none
theorem XF{P:Program}{E:Env}(HE:al E){x v:AV}{c:Value}{isString:Bool}{ty:TypeId}{H':List ab}(h:AX x isString E.H=some (v,H'))(O:rel E x c) :
  ∃ u w',(Instr.next c isString ty).run P E.w=.ok u w'/\cM E v H' u w':=by
 unfold AX at h;split at h
 case h_2=>cases h
 rename_i id k;split at h
 case h_2=>cases h
 rename_i s pos hid;have ho:=HE.obj id _ hid;simp only[aI]at ho;obtain⟨b,n,h1,g⟩:=ho;simp only[rel]at O;obtain⟨_,_,U⟩:=O;obtain⟨b',n',g1,g2⟩:=U ⟨_,hid,rfl⟩;rw[h1]at g1;simp only[aM,aU]at g1;obtain⟨rfl,rfl⟩:=g1;have hb:=(HE.lt id b n h1).1;split at h
 ·rename_i d
  cases h;subst g2;have N:({ E.w with heap:=E.w.heap.setIfInBounds b (.stringIter s (pos+(pr s pos).2)) }:World).heap.size=E.w.heap.size:=by simp
  have M:∀ y,y≠b->({ E.w with heap:=E.w.heap.setIfInBounds b (.stringIter s (pos+(pr s pos).2)) }:World).heap[y]? = E.w.heap[y]? := by
   intro y V;simp only[zW];rw[if_neg (fun e=>V e.symm)]
  refine⟨.tuple #[.bool true,goInt pos,.int .i32 (pr s pos).1],{ E.w with heap:=E.w.heap.setIfInBounds b (.stringIter s (pos+(pr s pos).2)) },?_,E.loc,E.X.r,?_,?_,?_⟩
  ·have q : (getObj b).run P E.w = .ok (.stringIter s pos) E.w := by simp [getObj, gE, g]
   have W:(setObj b (.stringIter s (pos+(pr s pos).2))).run P E.w=.ok () { E.w with heap:=E.w.heap.setIfInBounds b (.stringIter s (pos+(pr s pos).2)) }:=by
    simp[setObj,gE,g]
   simp only[Instr.next,po,mq,bS,q,bT,d,if_true];rw[W];rfl
  ·simp[rel,ae]
  ·exact HE.set hid h1 (fun v I=>I) N M (by
    simp only[aI];exact⟨b,n,h1,by simp[hb]⟩)
  ·exact Env.oB HE hid h1 (fun v I=>I) N M
 ·rename_i d
  cases h;subst g2;refine⟨.tuple #[.bool false],E.w,?_,E.loc,E.X.r,by simp[rel,ae],by simpa using HE,Env.le.refl E⟩;have q:(getObj b).run P E.w=.ok (.stringIter s pos) E.w:=by simp[getObj,gE,g]
  simp only[Instr.next,po,mq,bS,q,bT,d,if_false];rfl
end Go.AL

namespace Go.AL
open Go
variable [Dr]
def gS(P:Program)(d:TypeId)(a:AV):Option (List Value) :=
 match flatK P oz d with
 |none=>none
 | some ks=>match a with
  |.lit v=>if cR ks [v]=true/\oy (P.underlying d)=false then some [v] else none
  | .agg as=>match ox as with
   |some l=>if cR ks l=true/\oy (P.underlying d)=true then some l else none
   |none=>none
  |_=>none
def oD(P:Program)(d:TypeId)(l:List Value)(c:Value):Prop:=isVal P d c l/\∃ ks,flatK P oz d=some ks/\cR ks l=true
theorem il{P:Program}{E:Env}{g:TypeId}{a:AV}{l:List Value}{c:Value}(h:gS P g a=some l)(hr:rel E a c):oD P g l c:=by
 unfold gS at h;split at h
 ·cases h
 rename_i ks hk;split at h
 ·split at h
  ·rename_i v d
   cases h;simp only[rel]at hr;subst hr;refine⟨?_,ks,hk,d.1⟩;unfold isVal;split
   ·rename_i k hu
    rw[hu]at d;exact absurd d.2 (by simp[oy])
   ·rfl
  ·cases h
 ·split at h
  ·rename_i as l' u
   split at h
   ·rename_i d
    cases h;simp only[rel]at hr;obtain⟨cs,rfl,_,y⟩:=hr;refine⟨?_,ks,hk,d.1⟩;have e:=AJ u y;unfold isVal;split
    ·exact⟨cs,rfl,e⟩
    ·rename_i q
     exfalso;have:=d.2;unfold oy at this;split at this
     ·rename_i k hu
      exact q k hu
     ·cases this
   ·cases h
  ·cases h
 ·cases h
theorem Md{P:Program}:∀(d:Nat) (q:List Field) (off:Nat) (ks:List SK),wY P d q off=some ks->∀(xs:Array Value),cR ks (xs.toList.drop off)=true->∀ w:World,∀ f∈q,f.name ≠ "_" /\
  ∃ u x vs,flatK P d f.type=some u/\(part f.type xs f.offset).run P w=.ok x w/\isVal P f.type x vs/\cR u vs=true
 |d,[],off,ks,hk,xs,I,w,f,k=>by cases k
 | d,g::q,off,ks,hk,xs,I,w,f,k=>by
  unfold wY tK at hk;split at hk
  ·cases hk
  rename_i M;split at hk
  case h_2=>cases hk
  rename_i u n ag N V;split at hk
  case isFalse=>cases hk
  rename_i O;split at hk
  case h_2=>cases hk
  rename_i l W;cases hk;have U:g.offset=off:=by
   by_cases e:g.offset=off
   ·exact e
   ·exact(M (.inr e)).elim
  obtain⟨v,y⟩:=AI I;rw[<-O]at v y;rcases bC.1 k with rfl|k
  ·obtain ⟨x, px, vx⟩ := ED V N O xs off v w
   exact⟨fun e=>M (.inl e),u,x,_,N,by rw[U]; exact px,vx,v⟩
  ·exact Md d q (off+n) l W xs (by rw[List.drop_drop]at y; exact y) w f k
theorem Me{P:Program}(em:Bool):∀(d:Nat) (t:TypeId) (ks:List SK),flatK P d t=some ks->∀(D:Nat),d<=D->∀(x:Value) (vs:List Value),isVal P t x vs->cR ks vs=true ->
  ∀ w,(wI em D t x).run P w=.ok () w
 |0,_,_,hk=>by simp[flatK]at hk
 | d+1,t,ks,hk=>by
  intro D hD x vs q g w;obtain⟨D,rfl⟩:∃ v,D=v+1:=⟨D-1,by omega⟩
  unfold flatK at hk;cases hu:P.underlying t with
  |none=>rw[hu]at hk; cases hk
  | some I =>
   rw[hu]at hk;cases I with
   | struct u =>
    simp only[]at hk;split at hk
    ·cases hk
    simp only[isVal,hu]at q;obtain⟨a,rfl,rfl⟩:=q;have each:=Md d u.toList 0 ks hk a (by simpa using g) w;have deep:∀ f∈u.toList,f.name ≠ "_" /\ ∃ x,(part f.type a f.offset).run P w=.ok x w/\(wI em D f.type x).run P w=.ok () w:=fun f M=>by
     obtain⟨h1,N,x,vs,O,U,V,W⟩:=each f M;exact⟨h1,x,U,Me em d f.type N O D (by omega) x vs V W w⟩
    rw[wI];simp only[bS,Sem.bk hu,bT];rw[<-Array.forIn_toList];clear each hk;generalize u.toList=L at deep
    induction L with
    |nil=>simp
    | cons f L ih =>
     obtain⟨hn,x,p1,p2⟩:=deep f (by simp);simp only[List.forIn_cons,bS,hn,ne_eq,not_false_eq_true,if_true,bT,p1,p2,ft];exact ih (fun y hy=>deep y (by simp[hy]))
   | int k =>
    simp at hk;subst hk;simp only[isVal,hu]at q;subst q;simp only[cR,gD]at g;unfold kindOk at g;split at g<;>simp_all[wI,Sem.bk hu]
   | string =>
    simp at hk;subst hk;simp only[isVal,hu]at q;subst q;simp only[cR,gD]at g;unfold kindOk at g;split at g<;>simp_all[wI,Sem.bk hu]
   | bool =>
    simp at hk;subst hk;simp only[isVal,hu]at q;subst q;simp only[cR,gD]at g;unfold kindOk at g;split at g<;>simp_all[wI,Sem.bk hu]
   |_=>simp at hk
theorem fZ{P:Program}{d:TypeId}{l:List Value}{c:Value}(h:oD P d l c)(em:Bool)(w:World):(wI em 10000 d c).run P w=.ok () w:=by
 obtain⟨h1,ks,g,k⟩:=h;exact Me em oz d ks g 10000 (by decide) c l h1 k w
theorem XG{P:Program}{g:TypeId}{l m:List Value}{c d:Value}(h:oD P g l c)(h':oD P g m d)(w:World):(Op.equal g c d).run P w=.ok (dN l m) w:=by
 obtain⟨h1,ks,k,u⟩:=h;obtain⟨v,I,q,y⟩:=h';rw[k]at q;cases q;exact EE oz g ks k 10000 (by decide) c d l m h1 v u y w
def d_(P:Program)(d:TypeId)(k:List Value):List (AV × AV × Nat)->Nat->Option (Option (Nat × AV))
 | [],_=>some none
 | (k',v,_)::es,i=>match gS P d k' with
  |some l=>bif dN k l then some (some (i,v)) else d_ P d k es (i+1)
  |none=>none
def cZ(E:Env)(ms:List MapEntry)(i0:Nat):Option (Nat × AV)->Option (Nat × Value)->Prop
 |none,none=>True
 |some (i,v),some (j,c)=>i=j/\rel E v c/\i0<=i/\∃ e,ms[i-i0]? = some e/\e.val=c
 |_,_=>False
theorem Mf{P:Program}{E:Env}{d:TypeId}{k:List Value}{c:Value}(hk:oD P d k c)(w:World):∀(es:List (AV × AV × Nat)) (ms:List MapEntry) (i:Nat) (r:Option (Nat × AV)),
  bt E es ms->d_ P d k es i=some r->∃ r',(Wp d c ms i).run P w=.ok r' w/\cZ E ms i r r'
 | [],[],i,r,_,h=>by
  simp only[d_,aM]at h;subst h;exact⟨none,rfl,trivial⟩
 | [],_::_,_,_,hr,_=>by simp[bt]at hr
 |(_,_,_)::_,[],_,_,hr,_=>by simp[bt]at hr
 | (k',v,n)::es,e::ms,i,r,hr,h=>by
  simp only[bt]at hr;obtain⟨h1,u,V,W,h5,y⟩:=hr;simp only[d_]at h;split at h
  case h_2=>cases h
  rename_i l I;have he:=XG hk (il I h1) w;cases g:dN k l with
  | true =>
   rw[g]at h he;cases h;refine⟨some (i,e.val),by simp[Wp,he],rfl,u,aB _,e,by simp,rfl⟩
  | false =>
   rw[g]at h he;obtain⟨r',g1,g2⟩:=Mf hk w es ms (i+1) r y h;refine⟨r',by simp[Wp,he,g1],?_⟩;cases r with
   | none=>cases r' with
    |none=>trivial
    |some _=>simp[cZ]at g2
   | some p=>cases r' with
    |none=>simp[cZ]at g2
    | some q =>
     simp only[cZ]at g2|-;obtain⟨M,N,q3,e',O,U⟩:=g2;refine⟨M,N,by omega,e',?_,U⟩;rw[show p.1-i=(p.1-(i+1))+1 from by omega];simpa using O
theorem Mg{P:Program}{E:Env}{U:TypeId}{k:List Value}{c:Value}{d:TypeDesc}(hu:P.underlying U=some d)(hk:oD P U k c):∀(es:List (AV × AV × Nat)) (ms:List MapEntry) (i:Nat) (r:Option (Nat × AV)),
  bt E es ms->d_ P U k es i=some r->(∃ r',zX d c ms i=some r'/\cZ E ms i r r')\/zX d c ms i=none
 | [],[],i,r,_,h=>by
  simp only[d_,aM]at h;subst h;exact .inl ⟨none,rfl,trivial⟩
 | [],_::_,_,_,hr,_=>by simp[bt]at hr
 |(_,_,_)::_,[],_,_,hr,_=>by simp[bt]at hr
 | (k',v,n)::es,e::ms,i,r,hr,h=>by
  simp only[bt]at hr;obtain⟨h1,h2,h3,h4,h5,h6⟩:=hr;simp only[d_]at h;split at h
  case h_2=>cases h
  rename_i l hl;have W:=il hl h1;have same:zY d c e.key=some (dN k l)\/zY d c e.key=none:=by
   obtain⟨p1,ks,u,I⟩:=hk;obtain⟨M,ks',O,y⟩:=W;rw[u]at O;cases O;unfold oz at u;unfold flatK at u;rw[hu]at u;cases d with
   |struct fs=>right; simp[zY]
   | int kk =>
    simp at u;subst u;simp only[isVal,hu]at p1 M;subst p1; subst M;simp only[cR,gD]at I y;unfold kindOk at I y;left;split at I<;>split at y<;>simp_all[zY,dN,pJ]
   | string =>
    simp at u;subst u;simp only[isVal,hu]at p1 M;subst p1; subst M;simp only[cR,gD]at I y;unfold kindOk at I y;left;split at I<;>split at y<;>simp_all[zY,dN,pJ,beq_toListBytes]
   | bool =>
    simp at u;subst u;simp only[isVal,hu]at p1 M;subst p1; subst M;simp only[cR,gD]at I y;unfold kindOk at I y;left;split at I<;>split at y<;>simp_all[zY,dN,pJ]
   |_=>simp at u
  rcases same with N|N
  ·cases V : dN k l with
   | true =>
    rw[V]at h N;cases h;exact .inl ⟨some (i,e.val),by simp[zX,N],rfl,h2,aB _,e,by simp,rfl⟩
   | false =>
    rw[V]at h N;rcases Mg hu hk es ms (i+1) r h6 h with⟨r',g1,g2⟩|g
    ·refine .inl ⟨r', by simp [zX, N, g1], ?_⟩
     cases r with
     | none=>cases r' with
      |none=>trivial
      |some _=>simp[cZ]at g2
     | some p=>cases r' with
      |none=>simp[cZ]at g2
      | some q =>
       simp only[cZ]at g2|-;obtain⟨M,O,y,e',q4,q5⟩:=g2;refine⟨M,O,by omega,e',?_,q5⟩;rw[show p.1-i=(p.1-(i+1))+1 from by omega];simpa using q4
    ·exact .inr (by simp[zX,N,g])
  ·exact .inr (by simp[zX,N])
theorem gH{P:Program}{E:Env}{q:TypeId}{k:List Value}{c:Value}(hk:oD P q k c)(w:World){es:List (AV × AV × Nat)}{ms:List MapEntry}{r:Option (Nat × AV)}
  (hr:bt E es ms) (h:d_ P q k es 0=some r):∃ r',(Wq q c ms).run P w=.ok r' w/\cZ E ms 0 r r':=by
 have hu:∃ d,P.underlying q=some d:=by
  obtain⟨_,ks,u,_⟩:=hk;unfold oz at u;unfold flatK at u;split at u<;>first|exact⟨_,by assumption⟩|cases u
 obtain⟨d,hu⟩:=hu;rcases Mg hu hk es ms 0 r hr h with⟨r',g1,g2⟩|g
 ·exact⟨r',by simp[Wq,Sem.bk hu,g1],g2⟩
 ·obtain ⟨r', g1, g2⟩ := Mf hk w es ms 0 r hr h
  exact⟨r',by simp[Wq,Sem.bk hu,g,g1],g2⟩
def c6(P:Program)(t:TypeId):Option (TypeId × TypeId):=match P.underlying t with
 |some (.map k e)=>some (k,e)
 |_=>none
theorem fG{P:Program}{t k e:TypeId}(h:c6 P t=some (k,e)):P.underlying t=some (.map k e):=by
 unfold c6 at h;split at h
 ·rename_i h1; cases h; exact h1
 ·cases h
def im(P:Program)(t:TypeId):Option AV:=match P.info? t with
 | some i=>match i.zero with
  |some z=>some (AV.tC z)
  |none=>none
 |none=>none
theorem ry{P:Program}{t:TypeId}{a:AV}(h:im P t=some a)(w:World):∃ z,(zeroValue t).run P w=.ok z w/\∀ E,rel E a z:=by
 unfold im at h;split at h
 ·rename_i i hi
  split at h
  ·rename_i z d
   cases h;exact⟨z,nD hi d w,fun E=>LB E z⟩
  ·cases h
 ·cases h
def oE(P:Program)(t:TypeId):Option AV:=match im P t,w7 P t with
 |some (.lit (.slice none 0 0)),some ks=>some (.listF ks [])
 |some z,_=>some z
 |none,_=>none
theorem Mh{P:Program}{t:TypeId}{a:AV}(h:oE P t=some a)(w:World):∃ z,(zeroValue t).run P w=.ok z w/\∀ E,rel E a z:=by
 unfold oE at h;split at h
 ·rename_i ks h1 d
  cases h;obtain⟨z,g1,g2⟩:=ry h1 w;refine⟨z,g1,fun E=>?_⟩;have:=g2 E;simp only[rel]at this;subst this;simp only[rel,eo,G.rows];exact⟨none,0,rfl,aB _,.inl (by first|rfl|trivial)⟩
 ·rename_i z h1 _
  cases h;exact ry ‹im P t=some a› w
 ·cases h
def gl(P:Program)(t:TypeId)(m k:AV)(ok:Bool)(H:List ab):Option AV :=
 match c6 P t,m with
 | some (d,g),.map id=>match H[id]? with
  | some (.map es _)=>match gS P d k,oE P g with
   | some q,some z=>match d_ P d q es 0 with
    | some r=>let v:=match r with
      |some (_,v)=>v
      |none=>z
     some (match ok with
      |true=>.tuple [v,.lit (.bool r.isSome)]
      |false=>v)
    |none=>none
   |_,_=>none
  |_=>none
 |_,_=>none
theorem tS{E:Env}(HE:al E){id cl:Nat}{es:List (AV × AV × Nat)}{c:Value}(hid:E.H[id]? = some (.map es cl))(hr:rel E (.map id) c) :
  ∃ b n ms,c=.map (some b)/\E.loc[id]? = some (some (b,n))/\E.w.heap[b]? = some (.map ms cl)/\bt E es ms.toList:=by
 have ho:=HE.obj id _ hid;simp only[aI]at ho;obtain⟨b,n,ms,h1,d,g⟩:=ho;simp only[rel]at hr;obtain⟨_,_,k⟩:=hr;obtain⟨q,u,g1,g2⟩:=k ⟨_,hid,rfl⟩;rw[h1]at g1;simp only[aM,aU]at g1;obtain⟨rfl,rfl⟩:=g1;exact⟨b,n,ms,g2,h1,d,g⟩
theorem Mi{P:Program}{E:Env}(HE:al E){t:TypeId}{m k v:AV}{ok:Bool}{c d:Value}(h:gl P t m k ok E.H=some v)(hm:rel E m c)(hk:rel E k d) :
  ∃ u,(kg t c d ok).run P E.w=.ok u E.w/\rel E v u:=by
 unfold gl at h;split at h
 case h_2=>cases h
 rename_i kt et id y;split at h
 case h_2=>cases h
 rename_i es cl hid;split at h
 case h_2=>cases h
 rename_i kv z O U;split at h
 case h_2=>cases h
 rename_i r hr;obtain⟨b,n,ms,rfl,h1,V,W⟩:=tS HE hid hm;have g:=il O hk;obtain⟨r',g1,g2⟩:=gH g E.w W hr;obtain⟨I,z1,z2⟩:=Mh U E.w;have M:(getObj b).run P E.w=.ok (.map ms cl) E.w:=by simp[getObj,gE,V]
 cases h;cases r with
 | none =>
  cases r' with
  |some _=>simp[cZ]at g2
  | none =>
   refine⟨if ok then .tuple #[I,.bool false] else I,?_,?_⟩
   ·simp only[kg,bS,Sem.bk (fG y),bT,M,ft,fZ g,g1,z1]
   ·cases ok with
    |true=>simp[rel,ae,z2 E]
    |false=>simpa using z2 E
 | some p =>
  cases r' with
  |none=>simp[cZ]at g2
  | some q =>
   simp only[cZ]at g2;obtain⟨q1,N,_,_,_,_⟩:=g2;refine⟨if ok then .tuple #[q.2,.bool true] else q.2,?_,?_⟩
   ·simp only[kg,bS,Sem.bk (fG y),bT,M,ft,fZ g,g1]
   ·cases ok with
    |true=>simp[rel,ae,N]
    |false=>simpa using N
theorem XH{E:Env}(HE:al E):cM E (.map E.H.length) (E.H++[.map [] 0]) (.map (some E.w.heap.size)) { E.w with heap:=E.w.heap.push (.map #[] 0) }:=by
 have d:=Ext.push E.w (.map #[] 0);have hle:=Env.k9 (o:=.map [] 0) (l:=some (E.w.heap.size,0)) HE.len d (fun b n hb=>by cases hb; exact aB _);have hblk:(E.w.heap.push (.map #[] 0))[E.w.heap.size]? = some (.map #[] 0):=by simp
 refine⟨E.loc++[some (E.w.heap.size,0)],E.X.r,?_,al.push HE d (fun b n hb=>?_) ?_,hle⟩
 ·simp only [rel]
  refine⟨⟨_,rfl⟩,⟨.map [] 0,by simp,rfl,fun v g=>dX _⟩,fun _=>⟨E.w.heap.size,0,?_,rfl⟩⟩;rw[<-HE.len]; simp
 ·cases hb
  exact⟨aB _,by simp⟩
 ·simp only [aI]
  refine⟨E.w.heap.size,0,#[],?_,hblk,by simp[bt]⟩;simp only[Env.push]; rw[<-HE.len]; simp
def rz(id:Nat)(H:List ab):Option (AV × List ab) :=
 match H[id]? with
 |some .eP=>some (.map id,H.set id (.map [] 0))
 |_=>none
theorem EZ{id:Nat}{H H':List ab}{v:AV}(h:rz id H=some (v,H')):H[id]? = some .eP/\v=.map id/\H'=H.set id (.map [] 0):=by
 unfold rz at h;split at h
 ·rename_i hid
  cases h;exact⟨hid,rfl,rfl⟩
 ·cases h
theorem Mj{id:Nat}{H:List ab}(h:H[id]? = some .eP):rz id H=some (.map id,H.set id (.map [] 0)):=by
 unfold rz;rw[h]
theorem XI{E:Env}(HE:al E){id:Nat}(hid:E.H[id]? = some .eP):cM E (.map id) (E.H.set id (.map [] 0)) (.map (some E.w.heap.size)) { E.w with heap:=E.w.heap.push (.map #[] 0) }:=by
 have d:=Ext.push E.w (.map #[] 0);have I:=aG hid;have k:(ab.eP).born=true->(ab.eP).aF = none->(ab.map [] 0).aF = none:=fun h=>by cases h
 have y:∀ v,(ab.map [] 0).aF = some v->∀ u,(ab.eP).aF = some u->u<v:=fun v _ u hu=>by cases hu
 have M:∀ v u,(ab.map [] 0).aF = some v->(ab.eP).aF = some u->u<=v:=fun v u _ hu=>by cases hu
 have hblk:(E.w.heap.push (.map #[] 0))[E.w.heap.size]? = some (.map #[] 0):=by simp
 have q:(E.loc.set id (some (E.w.heap.size,0)))[id]? = some (some (E.w.heap.size,0)):=bf (by rw[HE.len]; exact I);have hle:E.le { w:={ E.w with heap:=E.w.heap.push (.map #[] 0) },H:=E.H.set id (.map [] 0),loc:=E.loc.set id (some (E.w.heap.size,0)),X:=E.X } :=
  Env.k_ hid HE.len d.size (fun x g _=>d.same x g) (fun b n h=>by cases h; exact .inl (aB _)) (.inr y) M k
 refine⟨E.loc.set id (some (E.w.heap.size,0)),E.X.r,?_,?_,hle⟩
 ·simp only [rel]
  exact⟨⟨_,rfl⟩,⟨.map [] 0,by simp[I],rfl,fun v N=>dX _⟩,fun _=>⟨E.w.heap.size,0,q,rfl⟩⟩
 ·refine al.mE HE hid d.size (fun x g _ => d.same x g) (fun b n h => by cases h; exact .inl ⟨aB _, by simp⟩) (.inr y) M k ?_
  simp only[aI];exact⟨E.w.heap.size,0,#[],q,hblk,by simp[bt]⟩
theorem XJ{P:Program}{E:Env}(HE:al E){t:TypeId}{id:Nat}{v:AV}{H':List ab}(h:rz id E.H=some (v,H')) :
  ∃ u w',(Wr t none).run P E.w=.ok u w'/\cM E v H' u w':=by
 obtain⟨h1,rfl,rfl⟩:=EZ h;exact⟨_,_,by simp[Wr,newObj]; rfl,XI HE h1⟩
theorem AY{a b:ByteArray}(h:a.toList=b.toList):a=b:=by
 have h1:(a==b)=true:=by rw[beq_toListBytes,h]; simp
 obtain⟨x⟩:=a;obtain⟨y⟩:=b;have e:x=y:=by simpa using(show (x==y)=true from h1)
 rw[e]
theorem Mk:∀{l m:List Value} {ks:List SK},cR ks l=true->cR ks m=true->dN l m=true->l=m
 | [],[],_,_,_,_=>rfl
 | a::l,b::m,ks,h1,d,h=>by
  cases ks with
  |nil=>simp[cR]at h1
  | cons k ks =>
   simp only[cR,ax]at h1 d;simp only[dN,ax]at h;have e:a=b:=by
    have g:=h1.1;have q:=d.1;have u:=h.1;unfold kindOk at g q;split at g<;>split at q<;>simp_all[pJ]
    exact AY h.1
   rw[e,Mk h1.2 d.2 h.2]
 | [],_::_,_,_,_,h|_::_,[],_,_,_,h=>by simp[dN]at h
theorem Ml{ks:List SK}:∀{l:List Value},cR ks l=true->∀(n:Nat),(l.zip l).all (fun(x,y)=>Lb n x y)=true:=by
 intro l
 induction l generalizing ks with
 |nil=>intro _ _; rfl
 | cons a l d =>
  intro h n;cases ks with
  |nil=>simp[cR]at h
  | cons k ks =>
   simp only[cR,ax]at h;simp only[List.zip_cons_cons,List.all_cons,ax];refine⟨?_,d h.2 n⟩;have hk:=h.1;unfold kindOk at hk;split at hk<;>cases n<;>simp_all[Lb,beq_toListBytes]
theorem xa{P:Program}{q:TypeId}{l m:List Value}{c d:Value}(h:oD P q l c)(h':oD P q m d)(he:dN l m=true):c=d/\Lb 10000 d c=true:=by
 obtain⟨h1,ks,I,k⟩:=h;obtain⟨g,N,u,M⟩:=h';rw[I]at u;cases u;have e:=Mk k M he;subst e;unfold isVal at h1 g;split at h1
 ·rename_i v hu
  rw[hu]at g;simp only[]at g;obtain⟨a,rfl,ha⟩:=h1;obtain⟨b,rfl,hb⟩:=g;have:a=b:=by apply ic; rw[ha,hb]
  subst this;refine⟨rfl,?_⟩;simp only[Lb,beq_self_eq_true,Bool.true_and];rw[ha];exact Ml k 9999
 ·rename_i y
  split at g
  ·rename_i v hu
   exact(y v hu).elim
  ·have : c = d := by rw [h1] at g; simpa using g
   subst this;refine⟨rfl,?_⟩;have:=Ml k 10000;rw[h1]at this;simpa using this
def lP(P:Program)(t:TypeId)(m k v:AV)(H:List ab):Option (List ab) :=
 match c6 P t,m with
 | some (d,_),.map id=>match H[id]? with
  | some (.map es cl)=>match gS P d k with
   | some g=>if v.closed=true/\k.closed=true then
     match d_ P d g es 0 with
     |some (some (i,_))=>some (H.set id (.map (es.modify i fun e=>(k,v,e.2.2)) cl))
     |some none=>some (H.set id (.map (es++[(k,v,cl)]) (cl+1)))
     |none=>none
    else none
   |none=>none
  |_=>none
 |_,_=>none
theorem dT{E:Env}:∀{es:List (AV × AV × Nat)} {ms:List MapEntry},bt E es ms↔es.length=ms.length/\∀(i:Nat) x e,es[i]? = some x->ms[i]? = some e ->
  rel E x.1 e.key/\rel E x.2.1 e.val/\e.born=x.2.2/\x.1.closed=true/\x.2.1.closed=true
 | [],[]=>by simp[bt]
 | [],_::_=>by simp[bt]
 |(_,_,_)::_,[]=>by simp[bt]
 | (k,v,n)::es,e::ms=>by
  simp only[bt,dT (es:=es),List.length_cons];constructor
  ·rintro ⟨h1, q, u, I, M, U, N⟩
   refine⟨by omega,fun i x y d g=>?_⟩;cases i with
   |zero=>simp at d g; subst d; subst g; exact⟨h1,q,u,I,M⟩
   |succ i=>exact N i x y (by simpa using d) (by simpa using g)
  ·rintro ⟨h1, q⟩
   obtain⟨O,a2,a3,a4,a5⟩:=q 0 (k,v,n) e rfl rfl;exact⟨O,a2,a3,a4,a5,by omega,fun i x y d g=>q (i+1) x y (by simpa using d) (by simpa using g)⟩
theorem AZ{P:Program}{E:Env}(HE:al E){id b n cl cl':Nat}{es es':List (AV × AV × Nat)}{ms ms':Array MapEntry}(hid:E.H[id]? = some (.map es cl)) (d:E.loc[id]? = some (some (b,n)))
  (hb:E.w.heap[b]? = some (.map ms cl)) (hr:bt E es' ms'.toList) :
  ∃ w',(setObj b (.map ms' cl')).run P E.w=.ok () w'/\al { w:=w',H:=E.H.set id (.map es' cl'),loc:=E.loc,X:=E.X }/\E.le { w:=w',H:=E.H.set id (.map es' cl'),loc:=E.loc,X:=E.X }:=by
 have u:=(HE.lt id b n d).1;have q:({ E.w with heap:=E.w.heap.setIfInBounds b (.map ms' cl') }:World).heap.size=E.w.heap.size:=by simp
 have k:∀ y,y≠b->({ E.w with heap:=E.w.heap.setIfInBounds b (.map ms' cl') }:World).heap[y]? = E.w.heap[y]? := by
  intro y I;simp only[zW];rw[if_neg (fun e=>I e.symm)]
 refine⟨{ E.w with heap:=E.w.heap.setIfInBounds b (.map ms' cl') },by simp[setObj,gE,hb],?_,?_⟩
 ·have hle : E.le { w := { E.w with heap := E.w.heap.setIfInBounds b (.map ms' cl') }, H := E.H.set id (.map es' cl'), loc := E.loc, X := E.X } := Env.oB HE hid d (fun v g => g) q k
  refine HE.set hid d (fun v g=>g) q k ?_;simp only[aI];refine⟨b,n,ms',d,by simp[u],?_⟩;rw[dT]at hr|-;refine⟨hr.1,fun i x e M he=>?_⟩;obtain⟨N,a2,a3,a4,a5⟩:=hr.2 i x e M he;exact⟨bg hle _ N,bg hle _ a2,a3,a4,a5⟩
 ·exact Env.oB HE hid d (fun v g=>g) q k
theorem tT{P:Program}{g:TypeId}{k:List Value}:∀{es:List (AV × AV × Nat)} {i j:Nat} {v:AV},d_ P g k es i=some (some (j,v))->i<=j/\∃ x l,es[j-i]? = some x/\gS P g x.1=some l/\dN k l=true
 | [],_,_,_,h=>by simp[d_]at h
 | (k',q,n)::es,i,j,v,h=>by
  simp only[d_]at h;split at h
  case h_2=>cases h
  rename_i l u;cases d:dN k l with
  | true =>
   rw[d]at h;cases h;exact⟨aB _,(k',q,n),l,by simp,u,d⟩
  | false =>
   rw[d]at h;obtain⟨h1,x,l',y,I,M⟩:=tT h;refine⟨by omega,x,l',?_,I,M⟩;rw[show j-i=(j-(i+1))+1 from by omega];simpa using y
theorem Mm{P:Program}{E:Env}(HE:al E){t:TypeId}{m k v:AV}{c d u:Value}{H':List ab}(h:lP P t m k v E.H=some H')(hm:rel E m c)(hk:rel E k d)(hv:rel E v u) :
  ∃ w',(lG t c d u).run P E.w=.ok () w'/\al { w:=w',H:=H',loc:=E.loc,X:=E.X }/\E.le { w:=w',H:=H',loc:=E.loc,X:=E.X }:=by
 unfold lP at h;split at h
 case h_2=>cases h
 rename_i kt et id ht;split at h
 case h_2=>cases h
 rename_i es cl hid;split at h
 case h_2=>cases h
 rename_i kv hkv;split at h
 case isFalse=>cases h
 rename_i N;obtain⟨b,n,ms,rfl,h1,V,W⟩:=tS HE hid hm;have M:=il hkv hk;have e1:(getObj b).run P E.w=.ok (.map ms cl) E.w:=by simp[getObj,gE,V]
 obtain⟨hlen,U⟩:=dT.1 W;split at h
 ·rename_i i v0 O
  cases h;obtain⟨r',g1,g2⟩:=gH M E.w W O;cases r' with
  |none=>simp[cZ]at g2
  | some q =>
   simp only[cZ]at g2;obtain⟨q1,q2,_,e',q4,q5⟩:=g2;obtain⟨_,x,l,f1,f2,f3⟩:=tT O;simp only[fF]at q4 f1;obtain⟨a1,a2,a3,a4,a5⟩:=U i x e' f1 q4;obtain⟨s1,s2⟩:=xa M (il f2 a1) f3;have q4':ms[i]? = some e':=by simpa using q4
   obtain⟨w',r1,r2,r3⟩:=AZ (P:=P) HE (es':=es.modify i fun e=>(k,v,e.2.2)) (ms':=ms.modify i fun e=>{ e with key:=d,val:=u }) (cl':=cl) hid h1 V (by
    rw[dT];refine⟨by simp[hlen],fun j y z g I=>?_⟩;simp only[gF]at g;simp only[jL,gF]at I;obtain⟨y0,hy0,rfl⟩:=dI.1 g;obtain⟨z0,hz0,rfl⟩:=dI.1 I;obtain⟨b1,b2,b3,b4,b5⟩:=U j y0 z0 hy0 hz0;by_cases e:i=j
    ·subst e
     simp only[if_true];exact⟨hk,hv,b3,N.2,N.1⟩
    ·simp only [if_neg e]
     exact⟨b1,b2,b3,b4,b5⟩)
   refine⟨w',?_,r2,r3⟩;subst q1;have hst:(pt e'.key d).run P E.w=.ok d E.w:=by simp[pt,s2]
   simp only[lG,bS,Sem.bk (fG ht),bT,e1,fZ M,g1,q4',dS,np,hst];exact r1
 ·rename_i O
  cases h;obtain⟨r',g1,g2⟩:=gH M E.w W O;cases r' with
  |some _=>simp[cZ]at g2
  | none =>
   obtain⟨w',r1,r2,r3⟩:=AZ (P:=P) HE (es':=es++[(k,v,cl)]) (ms':=ms.push { key:=d,val:=u,born:=cl }) (cl':=cl+1) hid h1 V (by
    rw[dT];refine⟨by simp[hlen],fun j y z g I=>?_⟩;simp only[mu,fE,hlen]at g I;by_cases e:j<ms.toList.length
    ·simp only [if_pos e] at g I
     exact U j y z g I
    ·simp only [if_neg e] at g I
     cases hj:j-ms.toList.length with
     | zero =>
      rw[hj]at g I;simp at g I;subst g; subst I;exact⟨hk,hv,rfl,N.2,N.1⟩
     |succ _=>rw[hj]at g; simp at g)
   refine⟨w',?_,r2,r3⟩;simp only[lG,bS,Sem.bk (fG ht),bT,e1,fZ M,g1];exact r1
 ·cases h
def xb(P:Program)(t:TypeId)(m k:AV)(H:List ab):Option (List ab) :=
 match c6 P t,m with
 | some (d,_),.map id=>match H[id]? with
  | some (.map es cl)=>match gS P d k with
   | some g=>match d_ P d g es 0 with
    |some (some (i,_))=>some (H.set id (.map (es.eraseIdx i) cl))
    |some none=>some (H.set id (.map es cl))
    |none=>none
   |none=>none
  |_=>none
 |_,_=>none
theorem XK{P:Program}{E:Env}(HE:al E){t ty:TypeId}{tys:Array TypeId}{m k:AV}{c d:Value}{cs:Array Value}{H':List ab}(h:xb P t m k E.H=some H')(h0:tys[0]? = some t)
  (U:cs[0]? = some c) (V:cs[1]? = some d) (hm:rel E m c) (hk:rel E k d) :
  ∃ w',(Ws tys ty cs).run P E.w=.ok (.tuple #[]) w'/\al { w:=w',H:=H',loc:=E.loc,X:=E.X }/\E.le { w:=w',H:=H',loc:=E.loc,X:=E.X }:=by
 unfold xb at h;split at h
 case h_2=>cases h
 rename_i kt et id W;split at h
 case h_2=>cases h
 rename_i es cl hid;split at h
 case h_2=>cases h
 rename_i kv hkv;obtain⟨b,n,ms,rfl,h1,M,I⟩:=tS HE hid hm;have v:=il hkv hk;have e1:(getObj b).run P E.w=.ok (.map ms cl) E.w:=by simp[getObj,gE,M]
 obtain⟨hlen,O⟩:=dT.1 I;split at h
 ·rename_i i v0 N
  cases h;obtain⟨r',g1,g2⟩:=gH v E.w I N;cases r' with
  |none=>simp[cZ]at g2
  | some q =>
   simp only[cZ]at g2;obtain⟨q1,q2,_,e',q4,q5⟩:=g2;obtain⟨w',r1,r2,r3⟩:=AZ (P:=P) HE (es':=es.eraseIdx i) (ms':=ms.eraseIdxIfInBounds i) (cl':=cl) hid h1 M (by
    rw[dT];have e:(ms.eraseIdxIfInBounds i).toList=ms.toList.eraseIdx i:=by simp
    rw[e];refine⟨by simp[List.length_eraseIdx,hlen],fun j y z g u=>?_⟩;rw[List.getElem?_eraseIdx]at g u;by_cases hj:j<i
    ·simp only [if_pos hj] at g u
     exact O j y z g u
    ·simp only [if_neg hj] at g u
     exact O (j+1) y z g u)
   refine⟨w',?_,r2,r3⟩;subst q1;simp only[Ws,h0,U,V,bS,Sem.bk (fG W),bT,e1,fZ v,g1];rw[r1];rfl
 ·rename_i N
  cases h;obtain⟨r',g1,g2⟩:=gH v E.w I N;cases r' with
  |some _=>simp[cZ]at g2
  | none =>
   obtain⟨w',r1,r2,r3⟩:=AZ (P:=P) HE (es':=es) (ms':=ms) (cl':=cl) hid h1 M I;refine⟨w',?_,r2,r3⟩;simp only[Ws,h0,U,V,bS,Sem.bk (fG W),bT,e1,fZ v,g1];rw[r1];rfl
 ·cases h
end Go.AL

namespace Go.AL
open Go
variable [Dr]
theorem Mn{α:Type}{k:Nat}:∀{l:List (List α)} (n:Nat),(∀ r∈l,r.length=k)->(l.take n).flatten=l.flatten.take (n*k)
 | [],n,_=>by simp
 |r::l,0,_=>by simp
 | r::l,n+1,h=>by
  have hr:r.length=k:=h r bZ;have d:=Mn (l:=l) n (fun x g=>h x (cq _ g));have e:(n+1)*k=k+n*k:=by rw[fM]; omega
  simp only[List.take_succ_cons,jl,d,e];rw[List.take_append,hr];have q:r.take (k+n*k)=r:=List.take_of_length_le (by omega);have u:k+n*k-k=n*k:=by omega
  rw[q,u]
theorem Mo{α:Type}{k:Nat}:∀{l:List (List α)} (n:Nat),(∀ r∈l,r.length=k)->(l.drop n).flatten=l.flatten.drop (n*k)
 | [],n,_=>by simp
 |r::l,0,_=>by simp
 | r::l,n+1,h=>by
  have hr:r.length=k:=h r bZ;have d:=Mo (l:=l) n (fun x g=>h x (cq _ g));have e:(n+1)*k=k+n*k:=by rw[fM]; omega
  simp only[List.drop_succ_cons,jl,d,e];rw[List.drop_append,hr];have q:r.drop (k+n*k)=[]:=List.drop_eq_nil_of_le (by omega);have u:k+n*k-k=n*k:=by omega
  rw[q,u,List.nil_append]
theorem XL{P:Program}{E:Env}(HE:al E){id k ver b m off:Nat}{rows news:List (List AV)}{vals:List Value}(hid:E.H[id]? = some (.vec k ver rows)) (q:E.loc[id]? = some (some (b,m)))
  (d:ae E news.flatten vals) (h1:∀ x∈vals,dm x=true) (hw:∀ r∈news,r.length=k) (hcl:eD news) (hle:off+news.length<=rows.length) :
  ∃ w',(storeCells ⟨b,off*k,none⟩ vals).run P E.w=.ok () w'/\al { w:=w',H:=E.H.set id (.vec k ver (rows.take off++news++rows.drop (off+news.length))),loc:=E.loc,X:=E.X } /\
   E.le { w:=w',H:=E.H.set id (.vec k ver (rows.take off++news++rows.drop (off+news.length))),loc:=E.loc,X:=E.X }:=by
 rcases HE.obj id _ hid with⟨u,_⟩|⟨b',m',u,⟨cur,el,hblk,U⟩,e3,e4,e5⟩
 ·rw[q]at u; cases u
 rw[q]at u;cases u;have g:∀ r∈rows,r.length=k:=EN e5;have hlen:vals.length=news.length*k:=by rw[<-jn d,tQ hw]
 have hmul:(off+news.length)*k<=rows.length*k:=oh _ hle;rw[fM]at hmul;have hmul2:rows.length*k<=m*k:=oh _ e3;have y:off*k+0+vals.length<=cur.size:=by rw[U]; omega
 have M:=run_storeCells_at P b (off*k) el vals 0 cur E.w hblk y (fun v d=>by rw[tO]; exact h1 v d);simp only[mq]at M y;generalize I:E.w.setRow b (cur.toList.take (off*k)++vals++cur.toList.drop (off*k+vals.length)).toArray=w' at M;have N:w'.heap.size=E.w.heap.size:=by rw[<-I]; exact setRow_size _ _ _
 have henv:eE E.w w':=by rw[<-I]; exact⟨rfl,rfl,rfl,by first|exact fun _=>aB _|exact fun _=>fV _ _⟩
 have O:∀ x,x≠b->w'.heap[x]? = E.w.heap[x]? := by intro x hx; rw[<-I]; exact setRow_other _ _ _ _ hx
 have hb':w'.heap[b]? = some (.cells (cur.toList.take (off*k)++vals++cur.toList.drop (off*k+vals.length)).toArray el (0,0)):=by
  rw[<-I]; exact setRow_heap E.w b cur _ el (0,0) hblk
 have V:∀ v,(ab.vec k ver (rows.take off++news++rows.drop (off+news.length))).aF = some v->(ab.vec k ver rows).aF = some v:=fun v d=>by simpa[ab.aF]using d
 have W:=Env.oB (o':=.vec k ver (rows.take off++news++rows.drop (off+news.length))) HE hid q V N O;have hl2:(rows.take off++news++rows.drop (off+news.length)).length=rows.length:=by
  simp only[en,lF,pq];omega
 refine⟨w',M,al.set HE hid q V N O ?_,W⟩;simp only[aI];right;refine⟨b,m,q,⟨_,el,hb',?_⟩,by rw[hl2]; exact e3,?_,?_⟩
 ·simp only [zV, en, lF, pq, jK, U] at y |-
  omega
 ·intro r hr
  simp only[cw]at hr;rcases hr with(h|h)|h
  ·exact e4 r (wE h)
  ·exact hcl r h
  ·exact e4 r (zQ h)
 ·refine AN ?_ ?_
  ·intro r hr
   simp only[cw]at hr;rcases hr with(h|h)|h
   ·exact g r (wE h)
   ·exact hw r h
   ·exact g r (zQ h)
  ·rw [nl, nl, Mn off g, Mo _ g]
   have hflat:=AM e5;have hcs:news.flatten.length=news.length*k:=tQ hw;have:=AP (E:=E) (E':={ w:=w',H:=E.H.set id (.vec k ver (rows.take off++news++rows.drop (off+news.length))),loc:=E.loc,X:=E.X }) (o:=0) (col:=off*k) (as:=rows.flatten) (cs:=news.flatten)
    (fun a c hr=>bg W a hr) hblk (by simpa using hb') (by simpa using y) hflat d h1 (by rw[tQ g,hcs]; omega)
   rw[hcs]at this;rw[show (off+news.length)*k=off*k+news.length*k from fM _ _ _];exact this
def xc(P:Program)(t:TypeId)(x:AV)(H:List ab):Option (List ab) :=
 match cD P t,x with
 | .slice e sz _,.vec w id ver off n=>match eR P e,H[id]? with
  | some z,some (.vec k v rows)=>if k=w/\w=sz/\v=ver/\z.length=sz/\0<sz/\off+n<=rows.length then
    some (H.set id (.vec k v (rows.take off++bQ n (z.map AV.lit)++rows.drop (off+n)))) else none
  |_,_=>none
 |_,_=>none
theorem XM{P:Program}{E:Env}(HE:al E){t ty:TypeId}{tys:Array TypeId}{x:AV}{c:Value}{cs:Array Value}{H':List ab}(h:xc P t x E.H=some H')(h0:tys[0]? = some t)
  (M:cs[0]? = some c) (g:rel E x c) :
  ∃ w',(Wv tys ty cs).run P E.w=.ok (.tuple #[]) w'/\al { w:=w',H:=H',loc:=E.loc,X:=E.X }/\E.le { w:=w',H:=H',loc:=E.loc,X:=E.X }:=by
 unfold xc at h;split at h
 case h_2=>cases h
 rename_i e sz by_ w id ver off n hk;obtain⟨hu,i,hi,hs,_⟩:=ig hk;split at h
 case h_2=>cases h
 rename_i z k v rows hz hid;split at h
 case isFalse=>cases h
 rename_i hc;obtain⟨rfl,rfl,rfl,W,hpos,hle⟩:=hc;cases h;obtain⟨i',q,N,hz1,O,hz3⟩:=nC hz;rw[hi]at N;cases N;simp only[rel]at g;obtain⟨⟨base,cap,rfl,hcap,hb⟩,_,U⟩:=g;obtain⟨q1,q2⟩:=U ⟨_,hid,rfl⟩;cases n with
 | zero =>
  refine⟨E.w,?_,?_,?_⟩
  ·simp only [Wv, h0, M, bS, Sem.bk hu, bT]
   cases base<;>rfl
  ·simp only [alL, cB, mq, wF]
   rw[nE hid];exact HE
  ·simp only [alL, cB, mq, wF]
   rw[nE hid];exact Env.le.refl E
 | succ n =>
  obtain⟨b,o,rfl⟩:=hb (by omega);have d:∃ b m,E.loc[id]? = some (some (b,m)):=by
   rcases HE.obj id _ hid with⟨_,u⟩|⟨y,m',u,_⟩
   ·subst u
    simp at hle
   ·exact⟨y,m',u⟩
  obtain⟨y,m,d⟩:=d;obtain⟨g1,o',g2,g3⟩:=q2 y m d;have ho:=g2 (by omega);subst ho;simp only[kX,aM,Addr.mk.injEq]at g3;obtain⟨⟨rfl,rfl,_⟩,_,_⟩:=g3;have V:(zT q.cells (n+1)).toList=(bQ (n+1) z).flatten:=by
   rw[<-O];have hzs:0<q.cells.size:=by
    have:q.cells.size=z.length:=by rw[<-O]; simp
    omega
   exact range_zero q.cells (n+1) hzs
  have I:∀ r∈bQ (n+1) (z.map AV.lit),r=z.map AV.lit:=fun r hr=>(alM.1 hr).2;obtain⟨w',r1,r2,r3⟩:=XL (P:=P) HE (off:=off) (news:=bQ (n+1) (z.map AV.lit)) (vals:=(bQ (n+1) z).flatten) hid d (w9 z (n+1))
   (fun x g=>hz3 x (w_ g)) (fun r hr=>by rw[I r hr]; simp[W]) (fun r hr=>by rw[I r hr]; exact EY z) (by simpa using hle)
  simp only[List.length_replicate]at r2 r3;refine⟨w',?_,r2,r3⟩;simp only[Wv,h0,M,bS,Sem.bk hu,bT,nD hi hz1,V];rw[r1];rfl
theorem XN{P:Program}{w:World}{t xt ty e:TypeId}{i:TypeInfo}{z:Value}{sz:Nat}{base:Option Addr}{m:Nat}{k k':IntKind}
  (u:P.underlying t=some (.slice e)) (v:P.underlying xt=some (.int k)) (hi:P.info? e=some i) (y:i.size=sz) (I:i.zero=some z) (d:0<sz) (h0:0<m) (hm:m<=1048576) (hb:i.bytes<=1048576) :
  ∃ C,m<=C/\(og #[t,xt] ty #[.slice base 0 0,.int k' (m:Int)]).run P w =
   .ok (.slice (some ⟨w.heap.size,0,none⟩) m C) (w.drew.alloc (.cells ((zT z.cells m).toList++(zT z.cells (C-m)).toList).toArray e)):=by
 have g:IntKind.i64.wrap (m:Int)=m:=wrap_small (by omega) (by omega);have h1:¬ (m<=0):=by omega
 have M:¬ ((m:Int)<0):=by omega
 have q:m*i.bytes<=1048576*1048576:=Nat.mul_le_mul hm hb;have N:¬ ((281474976710656:Int)<(m:Int)*(i.bytes:Int)):=by
  have:((m*i.bytes:Nat):Int)<=1099511627776:=Int.ofNat_le.2 (Nat.le_trans q (by decide));rw[Int.natCast_mul]at this;omega
 have O:¬ (IntKind.i64.max<(m:Int)):=by
  show ¬ ((9223372036854775807:Int)<(m:Int))
  omega
 have W:K8 m 0*i.bytes<=281474976710656:=growslice_fits (by omega) (by omega);have U:¬ (281474976710656<K8 m 0*i.bytes):=by omega
 have V:¬ (m*sz=0):=by
  have:=Nat.mul_pos h0 d;omega
 refine⟨grownCap w m 0 e,?_,?_⟩
 ·simp[grownCap,Question.cut]
 ·simp [og, run_underlying u, run_underlying v, sizeOf, typeInfo, zeroValue, hi, I, y, asInt, asIntOf, g, h1, M, N, O, U, V, Question.forced, newRow, grownCap, Builtin.firstCells]
  rw[if_neg (by omega:¬ m=0),if_neg (by omega:¬ (9223372036854775807:Int)<(m:Int))];cases base<;>simp[loadCells,loadCellsFrom]<;>(congr 2; apply ic; simp)
def rA(P:Program)(t xt:TypeId)(s x:AV)(H:List ab):Option (AV × List ab) :=
 match cD P t,cD P xt,s,x with
 | .slice e sz d,.int _,.lit (.slice none 0 0),.lit (.int _ n)=>match eR P e with
  |some z=>if z.length=sz/\0<sz/\d<=1048576/\0<n/\n<=1048576 then some (.vec sz H.length 0 0 n.toNat,H++[.vec sz 0 (bQ n.toNat (z.map AV.lit))]) else none
  |none=>none
 |_,_,_,_=>none
theorem XO{P:Program}{E:Env}(HE:al E){t xt ty:TypeId}{s x v:AV}{H':List ab}{c M:Value}(h:rA P t xt s x E.H=some (v,H'))(N:rel E s c)(d:rel E x M) :
  ∃ u w',(og #[t,xt] ty #[c,M]).run P E.w=.ok u w'/\cM E v H' u w':=by
 unfold rA at h;split at h
 case h_2=>cases h
 rename_i e sz by_ k k' n hk U;split at h
 case h_2=>cases h
 rename_i z hz;split at h
 case isFalse=>cases h
 rename_i hc;obtain⟨h1,h2,h3,h4,h5⟩:=hc;cases h;obtain⟨hu,i,hi,V,hby⟩:=ig hk;obtain⟨i',g,I,W,q,hz3⟩:=nC hz;rw[hi]at I;cases I;simp only[rel]at N d;subst N;subst d;obtain⟨m,rfl⟩:∃ m:Nat,n=(m:Int):=⟨n.toNat,by omega⟩
 obtain⟨C,g1,g2⟩:=XN (P:=P) (w:=E.w) (ty:=ty) (base:=none) (k':=k') (m:=m) hu (LO U) hi V W h2 (by omega) (by omega) (by omega);have hzs:0<g.cells.size:=by
  have:g.cells.size=z.length:=by rw[<-q]; simp
  omega
 have O:(zT g.cells m).toList=(bQ m z).flatten:=by rw[<-q]; exact range_zero g.cells m hzs
 rw[O]at g2;have y:∀ r∈bQ m (z.map AV.lit),r=z.map AV.lit:=fun r hr=>(alM.1 hr).2;refine⟨_,_,g2,?_⟩;simp only[Int.toNat_natCast];refine L2 HE (w9 z m) (fun x d=>hz3 x (w_ d)) (fun r hr=>by rw[y r hr]; simp[h1]) (fun r hr=>by rw[y r hr]; exact EY z) (by simp) g1 ?_;simp only[jK,size_zeroCells];rw[<-h1,<-q];simp
end Go.AL

namespace Go.AL
open Go
variable [Dr]
def xd(P:Program)(t:TypeId)(n:Nat)(parts:List (Nat × AV))(H:List ab):Option (AV × List ab) :=
 match tR P t n parts with
 |some (.list sz rows)=>some (.vec sz H.length 0 0 rows.length,H++[.vec sz 0 rows])
 |_=>none
theorem Mp(k:Nat):∀(n:Nat) (out:List AV),out.length=n*k->(chunk k n out).flatten=out
 | 0,out,h=>by
  have:out=[]:=ta (by simpa using h);subst this;rfl
 | n+1,out,h=>by
  simp only[chunk,jl];rw[Mp k n (out.drop k) (by rw[pq,h,zZ]; omega)];exact wF k out
theorem Mq(k:Nat):∀(n:Nat) (out:List AV),out.length=n*k->∀ r∈chunk k n out,r.length=k
 |0,_,_,r,hr=>by simp[chunk]at hr
 | n+1,out,h,r,hr=>by
  simp only[chunk]at hr;rw[zZ]at h;rcases bC.1 hr with rfl|hr
  ·rw [lF]
   omega
  ·exact Mq k n (out.drop k) (by rw[pq]; omega) r hr
theorem XP{P:Program}{E:Env}(HE:al E){t:TypeId}{n:Nat}{parts:List (Nat × AV)}{cparts:List (Nat × Value)}{v:AV}{H':List ab}(h:xd P t n parts E.H=some (v,H'))
  (hm:parts.map (·.1)=cparts.map (·.1)) (hv:ae E (parts.map (·.2)) (cparts.map (·.2))) :
  ∃ u w',(La t n cparts.toArray).run P E.w=.ok u w'/\cM E v H' u w':=by
 unfold xd at h;split at h
 case h_2=>cases h
 rename_i k rows0 h0;cases h;unfold tR at h0;split at h0
 case h_2=>cases h0
 rename_i e sz by_ hk;obtain⟨hu,i,hi,I,_⟩:=ig hk;split at h0
 case h_2=>cases h0
 rename_i z hz;obtain⟨i',g,M,U,N,V⟩:=nC hz;rw[hi]at M;cases M;split at h0
 case isFalse=>cases h0
 rename_i hc;obtain⟨g1,g2,g3⟩:=hc;split at h0
 case h_2=>cases h0
 rename_i out O;split at h0
 case isFalse=>cases h0
 rename_i q;have W:g.cells.size=sz:=by rw[<-g1,<-N]; simp
 obtain⟨d,y⟩:∃ d:Array Value,d.toList=(bQ n z).flatten:=⟨((bQ n z).flatten).toArray,by simp⟩
 obtain⟨o,f1,f2,f3⟩:=wZ (E:=E) (cs:=d) O (by rw[y]; exact w9 z n) (by rw[y]; intro x hx; exact V x (w_ hx)) hm hv;cases n with
 |zero=>cases h0
 |succ n =>
 cases h0;refine⟨.slice (some ⟨E.w.heap.size,0,none⟩) (n+1) (n+1),{ E.w with heap:=E.w.heap.push (.cells (o.toList++[]).toArray e) },?_,?_⟩
 ·have hno : ¬ ((n + 1) * i.size > 2 ^ 24) := by rw [I]; omega
  simp only[La,bS,Sem.bk hu,bT,Sem.run_sizeOf hi];rw[if_neg hno];have h0:¬ ((n+1)*i.size=0):=by
   intro h;rcases Nat.mul_eq_zero.1 h with h|h
   ·omega
   ·omega
  rw[if_neg h0];simp only[bS,nD hi U,bT,ft];have:(Array.map (fun x=>g.cells[x%g.cells.size]!) (Array.range ((n+1)*i.size)))=d:=by
   apply ic;rw[I,<-W,range_zero g.cells (n+1) (by omega),N,y]
  rw[this,I,f1];simp[newRow]
 ·rw [w5]
  exact L6 HE (C:=n+1) (by rw[Mp k (n+1) out q.2]; exact f2) f3 (Mq k (n+1) out q.2) (EK k _ out q.1) (w5 ..) (aB _) (by simp)
end Go.AL

namespace Go.AL
open Go
variable [Dr]
def dU (r:Nat->List (Option (Option (Nat × Nat)))) (l0:Nat) (q:Option (Nat × Nat)):Nat->List (Option (Option (Nat × Nat))):=fun l=>if l=l0 then r l++[some q] else r l
def gn (r:Nat->List (Option (Option (Nat × Nat)))) (l0 h:Nat):Nat->List (Option (Option (Nat × Nat))):=fun l=>if l=l0 then (r l).set h none else r l
def gT (r:Nat->List (Option (Option (Nat × Nat)))) (l0:Nat):Nat->List (Option (Option (Nat × Nat))):=fun l=>if l=l0 then (r l).map fun _=>none else r l
theorem XQ{r:Nat->List (Option (Option (Nat × Nat)))}{l0 l h:Nat}{q:Option (Nat × Nat)}{x:Option (Option (Nat × Nat))}(d:(dU r l0 q l)[h]? = some x):(r l)[h]? = some x\/(l=l0/\h=(r l).length/\x=some q):=by
 unfold dU at d;split at d
 ·rename_i e
  rw[fE]at d;split at d
  ·exact .inl d
  ·right
   cases hk:h-(r l).length with
   | zero =>
    rw[hk]at d;simp at d;exact⟨e,by omega,d.symm⟩
   |succ n=>rw[hk]at d; simp at d
 ·exact .inl d
theorem E2{r:Nat->List (Option (Option (Nat × Nat)))}{l0 l h:Nat}{q:Option (Nat × Nat)}(d:h<(r l).length):h<(dU r l0 q l).length/\(dU r l0 q l)[h]? = (r l)[h]? := by
 unfold dU;split
 ·exact⟨by simp; omega,cK d⟩
 ·exact⟨d,rfl⟩
theorem XR{r:Nat->List (Option (Option (Nat × Nat)))}{l0 h0 l h:Nat}{q:Option (Nat × Nat)}(d:(gn r l0 h0 l)[h]? = some (some q)):(r l)[h]? = some (some q)/\¬ (l=l0/\h=h0):=by
 unfold gn at d;split at d
 ·rw [dv] at d
  split at d
  ·split at d<;>cases d
  ·rename_i h1
   exact⟨d,fun e=>h1 e.2.symm⟩
 ·rename_i h1
  exact⟨d,fun e=>h1 e.1⟩
theorem A0{r:Nat->List (Option (Option (Nat × Nat)))}{l0 h0 l h:Nat}(d:¬ (l=l0/\h=h0)):(gn r l0 h0 l)[h]? = (r l)[h]? := by
 unfold gn;split
 ·rename_i e
  exact aQ (fun g=>d ⟨e,g.symm⟩)
 ·rfl
theorem XT{r:Nat->List (Option (Option (Nat × Nat)))}{l0 h0 l:Nat}:(gn r l0 h0 l).length=(r l).length:=by
 unfold gn;split<;>simp
theorem ja{r:Nat->List (Option (Option (Nat × Nat)))}{l0 l h:Nat}{q:Option (Nat × Nat)}(d:(gT r l0 l)[h]? = some (some q)):(r l)[h]? = some (some q)/\l≠l0:=by
 unfold gT at d;split at d
 ·rw [bB] at d
  cases g:(r l)[h]? with
  |none=>rw[g]at d; cases d
  |some y=>rw[g]at d; cases d
 ·rename_i e
  exact⟨d,e⟩
theorem Mr{r:Nat->List (Option (Option (Nat × Nat)))}{l0 l:Nat}:(gT r l0 l).length=(r l).length:=by
 unfold gT;split<;>simp
theorem al.attach{E:Env}(H:al E){id j l0:Nat}{o o' oj:ab}{q:Option (Nat × Nat)}(hid:E.H[id]? = some o)(hlab:o.label=some l0)(hlab':o'.label=some l0)(hver:o'.aF = o.aF)(hj:E.H[j]? = some oj)(hlj:oj.label=none)(hq:E.loc[j]? = some q)
  (ho:E.le { w:=E.w,H:=(E.H.set id o').set j .dead,loc:=E.loc.set j none,X:=E.X.re (dU E.X.r l0 q) }->aI { w:=E.w,H:=(E.H.set id o').set j .dead,loc:=E.loc.set j none,X:=E.X.re (dU E.X.r l0 q) } id o')
  (hmm:o.dc=none\/o'.dc=o.dc:=by first|exact .inl rfl|exact .inr rfl|assumption) :
  al { w:=E.w,H:=(E.H.set id o').set j .dead,loc:=E.loc.set j none,X:=E.X.re (dU E.X.r l0 q) }/\E.le { w:=E.w,H:=(E.H.set id o').set j .dead,loc:=E.loc.set j none,X:=E.X.re (dU E.X.r l0 q) }:=by
 have hne:j≠id:=fun e=>by rw[e,hid]at hj; cases hj; rw[hlab]at hlj; cases hlj
 have hlt:=aG hid;have hltj:=aG hj;have V:∀(i:Nat) x,(E.loc.set j none)[i]? = some (some x)->i≠j/\E.loc[i]? = some (some x):=fun i x hi=>by
  rw[dv]at hi;split at hi
  ·split at hi<;>cases hi
  ·rename_i e
   exact⟨Ne.symm e,hi⟩
 have H_old:∀(i:Nat) x,((E.H.set id o').set j .dead)[i]? = some x->(i=j/\x=.dead)\/(i=id/\x=o')\/(i≠j/\i≠id/\E.H[i]? = some x):=fun i x hi=>by
  by_cases e:i=j
  ·subst e
   rw[bf (by simp; exact hltj)]at hi;cases hi;exact .inl ⟨rfl,rfl⟩
  ·rw [aQ (Ne.symm e)] at hi
   by_cases u:i=id
   ·subst u
    rw[bf hlt]at hi;cases hi;exact .inr (.inl ⟨rfl,rfl⟩)
   ·rw [aQ (Ne.symm u)] at hi
    exact .inr (.inr ⟨e,u,hi⟩)
 have hid':((E.H.set id o').set j .dead)[id]? = some o':=by
  rw[aQ hne,bf hlt]
 have W:∀(l h b m:Nat),(dU E.X.r l0 q l)[h]? = some (some (some (b,m)))->(E.X.r l)[h]? = some (some (some (b,m)))\/(l=l0/\h=(E.X.r l).length/\E.loc[j]? = some (some (b,m))):=fun l h b m hk=>by
  rcases XQ hk with g|⟨g1,g2,g3⟩
  ·exact .inl g
  ·cases g3
   exact .inr ⟨g1,g2,hq⟩
 have hle:E.le { w:=E.w,H:=(E.H.set id o').set j .dead,loc:=E.loc.set j none,X:=E.X.re (dU E.X.r l0 q) }:=by
  refine⟨fun i ver hp=>?_,aB _,fun _ _ _=>rfl,fun b hb hno=>?_,fun i ver hp I=>?_,⟨rfl,rfl⟩,fun l h hh=>?_,.refl _,fun i l x h1 d hv=>?_⟩
  rotate_right
  ·by_cases e : i = j
   ·subst e
    obtain⟨y,N,h4⟩:=hv;simp only[]at N;rw[bf (by simp; exact hltj)]at N;cases N;cases h4
   ·by_cases u : i = id
    ·subst u
     rw[hid]at h1;cases h1;have e3:l0=l:=by
      have:=ab.mz d;rw[hlab]at this;cases this;rfl
     subst e3;rcases hmm with h|h
     ·rw[h]at d; cases d
     ·exact⟨⟨[some q],if_pos rfl⟩,o',hid',by rw[h]; exact d⟩
    ·have e3 : l ≠ l0 := fun e3 => u (H.uniq i id x o l h1 hid (ab.mz d) (by rw [e3]; exact hlab))
     exact⟨⟨[],by rw[cB]; exact if_neg e3⟩,x,by simp only[]; rw[aQ (Ne.symm e),aQ (Ne.symm u)]; exact h1,d⟩
  ·obtain ⟨x, h1, d⟩ := hp
   by_cases e:i=j
   ·subst e
    exact⟨.dead,by simp only[]; rw[bf (by simp; exact hltj)],rfl,fun v hv=>by cases hv⟩
   ·by_cases u : i = id
    ·subst u
     rw[hid]at h1;cases h1;exact⟨o',hid',ab.Av hlab',fun v hv=>d.2 v (by rw[<-hver]; exact hv)⟩
    ·exact⟨x,by simp only[]; rw[aQ (Ne.symm e),aQ (Ne.symm u)]; exact h1,d⟩
  ·rintro (⟨i, c, hi⟩ | ⟨l, h, m, hm⟩)
   ·exact hno (.inl ⟨i,c,(V i _ hi).2⟩)
   ·rcases W l h b m hm with h1 | ⟨_, _, h1⟩
    ·exact hno (.inr ⟨l,h,m,h1⟩)
    ·exact hno (.inl ⟨j,m,h1⟩)
  ·obtain ⟨x, h1, d⟩ := I
   rcases H_old i x h1 with⟨_,rfl⟩|⟨rfl,rfl⟩|⟨U,u,N⟩
   ·cases d
   ·exact⟨⟨o,hid,by rw[<-hver]; exact d⟩,by simp only[]; rw[aQ hne]⟩
   ·exact⟨⟨x,N,d⟩,by simp only[]; rw[aQ (Ne.symm U)]⟩
  ·obtain ⟨g1, g2⟩ := E2 (r := E.X.r) (l0 := l0) (q := q) hh
   exact⟨g1,fun y O=>by
    have O:(dU E.X.r l0 q l)[h]? = some (some y):=O
    rwa [g2]at O⟩
 refine⟨⟨by simp[H.len],fun i k b m n hi hk=>H.inj i k b m n (V i _ hi).2 (V k _ hk).2,fun i b m hi=>H.lt i b m (V i _ hi).2,fun b hb=>H.X b hb,fun i x hi=>?_,H.fY.bE hle.toC,fun l h l' h' b m n h1 d=>?_,fun i b m l h n hi hk=>?_,fun l h b m hk=>?_,fun i k x y l hi hk h1 d=>?_,fun l hn h y O=>?_⟩,hle⟩
 ·rcases H_old i x hi with ⟨rfl, rfl⟩ | ⟨rfl, rfl⟩ | ⟨U, u, N⟩
  ·simp only [aI]
   rw[bf (by rw[H.len]; exact hltj)]
  ·exact ho hle
  ·refine lK (fun a _ hr => bg hle a hr) (by simp only []; rw [aQ (Ne.symm U)]) (fun _ _ _ => rfl) (fun l I => ?_) (H.obj i x N)
   have hne2:l≠l0:=fun e=>u (H.uniq i id x o l N hid I (by rw[hlab,e]));exact⟨if_neg hne2,fun _ _ _ _=>rfl⟩
 ·rcases W l h b m h1 with g1 | ⟨g1, g2, g3⟩ <;> rcases W l' h' b n d with M | ⟨M, k2, k3⟩
  ·exact H.ff _ _ _ _ _ _ _ g1 M
  ·exact(H.cQ _ _ _ _ _ _ k3 g1).elim
  ·exact(H.cQ _ _ _ _ _ _ g3 M).elim
  ·exact⟨by rw[g1,M],by rw[g2,k2,g1,M]⟩
 ·obtain ⟨g0, g1⟩ := V i _ hi
  rcases W l h b n hk with M|⟨M,k2,k3⟩
  ·exact H.cQ _ _ _ _ _ _ g1 M
  ·exact g0 (H.inj _ _ _ _ _ g1 k3)
 ·rcases W l h b m hk with M | ⟨M, k2, k3⟩
  ·exact H.cr _ _ _ _ M
  ·exact H.lt _ _ _ k3
 ·have key:∀ (i:Nat) x,((E.H.set id o').set j .dead)[i]? = some x->x.label=some l->∃ y,E.H[i]? = some y/\y.label=some l:=by
   intro i x hi I;rcases H_old i x hi with⟨_,rfl⟩|⟨rfl,rfl⟩|⟨U,u,N⟩
   ·cases I
   ·exact⟨o,hid,by rw[hlab,<-hlab',I]⟩
   ·exact⟨x,N,I⟩
  obtain⟨x',a1,a2⟩:=key i x hi h1;obtain⟨y',b1,b2⟩:=key k y hk d;exact H.uniq i k x' y' l a1 b1 a2 b2
 ·have hne2 : l ≠ l0 := fun e => hn id o' hid' (by rw [hlab', e])
  have O:(dU E.X.r l0 q l)[h]? = some (some y):=O;unfold dU at O;rw[if_neg hne2]at O;refine H.gR l (fun i x hi I=>?_) h y O;by_cases e:i=id
  ·subst e
   rw[hid]at hi;cases hi;exact hne2 (by rw[hlab]at I; cases I; rfl)
  ·by_cases U : i = j
   ·subst U
    rw[hj]at hi;cases hi;rw[hlj]at I;cases I
   ·exact hn i x (by show ((E.H.set id o').set j .dead)[i]? = _; rw[aQ (Ne.symm U),aQ (Ne.symm e)]; exact hi) I
theorem al.A1{E:Env}(H:al E){id l0 h0:Nat}{o o' ov:ab}{q:Option (Nat × Nat)}(hid:E.H[id]? = some o)(hlab:o.label=some l0)(U:o'.label=some l0)(hver:o'.aF = o.aF)(hlv:ov.label=none) (O:∀ b m,q=some (b,m)->(E.X.r l0)[h0]? = some (some (some (b,m))))
  (ho:E.le { w:=E.w,H:=E.H.set id o'++[ov],loc:=E.loc++[q],X:=E.X.re (gn E.X.r l0 h0) }->aI { w:=E.w,H:=E.H.set id o'++[ov],loc:=E.loc++[q],X:=E.X.re (gn E.X.r l0 h0) } id o'/\aI { w:=E.w,H:=E.H.set id o'++[ov],loc:=E.loc++[q],X:=E.X.re (gn E.X.r l0 h0) } E.H.length ov)
  (hmm:o.dc=none:=by first|rfl|assumption) :
  al { w:=E.w,H:=E.H.set id o'++[ov],loc:=E.loc++[q],X:=E.X.re (gn E.X.r l0 h0) }/\E.le { w:=E.w,H:=E.H.set id o'++[ov],loc:=E.loc++[q],X:=E.X.re (gn E.X.r l0 h0) }:=by
 have W:=aG hid;have N:∀(i:Nat) x,(E.loc++[q])[i]? = some x->E.loc[i]? = some x\/(i=E.loc.length/\x=q):=fun i x hi=>by
  rw[fE]at hi;split at hi
  ·exact .inl hi
  ·right
   cases hk:i-E.loc.length with
   |zero=>rw[hk]at hi; simp at hi; exact⟨by omega,hi.symm⟩
   |succ n=>rw[hk]at hi; simp at hi
 have V:∀(i:Nat) x,(E.H.set id o'++[ov])[i]? = some x->(i=E.H.length/\x=ov)\/(i=id/\x=o')\/(i≠id/\E.H[i]? = some x):=fun i x hi=>by
  rw[fE]at hi;split at hi
  ·by_cases d : i = id
   ·subst d
    rw[bf W]at hi;cases hi;exact .inr (.inl ⟨rfl,rfl⟩)
   ·rw [aQ (Ne.symm d)] at hi
    exact .inr (.inr ⟨d,hi⟩)
  ·left
   cases hk:i-(E.H.set id o').length with
   |zero=>rw[hk]at hi; simp at hi; simp at hk; rename_i h1; simp at h1; exact⟨by omega,hi.symm⟩
   |succ n=>rw[hk]at hi; simp at hi
 have hid':(E.H.set id o'++[ov])[id]? = some o':=by
  rw[cK (by simp; exact W),bf W]
 have I:∀(l h:Nat) y,(gn E.X.r l0 h0 l)[h]? = some (some y)->(E.X.r l)[h]? = some (some y)/\¬ (l=l0/\h=h0):=fun l h y hk=>XR hk;have hle:E.le { w:=E.w,H:=E.H.set id o'++[ov],loc:=E.loc++[q],X:=E.X.re (gn E.X.r l0 h0) }:=by
  refine⟨fun i ver hp=>?_,aB _,fun _ _ _=>rfl,fun b hb hno=>?_,fun i ver hp u=>?_,⟨rfl,rfl⟩,fun l h hh=>?_,.refl _,fun i l x h1 g hv=>?_⟩
  rotate_right
  ·by_cases d : i = id
   ·subst d
    rw[hid]at h1;cases h1;rw[hmm]at g;cases g
   ·have e3 : l ≠ l0 := fun e3 => d (H.uniq i id x o l h1 hid (ab.mz g) (by rw [e3]; exact hlab))
    exact⟨⟨[],by rw[cB]; exact if_neg e3⟩,x,by simp only[]; rw[cK (by rw[ib]; exact aG h1),aQ (Ne.symm d)]; exact h1,g⟩
  ·obtain ⟨x, h1, g⟩ := hp
   by_cases d:i=id
   ·subst d
    rw[hid]at h1;cases h1;exact⟨o',hid',ab.Av U,fun v hv=>g.2 v (by rw[<-hver]; exact hv)⟩
   ·exact⟨x,by simp only[]; rw[cK (by simp; exact aG h1),aQ (Ne.symm d)]; exact h1,g⟩
  ·rintro (⟨i, c, hi⟩ | ⟨l, h, m, hm⟩)
   ·rcases N i _ hi with h1 | ⟨_, h1⟩
    ·exact hno (.inl ⟨i,c,h1⟩)
    ·exact hno (.inr ⟨l0,h0,c,O b c h1.symm⟩)
   ·exact hno (.inr ⟨l,h,m,(I l h _ hm).1⟩)
  ·obtain ⟨x0, g1, _⟩ := hp
   have hii:=aG g1;obtain⟨x,h1,g⟩:=u;have hloc:(E.loc++[q])[i]? = E.loc[i]? := cK (by rw[H.len]; exact hii);rcases V i x h1 with⟨e,rfl⟩|⟨rfl,rfl⟩|⟨d,M⟩
   ·omega
   ·exact⟨⟨o,hid,by rw[<-hver]; exact g⟩,hloc⟩
   ·exact⟨⟨x,M,g⟩,hloc⟩
  ·refine ⟨?_, fun y hy => (I l h y hy).1⟩
   show h<(gn E.X.r l0 h0 l).length
   rw[XT];exact hh
 refine⟨⟨by simp[H.len],fun i k b m n hi hk=>?_,fun i b m hi=>?_,fun b hb=>H.X b hb,fun i x hi=>?_,H.fY.bE hle.toC,fun l h l' h' b m n h1 g=>H.ff _ _ _ _ _ _ _ (I l h _ h1).1 (I l' h' _ g).1,fun i b m l h n hi hk=>?_,fun l h b m hk=>H.cr _ _ _ _ (I l h _ hk).1,fun i k x y l hi hk h1 g=>?_,fun l hn h y hy=>?_⟩,hle⟩
 ·rcases N i _ hi with g1 | ⟨g1, g2⟩ <;> rcases N k _ hk with k1 | ⟨k1, k2⟩
  ·exact H.inj _ _ _ _ _ g1 k1
  ·exact(H.cQ _ _ _ _ _ _ g1 (O b n k2.symm)).elim
  ·exact(H.cQ _ _ _ _ _ _ k1 (O b m g2.symm)).elim
  ·omega
 ·rcases N i _ hi with g1 | ⟨g1, g2⟩
  ·exact H.lt _ _ _ g1
  ·exact H.cr _ _ _ _ (O b m g2.symm)
 ·rcases V i x hi with ⟨rfl, rfl⟩ | ⟨rfl, rfl⟩ | ⟨d, M⟩
  ·exact(ho hle).2
  ·exact(ho hle).1
  ·refine lK (fun a _ hr => bg hle a hr) (by simp only []; rw [cK (by rw [H.len]; exact aG M)]) (fun _ _ _ => rfl) (fun l u => ?_) (H.obj i x M)
   have hne2:l≠l0:=fun e=>d (H.uniq i id x o l M hid u (by rw[hlab,e]));exact⟨if_neg hne2,fun _ _ _ _=>rfl⟩
 ·obtain ⟨r1, r2⟩ := I l h _ hk
  rcases N i _ hi with g1|⟨g1,g2⟩
  ·exact H.cQ _ _ _ _ _ _ g1 r1
  ·exact r2 (H.ff _ _ _ _ _ _ _ r1 (O b m g2.symm))
 ·have key:∀ (i:Nat) x,(E.H.set id o'++[ov])[i]? = some x->x.label=some l->∃ y,E.H[i]? = some y/\y.label=some l:=by
   intro i x hi u;rcases V i x hi with⟨_,rfl⟩|⟨rfl,rfl⟩|⟨d,M⟩
   ·rw[hlv]at u; cases u
   ·exact⟨o,hid,by rw[hlab,<-U,u]⟩
   ·exact⟨x,M,u⟩
  obtain⟨x',a1,a2⟩:=key i x hi h1;obtain⟨y',b1,b2⟩:=key k y hk g;exact H.uniq i k x' y' l a1 b1 a2 b2
 ·refine H.gR l (fun i x hi u => ?_) h y (I l h y hy).1
  by_cases e:i=id
  ·subst e
   rw[hid]at hi;cases hi;exact hn i o' hid' (by rw[U,<-hlab,u])
  ·exact hn i x (by show (E.H.set id o'++[ov])[i]? = _; rw[cK (by simp; exact aG hi),aQ (Ne.symm e)]; exact hi) u
theorem al.E3{E:Env}(H:al E){id l0:Nat}{o o':ab}(hid:E.H[id]? = some o)(hlab:o.label=some l0)(hlab':o'.label=none)(O:o'.aF = o.aF)
  (ho:E.le { w:=E.w,H:=E.H.set id o',loc:=E.loc,X:=E.X.re (gT E.X.r l0) }->aI { w:=E.w,H:=E.H.set id o',loc:=E.loc,X:=E.X.re (gT E.X.r l0) } id o')
  (hmm:o.dc=none:=by first|rfl|assumption) (hborn:o'.born=true:=by first|rfl|assumption) :
  al { w:=E.w,H:=E.H.set id o',loc:=E.loc,X:=E.X.re (gT E.X.r l0) }/\E.le { w:=E.w,H:=E.H.set id o',loc:=E.loc,X:=E.X.re (gT E.X.r l0) }:=by
 have U:=aG hid;have I:∀(i:Nat) x,(E.H.set id o')[i]? = some x->(i=id/\x=o')\/(i≠id/\E.H[i]? = some x):=fun i x hi=>by
  by_cases g:i=id
  ·subst g
   rw[bf U]at hi;cases hi;exact .inl ⟨rfl,rfl⟩
  ·rw [aQ (Ne.symm g)] at hi
   exact .inr ⟨g,hi⟩
 have hle:E.le { w:=E.w,H:=E.H.set id o',loc:=E.loc,X:=E.X.re (gT E.X.r l0) }:=by
  refine⟨fun i ver W=>?_,aB _,fun _ _ _=>rfl,fun b hb V=>?_,fun i ver W q=>?_,⟨rfl,rfl⟩,fun l h hh=>?_,.refl _,fun i l x h1 d hv=>?_⟩
  rotate_right
  ·by_cases g : i = id
   ·subst g
    rw[hid]at h1;cases h1;rw[hmm]at d;cases d
   ·have M : l ≠ l0 := fun M => g (H.uniq i id x o l h1 hid (ab.mz d) (by rw [M]; exact hlab))
    exact⟨⟨[],by rw[cB]; exact if_neg M⟩,x,by simp only[]; rw[aQ (Ne.symm g)]; exact h1,d⟩
  ·obtain ⟨x, h1, d⟩ := W
   by_cases g:i=id
   ·subst g
    rw[hid]at h1;cases h1;exact⟨o',by simp only[]; rw[bf U],hborn,fun v hv=>d.2 v (by rw[<-O]; exact hv)⟩
   ·exact⟨x,by simp only[]; rw[aQ (Ne.symm g)]; exact h1,d⟩
  ·rintro (⟨i, c, hi⟩ | ⟨l, h, m, hm⟩)
   ·exact V (.inl ⟨i,c,hi⟩)
   ·exact V (.inr ⟨l,h,m,(ja hm).1⟩)
  ·obtain ⟨x, h1, d⟩ := q
   rcases I i x h1 with⟨rfl,rfl⟩|⟨g,u⟩
   ·exact⟨⟨o,hid,by rw[<-O]; exact d⟩,rfl⟩
   ·exact⟨⟨x,u,d⟩,rfl⟩
  ·refine ⟨?_, fun y N => (ja N).1⟩
   show h<(gT E.X.r l0 l).length
   rw[Mr];exact hh
 refine⟨⟨by simp[H.len],H.inj,H.lt,H.X,fun i x hi=>?_,H.fY.bE hle.toC,fun l h l' h' b m n h1 d=>H.ff _ _ _ _ _ _ _ (ja h1).1 (ja d).1,fun i b m l h n hi hk=>H.cQ _ _ _ _ _ _ hi (ja hk).1,fun l h b m hk=>H.cr _ _ _ _ (ja hk).1,fun i k x y l hi hk h1 d=>?_,fun l hn h y N=>?_⟩,hle⟩
 ·rcases I i x hi with ⟨rfl, rfl⟩ | ⟨g, u⟩
  ·exact ho hle
  ·refine lK (fun a _ hr => bg hle a hr) rfl (fun _ _ _ => rfl) (fun l q => ?_) (H.obj i x u)
   have hne2:l≠l0:=fun e=>g (H.uniq i id x o l u hid q (by rw[hlab,e]));exact⟨if_neg hne2,fun _ _ _ _=>rfl⟩
 ·have key:∀ (i:Nat) x,(E.H.set id o')[i]? = some x->x.label=some l->E.H[i]? = some x:=by
   intro i x hi q;rcases I i x hi with⟨rfl,rfl⟩|⟨g,u⟩
   ·rw[hlab']at q; cases q
   ·exact u
  exact H.uniq i k x y l (key i x hi h1) (key k y hk d) h1 d
 ·obtain ⟨g1, g2⟩ := ja N
  refine H.gR l (fun i x hi q=>?_) h y g1;by_cases e:i=id
  ·subst e
   rw[hid]at hi;cases hi;exact g2 (by rw[hlab]at q; cases q; rfl)
  ·exact hn i x (by show (E.H.set id o')[i]? = _; rw[aQ (Ne.symm e)]; exact hi) q
theorem A2{E:Env}(HE:al E){id l w cl:Nat}{es:List (AV × Option (List (List AV)) × Nat)}{c:Value}(hid:E.H[id]? = some (.aJ l w es cl))(hr:rel E (.map id) c) :
  ∃ b n ms,c=.map (some b)/\E.loc[id]? = some (some (b,n))/\E.w.heap[b]? = some (.map ms cl)/\bt E (cL es) ms.toList/\jP E l w es ms.toList:=by
 have ho:=HE.obj id _ hid;simp only[aI]at ho;obtain⟨b,n,ms,h1,d,g,k⟩:=ho;simp only[rel]at hr;obtain⟨_,_,q⟩:=hr;obtain⟨u,v,g1,g2⟩:=q ⟨_,hid,rfl⟩;rw[h1]at g1;simp only[aM,aU]at g1;obtain⟨rfl,rfl⟩:=g1;exact⟨b,n,ms,g2,h1,d,g,k⟩
theorem E4{P:Program}{d:TypeId}{k:AV}{g:List Value}(h:gS P d k=some g):gj k=(k,.undef):=by
 unfold gS at h;split at h
 ·cases h
 ·split at h
  ·rfl
  ·rfl
  ·cases h
theorem xf{es:List (AV × Option (List (List AV)) × Nat)}{i:Nat}{x:AV × Option (List (List AV)) × Nat}(h:es[i]? = some x):(cL es)[i]? = some ((gj x.1).1,(gj x.1).2,x.2.2):=by
 unfold cL;rw[bB,h];rfl
def A3(P:Program)(t:TypeId):Option Nat:=match cD P t with
 |.slice _ w _=>some w
 |_=>none
def pM (es:List (AV × Option (List (List AV)) × Nat)) (i:Nat):Option (AV × List (List AV) × Nat):=match es[i]? with
 |some (key,some rows,n)=>some (key,rows,n)
 |_=>none
def rB(P:Program)(t:TypeId)(m k:AV)(H:List ab):Option (AV × List ab) :=
 match c6 P t,m with
 | some (d,g),.map id=>match H[id]? with
  | some (.aJ l w es cl)=>match gS P d k,A3 P g,im P g with
   | some q,some w',some (.lit (.slice none 0 0))=>match ai w' w with
    | true=>match d_ P d q (cL es) 0 with
     | some (some (i,_))=>match pM es i with
      |some (key,rows,n)=>some (.vec w H.length 0 0 rows.length,H.set id (.aJ l w (es.set i (key,none,n)) cl)++[.vec w 0 rows])
      |none=>none
     |some none=>some (.vec w H.length 0 0 0,H.set id (.aJ l w es cl)++[.vec w 0 []])
     |none=>none
    |false=>none
   |_,_,_=>none
  |_=>none
 |_,_=>none
theorem XU{E:Env}{l w i:Nat}{es:List (AV × Option (List (List AV)) × Nat)}{ms:List MapEntry}{x:AV × Option (List (List AV)) × Nat}(v:x.2.1=none)(h:jP E l w es ms):jP E l w (es.set i x) ms:=by
 obtain⟨I,h1,M⟩:=h;have g:∀(j:Nat) y,(es.set i x)[j]? = some y->y.2.1.isSome=true->es[j]? = some y/\j≠i:=fun j y d k=>by
  rw[dv]at d;split at d
  ·split at d
   ·cases d
    rw[v]at k;cases k
   ·cases d
  ·rename_i u
   exact⟨d,Ne.symm u⟩
 refine⟨I,fun a b y z d N q sz he=>h1 a b y z (g a y d q).1 (g b z N sz).1 q sz he,fun a y rows e d hr he=>M a y rows e (g a y d (by rw[hr]; rfl)).1 hr he⟩
theorem E5{E:Env}{i:Nat}{es:List (AV × Option (List (List AV)) × Nat)}{ms:List MapEntry}{x y:AV × Option (List (List AV)) × Nat}(hi:es[i]? = some x)(h1:y.1=x.1)(d:y.2.2=x.2.2)(h:bt E (cL es) ms):bt E (cL (es.set i y)) ms:=by
 have e:cL (es.set i y)=cL es:=by
  apply iK;intro j;unfold cL;rw[bB,bB,dv];split
  ·rename_i e
   subst e;rw[if_pos (aG hi),hi];simp[h1,d]
  ·rfl
 rw[e];exact h
theorem XV{P:Program}{E:Env}(HE:al E){t:TypeId}{m k v:AV}{c d:Value}{H':List ab}(h:rB P t m k E.H=some (v,H'))(hm:rel E m c)(hk:rel E k d) :
  ∃ u w',(kg t c d false).run P E.w=.ok u w'/\cM E v H' u w':=by
 unfold rB at h;split at h
 case h_2=>cases h
 rename_i kt et id ht;split at h
 case h_2=>cases h
 rename_i l w es cl hid;split at h
 case h_2=>cases h
 rename_i kv w' hkv hw' hz;split at h
 case h_2=>cases h
 rename_i hww;have hww:=ba hww;clear hw' hww;obtain⟨b,n,ms,rfl,h1,h2,h3,h4⟩:=A2 HE hid hm;have hkv':=il hkv hk;have hpk:=E4 hkv;have e1:(getObj b).run P E.w=.ok (.map ms cl) E.w:=by simp[getObj,gE,h2]
 have hlenH:E.H.length=E.loc.length:=HE.len.symm;split at h
 ·rename_i i v0 hf
  split at h
  case h_2=>cases h
  rename_i key rows bn hat;cases h;have hes:es[i]? = some (key,some rows,bn):=by
   unfold pM at hat;split at hat
   ·rename_i a1 a2 a3 he
    cases hat;exact he
   ·cases hat
  obtain⟨r',g1,g2⟩:=gH hkv' E.w h3 hf;cases r' with
  |none=>simp[cZ]at g2
  | some q =>
   simp only[cZ]at g2;obtain⟨q1,q2,_,e',q4,q5⟩:=g2;simp only[fF]at q4;have hval:q.2=e'.val:=q5.symm;obtain⟨W,k1,k2⟩:=h4;have hsl:=k2 i _ rows e' hes rfl q4;obtain⟨N,h0,z1,z2,z3⟩:∃(N:Option (Nat × Nat)) (h0:Nat),(∀ b m,N=some (b,m)->(E.X.r l)[h0]? = some (some (some (b,m)))) /\
     (∀ j y,es[j]? = some y->y.2.1.isSome=true->j≠i->∀ b m,(E.X.r l)[W j]? = some (some (some (b,m)))->W j≠h0) /\
     ((N=none/\rows=[]/\∃ base,e'.val=.slice base 0 0)\/∃ b m,N=some (b,m)/\e'.val=.slice (some ⟨b,0,none⟩) rows.length m/\isRow E.w b (m*w)/\rows.length<=m/\eD rows/\cy E w rows b 0):=by
    rcases hsl with⟨s1,s2⟩|⟨U,mm,s1,s2,s3,V,s5,s6⟩
    ·exact⟨none,(E.X.r l).length,fun _ _ e=>(by cases e),fun j y _ _ _ b m hb e=>(by rw[e]at hb; have:=aG hb; omega),.inl ⟨rfl,s1,s2⟩⟩
    ·exact⟨some (U,mm),W i,fun _ _ e=>(by cases e; exact s1),fun j y M hsy hne _ _ _ e=>hne (k1 j i _ _ M hes hsy rfl e),.inr ⟨U,mm,rfl,s2,s3,V,s5,s6⟩⟩
   obtain⟨r1,r2⟩:=al.A1 HE (id:=id) (l0:=l) (h0:=h0) (o':=.aJ l w (es.set i (key,none,bn)) cl) (ov:=.vec w 0 rows) (q:=N) hid rfl rfl rfl rfl z1 fun hle=>by
    refine⟨?_,?_⟩
    ·simp only [aI]
     refine⟨b,n,ms,?_,h2,?_,?_⟩
     ·rw [cK (aG h1)]
      exact h1
     ·exact fw (fun a _ hr=>bg hle a hr) (E5 hes rfl rfl h3)
     ·obtain ⟨_, k3, k4⟩ := XU (i := i) (x := (key, none, bn)) rfl (show jP E l w es ms.toList from ⟨W, k1, k2⟩)
      refine⟨W,fun a b' y z M hz sy sz he=>?_,fun a y rws e M hr he=>?_⟩
      all_goals
       have old:∀(j:Nat) y,(es.set i (key,none,bn))[j]? = some y->y.2.1.isSome=true->es[j]? = some y/\j≠i:=fun j y M hsm=>by
        rw[dv]at M;split at M
        ·split at M
         ·cases M
          cases hsm
         ·cases M
        ·rename_i hne
         exact⟨M,Ne.symm hne⟩
      ·exact k1 a b' y z (old a y M sy).1 (old b' z hz sz).1 sy sz he
      ·obtain ⟨o1, o2⟩ := old a y M (by rw [hr]; rfl)
       rcases k2 a y rws e o1 hr he with O|⟨U,mm,s1,s2,s3,V,s5,s6⟩
       ·exact .inl O
       ·refine .inr ⟨U, mm, ?_, s2, s3, V, s5, fO (fun a _ hr => bg hle a hr) rfl s6⟩
        have hne:=z2 a y o1 (by rw[hr]; rfl) o2 U mm s1;show (gn E.X.r l h0 l)[W a]? = _
        rw[A0 fun e=>hne e.2];exact s1
    ·simp only [aI]
     have O:(E.loc++[N])[E.H.length]? = some N:=by rw[hlenH]; simp
     rcases z3 with⟨rfl,s1,_⟩|⟨U,mm,rfl,_,s3,V,s5,s6⟩
     ·exact .inl ⟨O,s1⟩
     ·exact .inr ⟨U,mm,O,s3,V,s5,fO (fun a _ hr=>bg hle a hr) rfl s6⟩
   refine⟨q.2,E.w,?_,E.loc++[N],gn E.X.r l h0,?_,r1,r2⟩
   ·simp only [kg, bS, Sem.bk (fG ht), bT, e1, ft, fZ hkv', g1]
    rfl
   ·have hnew:(E.H.set id (.aJ l w (es.set i (key,none,bn)) cl)++[.vec w 0 rows])[E.H.length]? = some (.vec w 0 rows):=by
     rw[iJ (by simp)];simp
    have O:(E.loc++[N])[E.H.length]? = some N:=by rw[hlenH]; simp
    rw[hval];simp only[rel];rcases z3 with⟨rfl,s1,base,s2⟩|⟨U,mm,rfl,s2,s3,V,s5,s6⟩
    ·subst s1
     refine⟨⟨base,0,by rw[s2]; rfl,aB _,fun h=>by simp at h⟩,⟨_,hnew,rfl,fun v hv=>by cases hv; exact aB _⟩,fun _=>⟨fun _=>⟨by first|rfl|trivial,by first|rfl|trivial,base,s2⟩,fun b' m' I=>?_⟩⟩;rw[O]at I;cases I
    ·refine ⟨⟨_, mm, s2, V, fun _ => ⟨U, 0, rfl⟩⟩, ⟨_, hnew, rfl, fun v hv => by cases hv; exact aB _⟩, fun _ => ⟨fun I => ?_, fun b' m' I => ?_⟩⟩
     ·rw [O] at I
      cases I
     ·rw [O] at I
      cases I;exact⟨by omega,0,fun _=>by simp,by rw[s2,fF]⟩
 ·rename_i hf
  cases h;obtain⟨r',g1,g2⟩:=gH hkv' E.w h3 hf;cases r' with
  |some _=>simp[cZ]at g2
  | none =>
   obtain⟨zv,z1,z2⟩:=ry hz E.w;have hzv:zv=.slice none 0 0:=by have:=z2 E; simpa[rel]using this
   obtain⟨r1,r2⟩:=al.A1 HE (id:=id) (l0:=l) (h0:=(E.X.r l).length) (o':=.aJ l w es cl) (ov:=.vec w 0 []) (q:=none) hid rfl rfl rfl rfl (fun _ _ e=>by cases e) fun hle=>by
    refine⟨?_,?_⟩
    ·simp only [aI]
     refine⟨b,n,ms,?_,h2,fw (fun a _ hr=>bg hle a hr) h3,wT (E:=E) (fun h g m hk=>⟨?_,rfl⟩) (fun _ _ _ _ _ b' I _ hr=>fO (fun a _ hr=>bg hle a hr) I hr) h4⟩
     ·rw [cK (aG h1)]
      exact h1
     ·show (gn E.X.r l (E.X.r l).length l)[h]? = _
      rw[A0 fun e=>by rw[e.2]at hk; have:=aG hk; omega];exact hk
    ·simp only [aI]
     exact .inl ⟨by rw[hlenH]; simp,by first|rfl|trivial⟩
   refine⟨zv,E.w,?_,E.loc++[none],gn E.X.r l (E.X.r l).length,?_,r1,r2⟩
   ·simp only [kg, bS, Sem.bk (fG ht), bT, e1, ft, fZ hkv', g1, z1]
    rfl
   ·have hnew:(E.H.set id (.aJ l w es cl)++[.vec w 0 []])[E.H.length]? = some (.vec w 0 []):=by
     rw[iJ (by simp)];simp
    have O:(E.loc++[(none:Option (Nat × Nat))])[E.H.length]? = some none:=by rw[hlenH]; simp
    rw[hzv];simp only[rel];refine⟨⟨none,0,rfl,aB _,fun h=>by simp at h⟩,⟨_,hnew,rfl,fun v hv=>by cases hv; exact aB _⟩,fun _=>⟨fun _=>⟨by first|rfl|trivial,by first|rfl|trivial,none,rfl⟩,fun b' m' I=>?_⟩⟩;rw[O]at I;cases I
 ·cases h
theorem E6{es:List (AV × Option (List (List AV)) × Nat)}{i:Nat}{x:AV × Option (List (List AV)) × Nat}{f:AV × Option (List (List AV)) × Nat->AV × Option (List (List AV)) × Nat}(h:es[i]? = some x):es.modify i f=es.set i (f x):=by
 apply iK;intro j;rw[gF,dv];by_cases e:i=j
 ·subst e
  rw[if_pos rfl,if_pos (aG h),h];simp
 ·rw [if_neg e]
  simp[e]
def oF(P:Program)(t:TypeId)(m k v:AV)(H:List ab):Option (List ab) :=
 match c6 P t,m,v with
 | some (d,_),.map id,.vec w j ver off n=>match H[id]?,H[j]? with
  | some (.aJ l w' es cl),some (.vec q g rows)=>match gS P d k with
   | some u=>if (w=w'/\w=q)/\(ver=g/\off=0)/\n=rows.length/\k.closed=true then
     match d_ P d u (cL es) 0 with
     |some (some (i,_))=>some ((H.set id (.aJ l w' (es.modify i fun e=>(k,some rows,e.2.2)) cl)).set j .dead)
     |some none=>some ((H.set id (.aJ l w' (es++[(k,some rows,cl)]) (cl+1))).set j .dead)
     |none=>none
    else none
   |none=>none
  |_,_=>none
 |_,_,_=>none
theorem xg{P:Program}{E:Env}(HE:al E){id l w b n cl cl':Nat}{es es':List (AV × Option (List (List AV)) × Nat)}{ms ms':Array MapEntry}(hid:E.H[id]? = some (.aJ l w es cl)) (d:E.loc[id]? = some (some (b,n)))
  (hb:E.w.heap[b]? = some (.map ms cl)) (hr:bt E (cL es') ms'.toList) (u:jP E l w es' ms'.toList) :
  ∃ w',(setObj b (.map ms' cl')).run P E.w=.ok () w'/\al { w:=w',H:=E.H.set id (.aJ l w es' cl'),loc:=E.loc,X:=E.X }/\E.le { w:=w',H:=E.H.set id (.aJ l w es' cl'),loc:=E.loc,X:=E.X } /\
   w'.heap[b]? = some (.map ms' cl')/\∀ y,y≠b->w'.heap[y]? = E.w.heap[y]? := by
 have q:=(HE.lt id b n d).1;have v:({ E.w with heap:=E.w.heap.setIfInBounds b (.map ms' cl') }:World).heap.size=E.w.heap.size:=by simp
 have k:∀ y,y≠b->({ E.w with heap:=E.w.heap.setIfInBounds b (.map ms' cl') }:World).heap[y]? = E.w.heap[y]? := by
  intro y N;simp only[zW];rw[if_neg (fun e=>N e.symm)]
 have key:=al.tz (E:=E) (w':={ E.w with heap:=E.w.heap.setIfInBounds b (.map ms' cl') }) (o':=.aJ l w es' cl') (r':=E.X.r) HE hid rfl rfl rfl (by rw[v]; exact aB _) (fun x _ I _=>k x fun e=>I n (by rw[e]; exact d)) (fun _ _=>rfl) (fun _ _ _ h=>.inl h) (fun h O=>⟨O,fun _ U=>U⟩) (fun hle=>by
  simp only[aI];refine⟨b,n,ms',d,by simp[q],fw (fun a _ hr=>bg hle a hr) hr,wT (E:=E) (fun h g m hk=>⟨hk,k g fun e=>HE.cQ _ _ _ _ _ _ d (by rw[<-e]; exact hk)⟩) (fun _ _ _ _ _ V M _ hr=>fO (fun a _ hr=>bg hle a hr) M hr) u⟩) ⟨rfl,rfl,rfl,by first|exact fun _=>aB _|exact fun _=>fV _ _⟩
 rw[XS.El]at key;exact⟨_,by simp[setObj,gE,hb],key.1,key.2,by simp[q],k⟩
theorem E7{E:Env}(HE:al E){id j l w cl i ver:Nat}{es:List (AV × Option (List (List AV)) × Nat)}{rows:List (List AV)}{key:AV}{bn b n:Nat}{ms:Array MapEntry}{e:MapEntry}(hid:E.H[id]? = some (.aJ l w es cl))(v:E.H[j]? = some (.vec w ver rows))
  (hi:es[i]? = some (key,none,bn)) (hloc:E.loc[id]? = some (some (b,n))) (hb:E.w.heap[b]? = some (.map ms cl)) (he:ms.toList[i]? = some e) (hr:bt E (cL es) ms.toList) (hsl:jP E l w es ms.toList) (hv:rel E (.vec w j ver 0 rows.length) e.val) :
  ∃ loc' r',al { w:=E.w,H:=(E.H.set id (.aJ l w (es.set i (key,some rows,bn)) cl)).set j .dead,loc:=loc',X:=E.X.re r' }/\E.le { w:=E.w,H:=(E.H.set id (.aJ l w (es.set i (key,some rows,bn)) cl)).set j .dead,loc:=loc',X:=E.X.re r' }:=by
 have N:j≠id:=fun e=>by rw[e,hid]at v; cases v
 have O:=HE.obj j _ v;simp only[rel]at hv;obtain⟨_,_,v3⟩:=hv;obtain⟨v4,v5⟩:=v3 ⟨_,v,rfl⟩;simp only[aI]at O;obtain⟨q,hq⟩:∃ q,E.loc[j]? = some q:=by
  rcases O with⟨h1,_⟩|⟨V,m',h1,_⟩
  ·exact⟨_,h1⟩
  ·exact⟨_,h1⟩
 obtain⟨M,k1,k2⟩:=hsl;have htl:∀ h,h<(E.X.r l).length->(dU E.X.r l q l)[h]? = (E.X.r l)[h]? := fun h d=>(E2 d).2;have hnew:(dU E.X.r l q l)[(E.X.r l).length]? = some (some q):=by
  unfold dU;rw[if_pos rfl];simp
 obtain⟨r1,r2⟩:=al.attach HE (id:=id) (j:=j) (o':=.aJ l w (es.set i (key,some rows,bn)) cl) (q:=q) hid rfl rfl rfl v rfl hq fun hle=>by
  simp only[aI];refine⟨b,n,ms,?_,hb,fw (fun a _ hr=>bg hle a hr) (E5 hi rfl rfl hr),?_⟩
  ·rw [aQ N]
   exact hloc
  ·-- handles: the I ones, but at i the new one; empty ones take none
   have I:∀(a:Nat) y,(es.set i (key,some rows,bn))[a]? = some y->a≠i->es[a]? = some y:=fun a y g N=>by
    rwa [aQ (Ne.symm N)]at g
   have at_i:∀ y,(es.set i (key,some rows,bn))[i]? = some y->y=(key,some rows,bn):=fun y g=>by
    rw[bf (aG hi)]at g;cases g;rfl
   refine⟨fun a=>if a=i then (E.X.r l).length else if M a<(E.X.r l).length then M a else (E.X.r l).length+1+M a,fun a c y z g hz sy sz d=>?_,fun a y rws e' g hr' U=>?_⟩
   ·by_cases k : a = i
    ·by_cases u : c = i
     ·rw[k,u]
     ·simp only [if_pos k, if_neg u] at d
      split at d<;>omega
    ·by_cases u : c = i
     ·simp only [if_neg k, if_pos u] at d
      split at d<;>omega
     ·simp only [if_neg k, if_neg u] at d
      refine k1 a c y z (I a y g k) (I c z hz u) sy sz ?_;split at d<;>split at d<;>omega
   ·by_cases k : a = i
    ·subst k
     have:=at_i y g;subst this;cases hr';rw[he]at U;cases U;rcases O with⟨h1,W⟩|⟨V,m',h1,W,h3,h4,h5⟩
     ·obtain ⟨_, _, base, h3⟩ := v4 h1
      subst W;exact .inl ⟨rfl,base,h3⟩
     ·obtain ⟨h6, o, h7, h8⟩ := v5 V m' h1
      rw[hq]at h1;cases h1;simp only[cn,po,fF]at h6 h7 h8;by_cases hm:0<m'
      ·have := h7 hm
       subst this;refine .inr ⟨V,m',?_,h8,W,h3,h4,fO (fun a _ hr=>bg hle a hr) rfl h5⟩;simp only[if_true];exact hnew
      ·have hr0 : rows = [] := ta (by omega)
       have hm0:m'=0:=by omega
       subst hr0;subst hm0;exact .inl ⟨rfl,_,h8⟩
    ·rcases k2 a y rws e' (I a y g k) hr' U with hl | ⟨bb, mm, s1, s2, s3, s4, s5, s6⟩
     ·exact .inl hl
     ·refine .inr ⟨bb, mm, ?_, s2, s3, s4, s5, fO (fun a _ hr => bg hle a hr) rfl s6⟩
      have d:=aG s1;simp only[if_neg k,if_pos d];show (dU E.X.r l q l)[M a]? = _
      rw[htl _ d];exact s1
 exact⟨_,_,r1,r2⟩
theorem XW{P:Program}{E:Env}(HE:al E){t:TypeId}{m k v:AV}{c d u:Value}{H':List ab}(h:oF P t m k v E.H=some H')(hm:rel E m c)(hk:rel E k d)(hv:rel E v u) :
  ∃ w',(lG t c d u).run P E.w=.ok () w'/\∀ x,cM E .undef H' x w':=by
 unfold oF at h;split at h
 case h_2=>cases h
 rename_i kt et id w j ver off n ht;split at h
 case h_2=>cases h
 rename_i l w' es cl w2 ver' rows hid hj;split at h
 case h_2=>cases h
 rename_i kv hkv;split at h
 case isFalse=>cases h
 rename_i hc;obtain⟨⟨rfl,rfl⟩,⟨rfl,rfl⟩,rfl,hcl⟩:=hc;obtain⟨b,n,ms,rfl,h1,h2,h3,h4⟩:=A2 HE hid hm;have hne:j≠id:=fun e=>by rw[e,hid]at hj; cases hj
 have V:=il hkv hk;have N:=E4 hkv;have e1:(getObj b).run P E.w=.ok (.map ms cl) E.w:=by simp[getObj,gE,h2]
 obtain⟨hlen,hall⟩:=dT.1 h3;rw[Ep]at hlen;split at h
 ·rename_i i v0 hf
  cases h;obtain⟨r',g1,g2⟩:=gH V E.w h3 hf;cases r' with
  |none=>simp[cZ]at g2
  | some q =>
   simp only[cZ]at g2;obtain⟨q1,q2,_,e',U,q5⟩:=g2;obtain⟨_,x,y,f1,f2,f3⟩:=tT hf;simp only[fF]at U f1;obtain⟨a1,a2,a3,a4,a5⟩:=hall i x e' f1 U;obtain⟨s1,s2⟩:=xa V (il f2 a1) f3;have q4':ms[i]? = some e':=by simpa using U
   have hlt:i<es.length:=by have:=aG U; omega
   obtain⟨M,hx0⟩:∃ M,es[i]? = some M:=⟨es[i],bx hlt⟩
   have hx:x=((gj M.1).1,(gj M.1).2,M.2.2):=by rw[xf hx0]at f1; cases f1; rfl
   have hkk:(k,(none:Option (List (List AV))),M.2.2)=(k,none,M.2.2):=rfl;have hre:bt E (cL (es.set i (k,none,M.2.2))) (ms.modify i fun e=>{ e with key:=d,val:=u }).toList:=by
    rw[dT];refine⟨by simp[cL,hlen],fun a y z g I=>?_⟩;simp only[jL,gF]at I;obtain⟨z0,hz0,rfl⟩:=dI.1 I;unfold cL at g;rw[bB,dv]at g;by_cases e:i=a
    ·subst e
     rw[if_pos rfl,if_pos hlt]at g;cases g;rw[U]at hz0;cases hz0;simp only[if_true];refine⟨by simpa[N]using hk,by simp[N,rel],?_,by simpa[N]using hcl,by simp[N,AV.closed]⟩;rw[a3,hx]
    ·rw [if_neg e] at g
     obtain⟨b1,b2,b3,b4,b5⟩:=hall a y z0 (by unfold cL; rw[bB]; exact g) hz0;simp only[if_neg e];exact⟨b1,b2,b3,b4,b5⟩
   have hsl2:jP E l w (es.set i (k,none,M.2.2)) (ms.modify i fun e=>{ e with key:=d,val:=u }).toList:=by
    obtain⟨hs,k1,k2⟩:=h4;have O:∀(a:Nat) y,(es.set i (k,none,M.2.2))[a]? = some y->y.2.1.isSome=true->es[a]? = some y/\a≠i:=fun a y g hsm=>by
     by_cases ei:i=a
     ·subst ei
      rw[bf hlt]at g;cases g;cases hsm
     ·rw [aQ ei] at g
      exact⟨g,Ne.symm ei⟩
    refine⟨hs,fun a c y z g I sy sz he=>k1 a c y z (O a y g sy).1 (O c z I sz).1 sy sz he,fun a y rws e g hr he=>?_⟩;obtain⟨o1,o2⟩:=O a y g (by rw[hr]; rfl);simp only[jL,gF]at he;obtain⟨z0,hz0,rfl⟩:=dI.1 he;rw[if_neg (Ne.symm o2)];exact k2 a y rws z0 o1 hr hz0
   obtain⟨w',p1,p2,p3,p4,p5⟩:=xg (P:=P) HE (cl':=cl) hid h1 h2 hre hsl2;have hst:(pt e'.key d).run P E.w=.ok d E.w:=by simp[pt,s2]
   have hrun:(lG t (.map (some b)) d u).run P E.w=.ok () w':=by
    subst q1;simp only[lG,bS,Sem.bk (fG ht),bT,e1,fZ V,g1,q4',dS,np,hst];exact p1
   have W:({ w:=w',H:=E.H.set id (.aJ l w (es.set i (k,none,M.2.2)) cl),loc:=E.loc,X:=E.X }:Env).H[id]? = some (.aJ l w (es.set i (k,none,M.2.2)) cl):=by
    simp only[];rw[bf (aG hid)]
   have hjE:({ w:=w',H:=E.H.set id (.aJ l w (es.set i (k,none,M.2.2)) cl),loc:=E.loc,X:=E.X }:Env).H[j]? = some (.vec w ver rows):=by
    simp only[];rw[aQ (Ne.symm hne)];exact hj
   have hobj:=p2.obj id _ W;simp only[aI]at hobj;obtain⟨b2,n2,ms2,o1,o2,o3,o4⟩:=hobj;rw[h1]at o1;simp only[aM,aU]at o1;obtain⟨rfl,rfl⟩:=o1;rw[p4]at o2;cases o2;obtain⟨loc',r',r1,r2⟩:=E7 p2 (i:=i) (key:=k) (bn:=M.2.2) (e:={ e' with key:=d,val:=u }) W hjE (by rw[bf hlt]) h1 p4 (by
    simp only[jL,gF,U];simp) o3 o4 (bg p3 _ hv)
   refine⟨w',hrun,fun xx=>⟨loc',r',by simp[rel],?_,p3.trans ?_⟩⟩
   ·simpa[kh,E6 hx0]using r1
   ·simpa[kh,E6 hx0]using r2
 ·rename_i hf
  cases h;obtain⟨r',g1,g2⟩:=gH V E.w h3 hf;cases r' with
  |some _=>simp[cZ]at g2
  | none =>
   have hml:ms.toList.length=es.length:=by omega
   have hre:bt E (cL (es++[(k,none,cl)])) (ms.push { key:=d,val:=u,born:=cl }).toList:=by
    rw[dT];refine⟨by simp[cL,hlen],fun a y z g I=>?_⟩;unfold cL at g;rw[eO]at g;simp only[mu,fE,bN]at g I;rw[hml]at I;by_cases e:a<es.length
    ·simp only [if_pos e] at g I
     exact hall a y z (by unfold cL; exact g) I
    ·simp only [if_neg e] at g I
     cases hj2:a-es.length with
     | zero =>
      rw[hj2]at g I;simp at g I;subst g; subst I;exact⟨by simpa[N]using hk,by simp[N,rel],rfl,by simpa[N]using hcl,by simp[N,AV.closed]⟩
     |succ _=>rw[hj2]at g; simp at g
   have hsl2:jP E l w (es++[(k,none,cl)]) (ms.push { key:=d,val:=u,born:=cl }).toList:=by
    obtain⟨hs,k1,k2⟩:=h4;have O:∀(a:Nat) y,(es++[(k,(none:Option (List (List AV))),cl)])[a]? = some y->y.2.1.isSome=true->es[a]? = some y/\a<es.length:=fun a y g hsm=>by
     rw[fE]at g;split at g
     ·rename_i hh
      exact⟨g,hh⟩
     ·cases hk2 : a - es.length with
      | zero =>
       rw[hk2]at g;simp at g;subst g;cases hsm
      |succ _=>rw[hk2]at g; simp at g
    refine⟨hs,fun a c y z g I sy sz he=>k1 a c y z (O a y g sy).1 (O c z I sz).1 sy sz he,fun a y rws e g hr he=>?_⟩;obtain⟨o1,o2⟩:=O a y g (by rw[hr]; rfl);simp only[mu]at he;rw[cK (by omega)]at he;exact k2 a y rws e o1 hr he
   obtain⟨w',p1,p2,p3,p4,p5⟩:=xg (P:=P) HE (cl':=cl+1) hid h1 h2 hre hsl2;have hrun:(lG t (.map (some b)) d u).run P E.w=.ok () w':=by
    simp only[lG,bS,Sem.bk (fG ht),bT,e1,fZ V,g1];exact p1
   have W:({ w:=w',H:=E.H.set id (.aJ l w (es++[(k,none,cl)]) (cl+1)),loc:=E.loc,X:=E.X }:Env).H[id]? = some (.aJ l w (es++[(k,none,cl)]) (cl+1)):=by
    simp only[];rw[bf (aG hid)]
   have hjE:({ w:=w',H:=E.H.set id (.aJ l w (es++[(k,none,cl)]) (cl+1)),loc:=E.loc,X:=E.X }:Env).H[j]? = some (.vec w ver rows):=by
    simp only[];rw[aQ (Ne.symm hne)];exact hj
   have hobj:=p2.obj id _ W;simp only[aI]at hobj;obtain⟨b2,n2,ms2,o1,o2,o3,o4⟩:=hobj;rw[h1]at o1;simp only[aM,aU]at o1;obtain⟨rfl,rfl⟩:=o1;rw[p4]at o2;cases o2;obtain⟨loc',r',r1,r2⟩:=E7 p2 (i:=es.length) (key:=k) (bn:=cl) (e:={ key:=d,val:=u,born:=cl }) W hjE (by simp) h1 p4 (by
    simp only[mu];rw[iJ (by omega)];simp[hml]) o3 o4 (bg p3 _ hv)
   have e2:(es++[(k,(none:Option (List (List AV))),cl)]).set es.length (k,some rows,cl)=es++[(k,some rows,cl)]:=by
    rw[Ww _ _ (aB _),lH];rfl
   refine⟨w',hrun,fun xx=>⟨loc',r',by simp[rel],?_,p3.trans ?_⟩⟩
   ·simpa[kh,e2]using r1
   ·simpa[kh,e2]using r2
 ·cases h
theorem al.xh{E:Env}(H:al E){id l0:Nat}{o o':ab}(hid:E.H[id]? = some o)(hlab:o.label=none)(N:o'.label=some l0)(O:o'.aF = o.aF)(M:∀(i:Nat) x,E.H[i]? = some x->x.label≠some l0)
  (ho:E.le { w:=E.w,H:=E.H.set id o',loc:=E.loc,X:=E.X }->aI { w:=E.w,H:=E.H.set id o',loc:=E.loc,X:=E.X } id o') :
  al { w:=E.w,H:=E.H.set id o',loc:=E.loc,X:=E.X }/\E.le { w:=E.w,H:=E.H.set id o',loc:=E.loc,X:=E.X }:=by
 have U:=aG hid;have I:∀(i:Nat) x,(E.H.set id o')[i]? = some x->(i=id/\x=o')\/(i≠id/\E.H[i]? = some x):=fun i x hi=>by
  by_cases g:i=id
  ·subst g
   rw[bf U]at hi;cases hi;exact .inl ⟨rfl,rfl⟩
  ·rw [aQ (Ne.symm g)] at hi
   exact .inr ⟨g,hi⟩
 have hle:E.le { w:=E.w,H:=E.H.set id o',loc:=E.loc,X:=E.X }:=by
  refine⟨fun i ver V=>?_,aB _,fun _ _ _=>rfl,fun b hb M=>M,fun i ver V q=>?_,⟨rfl,rfl⟩,fun l h hh=>⟨hh,fun _ hq=>hq⟩,.refl _,fun i l x h1 d W=>⟨⟨[],(cB _).symm⟩,?_⟩⟩
  rotate_right
  ·by_cases g : i = id
   ·subst g
    rw[hid]at h1;cases h1;rw[ab.Aw hlab]at d;cases d
   ·exact⟨x,by simp only[]; rw[aQ (Ne.symm g)]; exact h1,d⟩
  ·obtain ⟨x, h1, d⟩ := V
   by_cases g:i=id
   ·subst g
    rw[hid]at h1;cases h1;exact⟨o',by simp only[]; rw[bf U],ab.Av N,fun v W=>d.2 v (by rw[<-O]; exact W)⟩
   ·exact⟨x,by simp only[]; rw[aQ (Ne.symm g)]; exact h1,d⟩
  ·obtain ⟨x, h1, d⟩ := q
   rcases I i x h1 with⟨rfl,rfl⟩|⟨g,u⟩
   ·exact⟨⟨o,hid,by rw[<-O]; exact d⟩,rfl⟩
   ·exact⟨⟨x,u,d⟩,rfl⟩
 refine⟨⟨by simp[H.len],H.inj,H.lt,H.X,fun i x hi=>?_,H.fY.bE hle.toC,H.ff,H.cQ,H.cr,fun i k x y l hi hk h1 d=>?_,fun l hn h y hy=>?_⟩,hle⟩
 ·rcases I i x hi with ⟨rfl, rfl⟩ | ⟨g, u⟩
  ·exact ho hle
  ·exact lK (fun a _ hr=>bg hle a hr) rfl (fun _ _ _=>rfl) (fun l q=>⟨rfl,fun _ _ _ _=>rfl⟩) (H.obj i x u)
 ·rcases I i x hi with ⟨rfl, rfl⟩ | ⟨g, u⟩ <;> rcases I k y hk with ⟨rfl, rfl⟩ | ⟨e4, h5⟩
  ·rfl
  ·rw [N] at h1
   cases h1;exact(M k y h5 d).elim
  ·rw [N] at d
   cases d;exact(M i x u h1).elim
  ·exact H.uniq i k x y l u h5 h1 d
 ·refine H.gR l (fun i x hi q => ?_) h y hy
  by_cases e:i=id
  ·subst e
   rw[hid]at hi;cases hi;rw[hlab]at q;cases q
  ·exact hn i x (by show (E.H.set id o')[i]? = _; rw[aQ (Ne.symm e)]; exact hi) q
theorem XX{E:Env}(HE:al E){id l w cl:Nat}(hid:E.H[id]? = some (.map [] cl))(d:jQ E.H l=true) :
  al { w:=E.w,H:=E.H.set id (.aJ l w [] cl),loc:=E.loc,X:=E.X }/\E.le { w:=E.w,H:=E.H.set id (.aJ l w [] cl),loc:=E.loc,X:=E.X } :=
 al.xh HE hid rfl rfl rfl (oC d) fun hle=>by
  have ho:=HE.obj id _ hid;simp only[aI]at ho|-;obtain⟨b,n,ms,h1,g,k⟩:=ho;refine⟨b,n,ms,h1,g,fw (fun a _ hr=>bg hle a hr) k,fun _=>0,fun i j x y hi=>by simp at hi,fun i x rows e hi=>by simp at hi⟩
theorem XY{E:Env}(HE:al E){id l w cl:Nat}{g:List (AV × AV × Nat)}{es:List (AV × Option (List (List AV)) × Nat)}(hid:E.H[id]? = some (.map g cl))(he:cL es=g)(k:∀ x∈es,x.2.1=none)(q:jQ E.H l=true) :
  al { w:=E.w,H:=E.H.set id (.aJ l w es cl),loc:=E.loc,X:=E.X }/\E.le { w:=E.w,H:=E.H.set id (.aJ l w es cl),loc:=E.loc,X:=E.X } :=
 al.xh HE hid rfl rfl rfl (oC q) fun hle=>by
  have ho:=HE.obj id _ hid;simp only[aI]at ho|-;obtain⟨b,n,ms,h1,u,v⟩:=ho;refine⟨b,n,ms,h1,u,fw (fun a _ hr=>bg hle a hr) (by rw[he]; exact v),fun i=>i,fun i j x y hi I d=>?_,fun i x rows e hi d=>?_⟩
  ·rw [k x (dJ hi)] at d
   cases d
  ·rw [k x (dJ hi)] at d
   cases d
theorem XZ{E:Env}(HE:al E){id l w cl i:Nat}{es:List (AV × Option (List (List AV)) × Nat)}{key:AV}{rows:List (List AV)}{bn b n:Nat}{ms:Array MapEntry}{e':MapEntry}(hid:E.H[id]? = some (.aJ l w es cl))(hes:es[i]? = some (key,some rows,bn))
  (h1:E.loc[id]? = some (some (b,n))) (h2:E.w.heap[b]? = some (.map ms cl)) (h3:bt E (cL es) ms.toList) (h4:jP E l w es ms.toList) (q4:ms.toList[i]? = some e') :
  ∃ loc' r',al { w:=E.w,H:=E.H.set id (.aJ l w (es.set i (key,none,bn)) cl)++[.vec w 0 rows],loc:=loc',X:=E.X.re r' }/\E.le { w:=E.w,H:=E.H.set id (.aJ l w (es.set i (key,none,bn)) cl)++[.vec w 0 rows],loc:=loc',X:=E.X.re r' } /\
   rel { w:=E.w,H:=E.H.set id (.aJ l w (es.set i (key,none,bn)) cl)++[.vec w 0 rows],loc:=loc',X:=E.X.re r' } (.vec w E.H.length 0 0 rows.length) e'.val:=by
 have hlenH:E.H.length=E.loc.length:=HE.len.symm;obtain⟨W,k1,k2⟩:=h4;have hsl:=k2 i _ rows e' hes rfl q4;obtain⟨g,h0,z1,z2,z3⟩:∃(g:Option (Nat × Nat)) (h0:Nat),(∀ b m,g=some (b,m)->(E.X.r l)[h0]? = some (some (some (b,m)))) /\
   (∀ j y,es[j]? = some y->y.2.1.isSome=true->j≠i->∀ b m,(E.X.r l)[W j]? = some (some (some (b,m)))->W j≠h0) /\
   ((g=none/\rows=[]/\∃ base,e'.val=.slice base 0 0)\/∃ b m,g=some (b,m)/\e'.val=.slice (some ⟨b,0,none⟩) rows.length m/\isRow E.w b (m*w)/\rows.length<=m/\eD rows/\cy E w rows b 0):=by
  rcases hsl with⟨s1,s2⟩|⟨k,mm,s1,s2,N,M,O,U⟩
  ·exact⟨none,(E.X.r l).length,fun _ _ e=>(by cases e),fun j y _ _ _ b m hb e=>(by rw[e]at hb; have:=aG hb; omega),.inl ⟨rfl,s1,s2⟩⟩
  ·exact⟨some (k,mm),W i,fun _ _ e=>(by cases e; exact s1),fun j y d hsy V _ _ _ e=>V (k1 j i _ _ d hes hsy rfl e),.inr ⟨k,mm,rfl,s2,N,M,O,U⟩⟩
 obtain⟨r1,r2⟩:=al.A1 HE (id:=id) (l0:=l) (h0:=h0) (o':=.aJ l w (es.set i (key,none,bn)) cl) (ov:=.vec w 0 rows) (q:=g) hid rfl rfl rfl rfl z1 fun hle=>by
  refine⟨?_,?_⟩
  ·simp only [aI]
   refine⟨b,n,ms,?_,h2,?_,?_⟩
   ·rw [cK (aG h1)]
    exact h1
   ·exact fw (fun a _ hr=>bg hle a hr) (E5 hes rfl rfl h3)
   ·refine ⟨W, fun a b' y z d hz sy sz he => ?_, fun a y rws e d hr he => ?_⟩
    all_goals
     have old:∀(j:Nat) y,(es.set i (key,none,bn))[j]? = some y->y.2.1.isSome=true->es[j]? = some y/\j≠i:=fun j y d hsm=>by
      rw[dv]at d;split at d
      ·split at d
       ·cases d
        cases hsm
       ·cases d
      ·rename_i V
       exact⟨d,Ne.symm V⟩
    ·exact k1 a b' y z (old a y d sy).1 (old b' z hz sz).1 sy sz he
    ·obtain ⟨o1, o2⟩ := old a y d (by rw [hr]; rfl)
     rcases k2 a y rws e o1 hr he with I|⟨k,mm,s1,s2,N,M,O,U⟩
     ·exact .inl I
     ·refine .inr ⟨k, mm, ?_, s2, N, M, O, fO (fun a _ hr => bg hle a hr) rfl U⟩
      have V:=z2 a y o1 (by rw[hr]; rfl) o2 k mm s1;show (gn E.X.r l h0 l)[W a]? = _
      rw[A0 fun e=>V e.2];exact s1
  ·simp only [aI]
   have I:(E.loc++[g])[E.H.length]? = some g:=by rw[hlenH]; simp
   rcases z3 with⟨rfl,s1,_⟩|⟨k,mm,rfl,_,N,M,O,U⟩
   ·exact .inl ⟨I,s1⟩
   ·exact .inr ⟨k,mm,I,N,M,O,fO (fun a _ hr=>bg hle a hr) rfl U⟩
 refine⟨E.loc++[g],gn E.X.r l h0,r1,r2,?_⟩;have hnew:(E.H.set id (.aJ l w (es.set i (key,none,bn)) cl)++[.vec w 0 rows])[E.H.length]? = some (.vec w 0 rows):=by
  rw[iJ (by simp)];simp
 have I:(E.loc++[g])[E.H.length]? = some g:=by rw[hlenH]; simp
 simp only[rel];rcases z3 with⟨rfl,s1,base,s2⟩|⟨k,mm,rfl,s2,N,M,O,U⟩
 ·subst s1
  refine⟨⟨base,0,by rw[s2]; rfl,aB _,fun h=>by simp at h⟩,⟨_,hnew,rfl,fun v hv=>by cases hv; exact aB _⟩,fun _=>⟨fun _=>⟨by first|rfl|trivial,by first|rfl|trivial,base,s2⟩,fun b' m' u=>?_⟩⟩;rw[I]at u;cases u
 ·refine ⟨⟨_, mm, s2, M, fun _ => ⟨k, 0, rfl⟩⟩, ⟨_, hnew, rfl, fun v hv => by cases hv; exact aB _⟩, fun _ => ⟨fun u => ?_, fun b' m' u => ?_⟩⟩
  ·rw [I] at u
   cases u
  ·rw [I] at u
   cases u;exact⟨by omega,0,fun _=>by simp,by rw[s2,fF]⟩
theorem E8{E:Env}(HE:al E)(w:Nat) :
  al { w:=E.w,H:=E.H++[.vec w 0 []],loc:=E.loc++[none],X:=E.X }/\E.le { w:=E.w,H:=E.H++[.vec w 0 []],loc:=E.loc++[none],X:=E.X } /\
   rel { w:=E.w,H:=E.H++[.vec w 0 []],loc:=E.loc++[none],X:=E.X } (.vec w E.H.length 0 0 0) (.slice none 0 0):=by
 have hle:E.le (E.push E.w (.vec w 0 []) none):=Env.k9 HE.len (Ext.refl _) (fun b n h=>by cases h);have d:(E.loc++[(none:Option (Nat × Nat))])[E.H.length]? = some none:=by rw[<-HE.len]; simp
 have k:aI (E.push E.w (.vec w 0 []) none) E.H.length (.vec w 0 []):=by
  simp only[aI,Env.push];exact .inl ⟨d,trivial⟩
 refine⟨al.push HE (Ext.refl _) (fun b n h=>by cases h) k,hle,?_⟩;simp only[rel];refine⟨⟨none,0,rfl,aB _,fun h=>by simp at h⟩,⟨.vec w 0 [],by simp,rfl,fun v q=>by cases q; exact aB _⟩,fun _=>⟨fun _=>⟨by first|rfl|trivial,by first|rfl|trivial,none,rfl⟩,fun u m' g=>?_⟩⟩;rw[d]at g;cases g
def ju(P:Program)(t:TypeId)(m k:AV)(H:List ab):Option (AV × List ab) :=
 match c6 P t,m with
 | some (d,g),.map id=>match H[id]? with
  | some (.aJ l w es cl)=>match gS P d k,A3 P g,im P g with
   | some q,some w',some (.lit (.slice none 0 0))=>match ai w' w&&k.closed with
    | true=>match d_ P d q (cL es) 0 with
     | some (some (i,_))=>match pM es i with
      |some (_,rows,n)=>some (.tuple [.vec w H.length 0 0 rows.length,.lit (goInt n)],H.set id (.aJ l w (es.set i (k,none,n)) cl)++[.vec w 0 rows])
      |none=>none
     |some none=>some (.tuple [.vec w H.length 0 0 0,.lit (goInt cl)],H.set id (.aJ l w (es++[(k,none,cl)]) (cl+1))++[.vec w 0 []])
     |none=>none
    |false=>none
   |_,_,_=>none
  |_=>none
 |_,_=>none
theorem X1{P:Program}{E:Env}(HE:al E){t:TypeId}{m k v:AV}{c d:Value}{H':List ab}(h:ju P t m k E.H=some (v,H'))(hm:rel E m c)(hk:rel E k d) :
  ∃ u w',(D9 t c d).run P E.w=.ok u w'/\cM E v H' u w':=by
 unfold ju at h;split at h
 case h_2=>cases h
 rename_i kt et id ht;split at h
 case h_2=>cases h
 rename_i l w es cl hid;split at h
 case h_2=>cases h
 rename_i kv w' hkv hw' I;split at h
 case h_2=>cases h
 rename_i hww;simp only[ax]at hww;have hcl:=hww.2;clear hw' hww;obtain⟨b,n,ms,rfl,h1,h2,h3,h4⟩:=A2 HE hid hm;have O:=il hkv hk;have M:=E4 hkv;have e1:(getObj b).run P E.w=.ok (.map ms cl) E.w:=by simp[getObj,gE,h2]
 obtain⟨hlen,hall⟩:=dT.1 h3;rw[Ep]at hlen;have hidE:∀(w':World) es' cl',({ w:=w',H:=E.H.set id (.aJ l w es' cl'),loc:=E.loc,X:=E.X }:Env).H[id]? = some (.aJ l w es' cl'):=fun w' es' cl'=>by
  simp only[];rw[bf (aG hid)]
 split at h
 ·rename_i i v0 hf
  split at h
  case h_2=>cases h
  rename_i key rows bn hat;cases h;have hes:es[i]? = some (key,some rows,bn):=by
   unfold pM at hat;split at hat
   ·rename_i a1 a2 a3 he
    cases hat;exact he
   ·cases hat
  have hlt:=aG hes;obtain⟨r',g1,g2⟩:=gH O E.w h3 hf;cases r' with
  |none=>simp[cZ]at g2
  | some q =>
   simp only[cZ]at g2;obtain⟨q1,q2,_,e',V,q5⟩:=g2;obtain⟨_,x,y,f1,f2,f3⟩:=tT hf;simp only[fF]at V f1;obtain⟨a1,a2,a3,a4,a5⟩:=hall i x e' f1 V;obtain⟨s1,s2⟩:=xa O (il f2 a1) f3;have q4':ms[i]? = some e':=by simpa using V
   have hx:x=((gj key).1,(gj key).2,bn):=by rw[xf hes]at f1; cases f1; rfl
   have hre:bt E (cL (es.set i (k,some rows,bn))) (ms.modify i fun e=>{ e with key:=d }).toList:=by
    rw[dT];refine⟨by simp[cL,hlen],fun a y z g I=>?_⟩;simp only[jL,gF]at I;obtain⟨z0,U,rfl⟩:=dI.1 I;unfold cL at g;rw[bB,dv]at g;by_cases e:i=a
    ·subst e
     rw[if_pos rfl,if_pos hlt]at g;cases g;rw[V]at U;cases U;simp only[if_true];refine⟨by simpa[M]using hk,by simp[M,rel],?_,by simpa[M]using hcl,by simp[M,AV.closed]⟩;rw[a3,hx]
    ·rw [if_neg e] at g
     obtain⟨b1,b2,b3,b4,b5⟩:=hall a y z0 (by unfold cL; rw[bB]; exact g) U;simp only[if_neg e];exact⟨b1,b2,b3,b4,b5⟩
   have hsl2:jP E l w (es.set i (k,some rows,bn)) (ms.modify i fun e=>{ e with key:=d }).toList:=by
    obtain⟨hs,k1,k2⟩:=h4;have N:∀(a:Nat) y,(es.set i (k,some rows,bn))[a]? = some y->∃ z,es[a]? = some z/\z.2.1=y.2.1:=fun a y g=>by
     by_cases ei:i=a
     ·subst ei
      rw[bf hlt]at g;cases g;exact⟨_,hes,rfl⟩
     ·rw [aQ ei] at g
      exact⟨y,g,rfl⟩
    refine⟨hs,fun a c y z g I sy sz he=>?_,fun a y rws e g hr he=>?_⟩
    ·obtain ⟨y', hy', ey⟩ := N a y g
     obtain⟨z',hz',ez⟩:=N c z I;exact k1 a c y' z' hy' hz' (by rw[ey]; exact sy) (by rw[ez]; exact sz) he
    ·obtain ⟨y', hy', ey⟩ := N a y g
     simp only[jL,gF]at he;obtain⟨z0,U,rfl⟩:=dI.1 he;have:=k2 a y' rws z0 hy' (by rw[ey]; exact hr) U;split<;>exact this
   obtain⟨W,p1,p2,p3,p4,p5⟩:=xg (P:=P) HE (cl':=cl) hid h1 h2 hre hsl2;have hobj:=p2.obj id _ (hidE W _ _);simp only[aI]at hobj;obtain⟨b2,n2,ms2,o1,o2,o3,o4⟩:=hobj;rw[h1]at o1;simp only[aM,aU]at o1;obtain⟨rfl,rfl⟩:=o1;rw[p4]at o2;cases o2;obtain⟨loc',r',r1,r2,r3⟩:=XZ p2 (i:=i) (key:=k) (rows:=rows) (bn:=bn) (e':={ e' with key:=d }) (hidE W _ _) (by rw[bf hlt]) h1 p4 o3 o4 (by
    simp only[jL,gF,V];simp)
   simp only[kh,ib]at r1 r2 r3;refine⟨.tuple #[e'.val,goInt bn],W,?_,loc',r',?_,r1,p3.trans r2⟩
   ·have hst : (pt e'.key d).run P E.w = .ok d E.w := by simp [pt, s2]
    subst q1;simp only[D9,bS,Sem.bk (fG ht),bT,e1,fZ O,g1,q4',dS,np,hst];rw[p1];simp only[bT,ft];rw[a3,hx,<-q5]
   ·simp only [rel]
    refine⟨_,rfl,?_⟩;simp only[ae,and_true];exact⟨r3,by simp[rel]⟩
 ·rename_i hf
  cases h;obtain⟨r',g1,g2⟩:=gH O E.w h3 hf;cases r' with
  |some _=>simp[cZ]at g2
  | none =>
   obtain⟨zv,z1,z2⟩:=ry I E.w;have hzv:zv=.slice none 0 0:=by have:=z2 E; simpa[rel]using this
   have hml:ms.toList.length=es.length:=by omega
   have hre:bt E (cL (es++[(k,none,cl)])) (ms.push { key:=d,val:=zv,born:=cl }).toList:=by
    rw[dT];refine⟨by simp[cL,hlen],fun a y z g I=>?_⟩;unfold cL at g;rw[eO]at g;simp only[mu,fE,bN]at g I;rw[hml]at I;by_cases e:a<es.length
    ·simp only [if_pos e] at g I
     exact hall a y z (by unfold cL; exact g) I
    ·simp only [if_neg e] at g I
     cases hj2:a-es.length with
     | zero =>
      rw[hj2]at g I;simp at g I;subst g; subst I;exact⟨by simpa[M]using hk,by simp[M,rel],rfl,by simpa[M]using hcl,by simp[M,AV.closed]⟩
     |succ _=>rw[hj2]at g; simp at g
   have hsl2:jP E l w (es++[(k,none,cl)]) (ms.push { key:=d,val:=zv,born:=cl }).toList:=by
    obtain⟨hs,k1,k2⟩:=h4;have N:∀(a:Nat) y,(es++[(k,(none:Option (List (List AV))),cl)])[a]? = some y->y.2.1.isSome=true->es[a]? = some y/\a<es.length:=fun a y g hsm=>by
     rw[fE]at g;split at g
     ·rename_i hh
      exact⟨g,hh⟩
     ·cases hk2 : a - es.length with
      | zero =>
       rw[hk2]at g;simp at g;subst g;cases hsm
      |succ _=>rw[hk2]at g; simp at g
    refine⟨hs,fun a c y z g I sy sz he=>k1 a c y z (N a y g sy).1 (N c z I sz).1 sy sz he,fun a y rws e g hr he=>?_⟩;obtain⟨o1,o2⟩:=N a y g (by rw[hr]; rfl);simp only[mu]at he;rw[cK (by omega)]at he;exact k2 a y rws e o1 hr he
   obtain⟨W,p1,p2,p3,p4,p5⟩:=xg (P:=P) HE (cl':=cl+1) hid h1 h2 hre hsl2;obtain⟨r1,r2,r3⟩:=E8 p2 w;simp only[ib]at r3;refine⟨.tuple #[zv,goInt cl],W,?_,E.loc++[none],E.X.r,?_,r1,p3.trans r2⟩
   ·simp only [D9, bS, Sem.bk (fG ht), bT, e1, fZ O, g1, z1]
    rw[p1];rfl
   ·simp only [rel]
    refine⟨_,rfl,?_⟩;simp only[ae,and_true];rw[hzv];exact⟨r3,by simp[rel]⟩
 ·cases h
def rC (es:List (AV × Option (List (List AV)) × Nat)) (st:Int):Option Nat:=es.findIdx? fun x=>(x.2.2:Int)==st
def plainKey:AV->Bool
 |.tuple _=>false
 |_=>true
theorem X2{k:AV}(h:plainKey k=true):gj k=(k,.undef):=by
 cases k<;>first|rfl|cases h
def lQ(m s v:AV)(H:List ab):Option (List ab) :=
 match m,s,v with
 | .map id,.lit (.int .i64 st),.vec w j ver off n=>match H[id]?,H[j]? with
  | some (.aJ l w' es cl),some (.vec g d rows)=>if (w=w'/\w=g)/\(ver=d/\off=0)/\n=rows.length then
    match rC es st with
    | some i=>match es[i]? with
     | some (key,_,bn)=>match plainKey (gj key).1 with
      |true=>some ((H.set id (.aJ l w' (es.set i ((gj key).1,some rows,bn)) cl)).set j .dead)
      |false=>none
     |none=>none
    |none=>none
   else none
  |_,_=>none
 |_,_,_=>none
theorem Ms{E:Env}{st:Int}:∀{es:List (AV × Option (List (List AV)) × Nat)} {ms:List MapEntry},bt E (cL es) ms->ms.findIdx? (fun e=>(e.born:Int)==st)=rC es st
 | [],[],_=>rfl
 | [],_::_,h=>by simp[cL,bt]at h
 |_::_,[],h=>by simp[cL,bt]at h
 | x::es,e::ms,h=>by
  have h':bt E (((gj x.1).1,(gj x.1).2,x.2.2)::cL es) (e::ms):=h;simp only[bt]at h';obtain⟨_,_,g,_,_,k⟩:=h';have d:=Ms (st:=st) k;unfold rC at d|-;simp only[Lc,g,d]
theorem X3{P:Program}{E:Env}(HE:al E){t:TypeId}{m s v:AV}{c d u:Value}{H':List ab}(h:lQ m s v E.H=some H')(hm:rel E m c)(U:rel E s d)(hv:rel E v u) :
  ∃ w',(z_ t c d u).run P E.w=.ok () w'/\∀ x,cM E .undef H' x w':=by
 unfold lQ at h;split at h
 case h_2=>cases h
 rename_i id st w j ver off n;split at h
 case h_2=>cases h
 rename_i l w' es cl w2 ver' rows hid V;split at h
 case isFalse=>cases h
 rename_i hc;obtain⟨⟨rfl,rfl⟩,⟨rfl,rfl⟩,rfl⟩:=hc;split at h
 case h_2=>cases h
 rename_i i hi;split at h
 case h_2=>cases h
 rename_i key0 q bn hes;split at h
 case h_2=>cases h
 rename_i hpl;cases h;have k:=X2 hpl;obtain⟨key,N⟩:∃ key,key=(gj key0).1:=⟨_,rfl⟩
 rw[<-N]at k|-;obtain⟨b,n,ms,rfl,h1,h2,h3,h4⟩:=A2 HE hid hm;have hne:j≠id:=fun e=>by rw[e,hid]at V; cases V
 have e1:(getObj b).run P E.w=.ok (.map ms cl) E.w:=by simp[getObj,gE,h2]
 obtain⟨hlen,hall⟩:=dT.1 h3;rw[Ep]at hlen;have O:=aG hes;obtain⟨e',q4⟩:∃ e',ms.toList[i]? = some e':=⟨ms.toList[i]'(by omega),bx _⟩
 have hfind:ms.findIdx? (fun e=>(e.born:Int)==st)=some i:=by
  have e0:ms=ms.toList.toArray:=by simp
  rw[e0,alN,Ms h3,hi]
 have hre:bt E (cL (es.set i (key,none,bn))) (ms.modify i fun e=>{ e with val:=u }).toList:=by
  rw[dT];refine⟨by simp[cL,hlen],fun a y z g M=>?_⟩;simp only[jL,gF]at M;obtain⟨z0,I,rfl⟩:=dI.1 M;unfold cL at g;rw[bB,dv]at g;by_cases e:i=a
  ·subst e
   rw[if_pos rfl,if_pos O]at g;cases g;obtain⟨b1,W,b3,b4,b5⟩:=hall i _ z0 (xf hes) I;simp only[if_true];exact⟨by simpa only[k,<-N]using b1,by simp[k,rel],b3,by simpa only[k,<-N]using b4,by simp[k,AV.closed]⟩
  ·rw [if_neg e] at g
   obtain⟨b1,W,b3,b4,b5⟩:=hall a y z0 (by unfold cL; rw[bB]; exact g) I;simp only[if_neg e];exact⟨b1,W,b3,b4,b5⟩
 have hsl2:jP E l w (es.set i (key,none,bn)) (ms.modify i fun e=>{ e with val:=u }).toList:=by
  obtain⟨U,k1,k2⟩:=h4;have q:∀(a:Nat) y,(es.set i (key,none,bn))[a]? = some y->y.2.1.isSome=true->es[a]? = some y/\a≠i:=fun a y g hsm=>by
   by_cases ei:i=a
   ·subst ei
    rw[bf O]at g;cases g;cases hsm
   ·rw [aQ ei] at g
    exact⟨g,Ne.symm ei⟩
  refine⟨U,fun a c y z g M sy sz he=>k1 a c y z (q a y g sy).1 (q c z M sz).1 sy sz he,fun a y rws e g hr he=>?_⟩;obtain⟨o1,o2⟩:=q a y g (by rw[hr]; rfl);simp only[jL,gF]at he;obtain⟨z0,I,rfl⟩:=dI.1 he;rw[if_neg (Ne.symm o2)];exact k2 a y rws z0 o1 hr I
 obtain⟨w',p1,p2,p3,p4,p5⟩:=xg (P:=P) HE (cl':=cl) hid h1 h2 hre hsl2;have hd:d=.int .i64 st:=by simpa[rel]using U
 have hrun:(z_ t (.map (some b)) d u).run P E.w=.ok () w':=by
  subst hd;simp only[z_,asInt,asIntOf,bS,bT,e1,ft,hfind];exact p1
 have hidE:({ w:=w',H:=E.H.set id (.aJ l w (es.set i (key,none,bn)) cl),loc:=E.loc,X:=E.X }:Env).H[id]? = some (.aJ l w (es.set i (key,none,bn)) cl):=by
  simp only[];rw[bf (aG hid)]
 have hjE:({ w:=w',H:=E.H.set id (.aJ l w (es.set i (key,none,bn)) cl),loc:=E.loc,X:=E.X }:Env).H[j]? = some (.vec w ver rows):=by
  simp only[];rw[aQ (Ne.symm hne)];exact V
 have hobj:=p2.obj id _ hidE;simp only[aI]at hobj;obtain⟨W,n2,ms2,o1,o2,o3,o4⟩:=hobj;rw[h1]at o1;simp only[aM,aU]at o1;obtain⟨rfl,rfl⟩:=o1;rw[p4]at o2;cases o2;obtain⟨loc',r',r1,r2⟩:=E7 p2 (i:=i) (key:=key) (bn:=bn) (e:={ e' with val:=u }) hidE hjE (by rw[bf O]) h1 p4 (by
  simp only[jL,gF,q4];simp) o3 o4 (bg p3 _ hv)
 refine⟨w',hrun,fun xx=>⟨loc',r',by simp[rel],?_,p3.trans ?_⟩⟩
 ·simpa[kh]using r1
 ·simpa[kh]using r2
end Go.AL

namespace Go.AL
open Go
variable [Dr]
theorem Mt{r:List (Option (Option (Nat × Nat)))}(h:∀(i:Nat) q,r[i]? ≠ some (some q)):db r=[]:=by
 unfold db;rw[List.filterMap_eq_nil_iff];intro x d;obtain⟨i,hi,e⟩:=pj d;cases x with
 |none=>rfl
 |some q=>exact absurd (by rw[bx hi,e]) (h i q)
theorem Mu{E:Env}(HE:al E){id l cl:Nat}(hid:E.H[id]? = some (.map [] cl))(d:jQ E.H l=true) :
  al { w:=E.w,H:=E.H.set id (.mm l [] [] cl),loc:=E.loc,X:=E.X }/\E.le { w:=E.w,H:=E.H.set id (.mm l [] [] cl),loc:=E.loc,X:=E.X } :=
 al.xh HE hid rfl rfl rfl (oC d) fun hle=>by
  have ho:=HE.obj id _ hid;simp only[aI]at ho|-;obtain⟨b,n,ms,h1,g,k⟩:=ho;have q:=Mt (HE.gR l (oC d));refine⟨b,n,ms,h1,g,fw (fun a _ hr=>bg hle a hr) k,?_,fun i x e u=>by simp at u,fun j m b hm=>by simp at hm⟩;show (db (E.X.r l)).length=0
  rw[q];rfl
theorem E9{E:Env}(HE:al E){id l cl:Nat}{es:List (AV × Option Nat × Nat)}{ms:List (List (AV × AV × Nat) × Nat)}{c:Value}(hid:E.H[id]? = some (.mm l es ms cl))(hr:rel E (.map id) c) :
  ∃ b n d,c=.map (some b)/\E.loc[id]? = some (some (b,n))/\E.w.heap[b]? = some (.map d cl)/\bt E (gk es) d.toList/\Ay E l es ms d.toList:=by
 have ho:=HE.obj id _ hid;simp only[aI]at ho;obtain⟨b,n,d,h1,g,k,q⟩:=ho;simp only[rel]at hr;obtain⟨_,_,u⟩:=hr;obtain⟨v,y,g1,g2⟩:=u ⟨_,hid,rfl⟩;rw[h1]at g1;simp only[aM,aU]at g1;obtain⟨rfl,rfl⟩:=g1;exact⟨b,n,d,g2,h1,g,k,q⟩
theorem Mv{E:Env}(HE:al E){id l cl i:Nat}{es:List (AV × Option Nat × Nat)}{ms:List (List (AV × AV × Nat) × Nat)}{m:List (AV × AV × Nat) × Nat}{c:Value}(hid:E.H[id]? = some (.mm l es ms cl))(hm:ms[i]? = some m) (hr:rel E (.sub id l (some i)) c) :
  ∃ b d,c=.map (some b)/\(db (E.X.r l))[i]? = some b/\E.w.heap[b]? = some (.map d m.2)/\bt E m.1 d.toList:=by
 have ho:=HE.obj id _ hid;simp only[aI]at ho;obtain⟨_,_,d,_,_,_,_,_,g⟩:=ho;simp only[rel]at hr;rcases hr with⟨h,_⟩|⟨q,h1,_,_,k⟩
 ·cases h
 cases h1;obtain⟨_,b,g1,g2⟩:=k ⟨_,hid,rfl⟩;obtain⟨mm,g3,g4⟩:=g i m b hm g1;exact⟨b,mm,g2,g1,g3,g4⟩
def rD(P:Program)(t:TypeId)(m k:AV)(H:List ab):Option AV :=
 match c6 P t,m with
 | some (d,g),.map id=>match H[id]? with
  | some (.mm l es _ _)=>match gS P d k,im P g with
   | some q,some (.lit (.map none))=>match d_ P d q (gk es) 0 with
    |some (some (i,_))=>(es[i]?).map fun x=>.sub id l x.2.1
    |some none=>some (.sub id l none)
    |none=>none
   |_,_=>none
  |_=>none
 |_,_=>none
theorem X5{P:Program}{E:Env}(HE:al E){t:TypeId}{m k v:AV}{c d:Value}(h:rD P t m k E.H=some v)(hm:rel E m c)(hk:rel E k d) :
  ∃ u,(kg t c d false).run P E.w=.ok u E.w/\rel E v u:=by
 unfold rD at h;split at h
 case h_2=>cases h
 rename_i kt et id M;split at h
 case h_2=>cases h
 rename_i l es ms cl hid;split at h
 case h_2=>cases h
 rename_i kv V hz;obtain⟨b,n,W,rfl,h1,h2,N,_,hmm,_⟩:=E9 HE hid hm;have g:=il V hk;obtain⟨zv,z1,z2⟩:=ry hz E.w;have hzv:zv=.map none:=by simpa[rel]using z2 E
 subst hzv;have O:(getObj b).run P E.w=.ok (.map W cl) E.w:=by simp[getObj,gE,h2]
 split at h
 ·rename_i i v0 y
  obtain⟨r',g1,g2⟩:=gH g E.w N y;cases r' with
  |none=>simp[cZ]at g2
  | some q =>
   simp only[cZ]at g2;obtain⟨q1,_,_,e,q4,q5⟩:=g2;obtain⟨x,hx,rfl⟩:=dI.1 h;refine⟨q.2,?_,?_⟩
   ·simp only [kg, bS, Sem.bk (fG M), bT, O, ft, fZ g, g1]
    rfl
   ·rw [<- q5]
    simp only[rel];rcases hmm i x e hx (by simpa using q4)with⟨I,a2⟩|⟨j,U,I,a2,a3⟩
    ·exact .inl ⟨I,a2⟩
    ·exact .inr ⟨j,I,⟨U,a3⟩,⟨_,hid,rfl,fun v _=>dX v⟩,fun _=>⟨⟨_,hid,rfl⟩,U,a2,a3⟩⟩
 ·rename_i y
  obtain⟨r',g1,g2⟩:=gH g E.w N y;cases h;cases r' with
  |some _=>simp[cZ]at g2
  | none =>
   refine⟨.map none,?_,by simp[rel]⟩;simp only[kg,bS,Sem.bk (fG M),bT,O,ft,fZ g,g1,z1];rfl
 ·cases h
def tU(P:Program)(t:TypeId)(m k:AV)(ok:Bool)(H:List ab):Option AV :=
 match c6 P t,m with
 | some (d,g),.sub id l (some i)=>match H[id]? with
  | some (.mm l' _ ms _)=>match ai l l',ms[i]?,gS P d k,oE P g with
   | true,some mm,some q,some z=>match d_ P d q mm.1 0 with
    | some r=>let v:=match r with
      |some (_,v)=>v
      |none=>z
     some (match ok with
      |true=>.tuple [v,.lit (.bool r.isSome)]
      |false=>v)
    |none=>none
   |_,_,_,_=>none
  |_=>none
 |_,_=>none
theorem X6{P:Program}{E:Env}(HE:al E){t:TypeId}{m k v:AV}{ok:Bool}{c d:Value}(h:tU P t m k ok E.H=some v)(hm:rel E m c)(hk:rel E k d) :
  ∃ u,(kg t c d ok).run P E.w=.ok u E.w/\rel E v u:=by
 unfold tU at h;split at h
 case h_2=>cases h
 rename_i kt et id l i I;split at h
 case h_2=>cases h
 rename_i l' es ms cl hid;split at h
 case h_2=>cases h
 rename_i mm kv z y hmm U W;have y:=ba y;subst y;split at h
 case h_2=>cases h
 rename_i r hr;obtain⟨b,V,rfl,_,h2,h3⟩:=Mv HE hid hmm hm;have g:=il U hk;obtain⟨r',g1,g2⟩:=gH g E.w h3 hr;obtain⟨M,z1,z2⟩:=Mh W E.w;have N:(getObj b).run P E.w=.ok (.map V mm.2) E.w:=by simp[getObj,gE,h2]
 cases h;cases r with
 | none =>
  cases r' with
  |some _=>simp[cZ]at g2
  | none =>
   refine⟨if ok then .tuple #[M,.bool false] else M,?_,?_⟩
   ·simp only[kg,bS,Sem.bk (fG I),bT,N,ft,fZ g,g1,z1]
   ·cases ok with
    |true=>simp[rel,ae,z2 E]
    |false=>simpa using z2 E
 | some p =>
  cases r' with
  |none=>simp[cZ]at g2
  | some q =>
   simp only[cZ]at g2;obtain⟨q1,O,_,_,_,_⟩:=g2;refine⟨if ok then .tuple #[q.2,.bool true] else q.2,?_,?_⟩
   ·simp only[kg,bS,Sem.bk (fG I),bT,N,ft,fZ g,g1]
   ·cases ok with
    |true=>simp[rel,ae,O]
    |false=>simpa using O
theorem Mw:∀{r:List (Option (Option (Nat × Nat)))},(∀(h h' b m n:Nat),r[h]? = some (some (some (b,m)))->r[h']? = some (some (some (b,n)))->h=h')->(db r).Nodup
 | [],_=>List.nodup_nil
 | x::r,H=>by
  have d:=Mw (r:=r) fun h h' b m n h1 g=>by
   have:=H (h+1) (h'+1) b m n (by simpa using h1) (by simpa using g);omega
  match x,H with
  |none,_=>exact d
  |some none,_=>exact d
  | some (some (b,m)),H =>
   show (b::db r).Nodup
   refine List.nodup_cons.2 ⟨fun hm=>?_,d⟩;obtain⟨i,n,hi⟩:=pD hm;have:=H 0 (i+1) b m n rfl (by simpa using hi);omega
theorem Mx{E:Env}(HE:al E){l i j b:Nat} (h1:(db (E.X.r l))[i]? = some b) (d:(db (E.X.r l))[j]? = some b):i=j :=
 (List.getElem?_inj (aG h1) (Mw fun h h' b m n g k=>(HE.ff l h l h' b m n g k).2)).1 (by rw[h1,d])
def lh(P:Program)(t:TypeId)(m k:AV)(ok:Bool)(H:List ab):Option AV :=
 match m with
 |.sub id l j=>tU P t (.sub id l j) k ok H
 | .map id=>match ok with
  |false=>rD P t (.map id) k H
  |true=>none
 |_=>none
theorem X7{P:Program}{E:Env}(HE:al E){t:TypeId}{m k v:AV}{ok:Bool}{c d:Value}(h:lh P t m k ok E.H=some v)(hm:rel E m c)(hk:rel E k d) :
  ∃ u,(kg t c d ok).run P E.w=.ok u E.w/\rel E v u:=by
 unfold lh at h;split at h
 ·exact X6 HE h hm hk
 ·split at h
  ·exact X5 HE h hm hk
  ·cases h
 ·cases h
theorem My{P:Program}{t:TypeId}{m k v:AV}{ok:Bool}{H H2:List ab}(g:∀(i l:Nat) es ms (cl:Nat),H[i]? = some (ab.mm l es ms cl)->H2[i]? = some (ab.mm l es ms cl))(h:lh P t m k ok H=some v):lh P t m k ok H2=some v/\gl P t m k ok H2=none:=by
 unfold lh at h|-;unfold gl;split at h
 ·rename_i id l j
  refine⟨?_,by split<;>first|rfl|(rename_i e; cases e)⟩;unfold tU at h|-;split at h
  case h_2=>cases h
  rename_i q u i y;split at h
  case h_2=>cases h
  rename_i l' es ms cl hid;simp only[g _ _ _ _ _ hid];exact h
 ·rename_i id
  split at h
  case h_2=>cases h
  cases d:c6 P t with
  | none =>
   simp only[rD,d]at h;cases h
  | some p =>
   simp only[rD,d]at h|-;split at h
   case h_2=>cases h
   rename_i hid;simp only[g _ _ _ _ _ hid];exact⟨h,trivial⟩
 ·cases h
theorem X8{P:Program}{t:TypeId}{m k:AV}{ok:Bool}{H H2:List ab}(h1:∀ id,m=.map id->H2[id]? = H[id]?)(d:∀ id l j,m=.sub id l j->H2[id]? = H[id]?):lh P t m k ok H2=lh P t m k ok H:=by
 unfold lh;cases m<;>try rfl
 ·rename_i id
  cases ok with
  |true=>rfl
  | false =>
   unfold rD;cases c6 P t with
   |none=>rfl
   |some p=>simp only[h1 id rfl]
 ·rename_i id l j
  unfold tU;cases c6 P t with
  |none=>rfl
  | some p =>
   cases j with
   |none=>rfl
   |some j=>simp only[d id l (some j) rfl]
theorem Mz{P:Program}{E:Env}(HE:al E){id l cl i b:Nat}{es:List (AV × Option Nat × Nat)}{ms:List (List (AV × AV × Nat) × Nat)}{m m':List (AV × AV × Nat) × Nat}{M mes':Array MapEntry}(hid:E.H[id]? = some (.mm l es ms cl))(hm:ms[i]? = some m)
  (hb:(db (E.X.r l))[i]? = some b) (V:E.w.heap[b]? = some (.map M m.2)) (hr:bt E m'.1 mes'.toList) :
  ∃ w',(setObj b (.map mes' m'.2)).run P E.w=.ok () w'/\al { w:=w',H:=E.H.set id (.mm l es (ms.set i m') cl),loc:=E.loc,X:=E.X }/\E.le { w:=w',H:=E.H.set id (.mm l es (ms.set i m') cl),loc:=E.loc,X:=E.X }:=by
 obtain⟨h,q,u⟩:=pD (dJ hb);have N:=(HE.cr l h b q u).1;have O:({ E.w with heap:=E.w.heap.setIfInBounds b (.map mes' m'.2) }:World).heap.size=E.w.heap.size:=by simp
 have k:∀ y,y≠b->({ E.w with heap:=E.w.heap.setIfInBounds b (.map mes' m'.2) }:World).heap[y]? = E.w.heap[y]? := by
  intro y W;simp only[zW];rw[if_neg (fun e=>W e.symm)]
 have key:=al.tz (w':={ E.w with heap:=E.w.heap.setIfInBounds b (.map mes' m'.2) }) (r':=E.X.r) (o':=.mm l es (ms.set i m') cl) HE hid rfl rfl rfl (Ld O.symm) (fun x _ _ hx=>k x fun e=>by
   subst e;exact hx h q u) (fun _ _=>rfl) (fun _ _ _ hk=>.inl hk) (fun _ hk=>⟨hk,fun _ hq=>hq⟩) (fun hle=>?_) ⟨rfl,rfl,rfl,fun _=>aB _⟩ (.inr ⟨rfl,[],(cB _).symm⟩)
 ·exact⟨_,by simp[setObj,gE,V],key.1,key.2⟩
 ·have ho := HE.obj id _ hid
  simp only[aI]at ho|-;obtain⟨b0,n,I,g1,g2,g3,g4,g5,g6⟩:=ho;have U:b0≠b:=fun e=>HE.cQ id b0 n l h q g1 (by rw[e]; exact u);refine⟨b0,n,I,g1,?_,fw (fun a _ hr=>bg hle a hr) g3,?_,g5,fun j mj v g d=>?_⟩
  ·rw [<- g2]
   exact k b0 U
  ·show (db (E.X.r l)).length = _
   rw[ib];exact g4
  ·have d : (db (E.X.r l))[j]? = some v := d
   by_cases e:i=j
   ·subst e
    rw[bf (aG hm)]at g;cases g;rw[hb]at d;cases d;exact⟨mes',by simp[N],fw (fun a _ hr=>bg hle a hr) hr⟩
   ·rw [aQ e] at g
    obtain⟨mm,k1,k2⟩:=g6 j mj v g d;refine⟨mm,?_,fw (fun a _ hr=>bg hle a hr) k2⟩;rw[<-k1];exact k v fun e2=>e (Mx HE hb (by rw[<-e2]; exact d))
def rE(P:Program)(t:TypeId)(m k v:AV)(H:List ab):Option (List ab) :=
 match c6 P t,m with
 | some (u,_),.sub id l (some i0)=>match H[id]? with
  | some (.mm l' g d q)=>match ai l l',d[i0]?,gS P u k with
   | true,some mm,some y=>if v.closed=true/\k.closed=true then
     match d_ P u y mm.1 0 with
     |some (some (i,_))=>some (H.set id (.mm l g (d.set i0 (mm.1.modify i fun e=>(k,v,e.2.2),mm.2)) q))
     |some none=>some (H.set id (.mm l g (d.set i0 (mm.1++[(k,v,mm.2)],mm.2+1)) q))
     |none=>none
    else none
   |_,_,_=>none
  |_=>none
 |_,_=>none
theorem X9{P:Program}{E:Env}(HE:al E){t:TypeId}{m k v:AV}{c d u:Value}{H':List ab}(h:rE P t m k v E.H=some H')(hm:rel E m c)(hk:rel E k d)(hv:rel E v u) :
  ∃ w',(lG t c d u).run P E.w=.ok () w'/\al { w:=w',H:=H',loc:=E.loc,X:=E.X }/\E.le { w:=w',H:=H',loc:=E.loc,X:=E.X }:=by
 unfold rE at h;split at h
 case h_2=>cases h
 rename_i kt et id l i0 ht;split at h
 case h_2=>cases h
 rename_i l' oes oms ocl hid;split at h
 case h_2=>cases h
 rename_i mm kv V hmm hkv;have V:=ba V;subst V;obtain⟨es,cl⟩:=mm;split at h
 case isFalse=>cases h
 rename_i N;obtain⟨b,ms,rfl,h1,W,h3⟩:=Mv HE hid hmm hm;have M:=il hkv hk;have e1:(getObj b).run P E.w=.ok (.map ms cl) E.w:=by simp[getObj,gE,W]
 obtain⟨hlen,U⟩:=dT.1 h3;split at h
 ·rename_i i v0 O
  cases h;obtain⟨r',g1,g2⟩:=gH M E.w h3 O;cases r' with
  |none=>simp[cZ]at g2
  | some q =>
   simp only[cZ]at g2;obtain⟨q1,q2,_,e',q4,q5⟩:=g2;obtain⟨_,x,l,f1,f2,f3⟩:=tT O;simp only[fF]at q4 f1;obtain⟨a1,a2,a3,a4,a5⟩:=U i x e' f1 q4;obtain⟨s1,s2⟩:=xa M (il f2 a1) f3;have q4':ms[i]? = some e':=by simpa using q4
   obtain⟨w',r1,r2,r3⟩:=Mz (P:=P) HE (m':=(es.modify i fun e=>(k,v,e.2.2),cl)) (mes':=ms.modify i fun e=>{ e with key:=d,val:=u }) hid hmm h1 W (by
    rw[dT];refine⟨by simp[hlen],fun j y z g I=>?_⟩;simp only[gF]at g;simp only[jL,gF]at I;obtain⟨y0,hy0,rfl⟩:=dI.1 g;obtain⟨z0,hz0,rfl⟩:=dI.1 I;obtain⟨b1,b2,b3,b4,b5⟩:=U j y0 z0 hy0 hz0;by_cases e:i=j
    ·subst e
     simp only[if_true];exact⟨hk,hv,b3,N.2,N.1⟩
    ·simp only [if_neg e]
     exact⟨b1,b2,b3,b4,b5⟩)
   refine⟨w',?_,r2,r3⟩;subst q1;have hst:(pt e'.key d).run P E.w=.ok d E.w:=by simp[pt,s2]
   simp only[lG,bS,Sem.bk (fG ht),bT,e1,fZ M,g1,q4',dS,np,hst];exact r1
 ·rename_i O
  cases h;obtain⟨r',g1,g2⟩:=gH M E.w h3 O;cases r' with
  |some _=>simp[cZ]at g2
  | none =>
   obtain⟨w',r1,r2,r3⟩:=Mz (P:=P) HE (m':=(es++[(k,v,cl)],cl+1)) (mes':=ms.push { key:=d,val:=u,born:=cl }) hid hmm h1 W (by
    rw[dT];refine⟨by simp[hlen],fun j y z g I=>?_⟩;simp only[mu,fE,hlen]at g I;by_cases e:j<ms.toList.length
    ·simp only [if_pos e] at g I
     exact U j y z g I
    ·simp only [if_neg e] at g I
     cases hj:j-ms.toList.length with
     | zero =>
      rw[hj]at g I;simp at g I;subst g; subst I;exact⟨hk,hv,rfl,N.2,N.1⟩
     |succ _=>rw[hj]at g; simp at g)
   refine⟨w',?_,r2,r3⟩;simp only[lG,bS,Sem.bk (fG ht),bT,e1,fZ M,g1];exact r1
 ·cases h
theorem MA{P:Program}{E:Env}(HE:al E){id l b n cl cl':Nat}{es es':List (AV × Option Nat × Nat)}{ms:List (List (AV × AV × Nat) × Nat)}{u mes':Array MapEntry}(hid:E.H[id]? = some (.mm l es ms cl)) (d:E.loc[id]? = some (some (b,n)))
  (hb:E.w.heap[b]? = some (.map u cl)) (hr:bt E (gk es') mes'.toList)
  (hmm:∀(i:Nat) x e,es'[i]? = some x->mes'.toList[i]? = some e->(x.2.1=none/\e.val=.map none)\/∃ j b,x.2.1=some j/\(db (E.X.r l))[j]? = some b/\e.val=.map (some b)) :
  ∃ w',(setObj b (.map mes' cl')).run P E.w=.ok () w'/\al { w:=w',H:=E.H.set id (.mm l es' ms cl'),loc:=E.loc,X:=E.X }/\E.le { w:=w',H:=E.H.set id (.mm l es' ms cl'),loc:=E.loc,X:=E.X }:=by
 have v:=(HE.lt id b n d).1;have I:({ E.w with heap:=E.w.heap.setIfInBounds b (.map mes' cl') }:World).heap.size=E.w.heap.size:=by simp
 have g:∀ y,y≠b->({ E.w with heap:=E.w.heap.setIfInBounds b (.map mes' cl') }:World).heap[y]? = E.w.heap[y]? := by
  intro y M;simp only[zW];rw[if_neg (fun e=>M e.symm)]
 have key:=al.tz (w':={ E.w with heap:=E.w.heap.setIfInBounds b (.map mes' cl') }) (r':=E.X.r) (o':=.mm l es' ms cl') HE hid rfl rfl rfl (Ld I.symm) (fun x _ N _=>g x fun e=>by
   subst e;exact N n d) (fun _ _=>rfl) (fun _ _ _ hk=>.inl hk) (fun _ hk=>⟨hk,fun _ O=>O⟩) (fun hle=>?_) ⟨rfl,rfl,rfl,fun _=>aB _⟩ (.inr ⟨rfl,[],(cB _).symm⟩)
 ·exact⟨_,by simp[setObj,gE,hb],key.1,key.2⟩
 ·have ho := HE.obj id _ hid
  simp only[aI]at ho|-;obtain⟨b0,n0,mes0,g1,g2,g3,g4,g5,g6⟩:=ho;refine⟨b,n,mes',d,by simp[v],fw (fun a _ hr=>bg hle a hr) hr,g4,hmm,fun j U q V k=>?_⟩;obtain⟨mm,W,k2⟩:=g6 j U q V k;obtain⟨h,mc,hh⟩:=pD (dJ k);refine⟨mm,?_,fw (fun a _ hr=>bg hle a hr) k2⟩;rw[<-W];exact g q fun e2=>HE.cQ id b n l h mc d (by rw[<-e2]; exact hh)
def kp(P:Program)(t:TypeId)(m k:AV)(H:List ab):Option (AV × List ab) :=
 match c6 P t,m with
 | some (d,g),.map id=>match H[id]? with
  | some (.mm l es ms cl)=>match gS P d k,im P g,k.closed with
   | some q,some (.lit (.map none)),true=>match d_ P d q (gk es) 0 with
    |some none=>some (.tuple [.sub id l none,.lit (goInt cl)],H.set id (.mm l (es++[(k,none,cl)]) ms (cl+1)))
    |_=>none
   |_,_,_=>none
  |_=>none
 |_,_=>none
theorem X_{P:Program}{E:Env}(HE:al E){t:TypeId}{m k v:AV}{c d:Value}{H':List ab}(h:kp P t m k E.H=some (v,H'))(hm:rel E m c)(hk:rel E k d) :
  ∃ u w',(D9 t c d).run P E.w=.ok u w'/\cM E v H' u w':=by
 unfold kp at h;split at h
 case h_2=>cases h
 rename_i kt et id ht;split at h
 case h_2=>cases h
 rename_i l es ms cl hid;split at h
 case h_2=>cases h
 rename_i kv hkv q hcl;obtain⟨b,n,U,rfl,h1,V,W,h4,h5,h6⟩:=E9 HE hid hm;have O:=il hkv hk;have N:(getObj b).run P E.w=.ok (.map U cl) E.w:=by simp[getObj,gE,V]
 obtain⟨hlen,hall⟩:=dT.1 W;rw[LA]at hlen;split at h
 case h_2=>cases h
 rename_i hf;cases h;obtain⟨r',g1,g2⟩:=gH O E.w W hf;cases r' with
 |some _=>simp[cZ]at g2
 | none =>
  obtain⟨zv,z1,z2⟩:=ry q E.w;have hzv:zv=.map none:=by have:=z2 E; simpa[rel]using this
  subst hzv;have hre:bt E (gk (es++[(k,none,cl)])) (U.push { key:=d,val:=.map none,born:=cl }).toList:=by
   rw[dT];refine⟨by simp[gk,hlen],fun a y z g q=>?_⟩;unfold gk at g;rw[eO]at g;simp only[mu,fE,bN]at g q;rw[<-hlen]at q;by_cases e:a<es.length
   ·simp only [if_pos e] at g q
    exact hall a y z (by unfold gk; exact g) q
   ·simp only [if_neg e] at g q
    cases M:a-es.length with
    | zero =>
     rw[M]at g q;simp at g q;subst g; subst q;exact⟨hk,by simp[rel],rfl,hcl,rfl⟩
    |succ _=>rw[M]at g; simp at g
  obtain⟨w1,p1,p2,p3⟩:=MA (P:=P) HE (cl':=cl+1) hid h1 V hre (fun i x e I he=>by
   simp only[mu,fE]at I he;rw[<-hlen]at he;by_cases N:i<es.length
   ·simp only [if_pos N] at I he
    exact h5 i x e I he
   ·simp only [if_neg N] at I he
    cases M:i-es.length with
    | zero =>
     rw[M]at I he;simp at I he;subst I; subst he;exact .inl ⟨rfl,rfl⟩
    |succ _=>rw[M]at I; simp at I)
  refine⟨.tuple #[.map none,goInt cl],w1,?_,E.loc,E.X.r,?_,p2,p3⟩
  ·simp only [D9, bS, Sem.bk (fG ht), bT, N, fZ O, g1, z1]
   rw[p1];rfl
  ·simp only [rel]
   refine⟨_,rfl,?_⟩;simp[ae,rel]
def rF(es:List (AV × Option Nat × Nat))(st:Int):Option Nat:=es.findIdx? fun x=>(x.2.2:Int)==st
theorem MB{E:Env}{st:Int}:∀{es:List (AV × Option Nat × Nat)} {ms:List MapEntry},bt E (gk es) ms->ms.findIdx? (fun e=>(e.born:Int)==st)=rF es st
 | [],[],_=>rfl
 | [],_::_,h=>by simp[gk,bt]at h
 |_::_,[],h=>by simp[gk,bt]at h
 | x::es,e::ms,h=>by
  have h':bt E ((x.1,.undef,x.2.2)::gk es) (e::ms):=h;simp only[bt]at h';obtain⟨_,_,g,_,_,k⟩:=h';have d:=MB (st:=st) k;unfold rF at d|-;simp only[Lc,g,d]
theorem Ya{E:Env}(HE:al E){id j l cl clk:Nat}{es:List (AV × Option Nat × Nat)}{ms:List (List (AV × AV × Nat) × Nat)}{q:List (AV × AV × Nat)}{u:Value}(hid:E.H[id]? = some (.mm l es ms cl))(y:E.H[j]? = some (.map q clk))(hu:rel E (.map j) u) :
  ∃ d I r',u=.map (some d)/\(∃ t,r' l=E.X.r l++t)/\(db (r' l))[ms.length]? = some d/\(∀ i,i≠j->I[i]? = E.loc[i]?) /\
   al { w:=E.w,H:=(E.H.set id (.mm l es (ms++[(q,clk)]) cl)).set j .dead,loc:=I,X:=E.X.re r' }/\E.le { w:=E.w,H:=(E.H.set id (.mm l es (ms++[(q,clk)]) cl)).set j .dead,loc:=I,X:=E.X.re r' }:=by
 obtain⟨d,n,U,rfl,h1,W,h3⟩:=tS HE y hu;have ho:=HE.obj id _ hid;simp only[aI]at ho;obtain⟨b0,n0,O,g1,g2,g3,g4,g5,g6⟩:=ho;have V:j≠id:=fun e=>by rw[e,hid]at y; cases y
 have M:dU E.X.r l (some (d,n)) l=E.X.r l++[some (some (d,n))]:=if_pos rfl;have v:db (dU E.X.r l (some (d,n)) l)=db (E.X.r l)++[d]:=by
  rw[M,wS];rfl
 have key:=al.attach HE (o':=.mm l es (ms++[(q,clk)]) cl) hid rfl rfl rfl y rfl h1 (fun hle=>?_) (.inr rfl)
 ·refine ⟨d, E.loc.set j none, dU E.X.r l (some (d, n)), rfl, ⟨_, M⟩, ?_, fun i hi => aQ (Ne.symm hi), key.1, key.2⟩
  rw[v,<-g4];simp
 ·simp only [aI]
  refine⟨b0,n0,O,by rw[aQ V]; exact g1,g2,fw (fun a _ hr=>bg hle a hr) g3,?_,fun i x e hx he=>?_,fun i mi bi k g=>?_⟩
  ·show (db (dU E.X.r l (some (d, n)) l)).length = _
   rw[v];simp[g4]
  ·rcases g5 i x e hx he with h | ⟨N, b', a1, a2, a3⟩
   ·exact .inl h
   ·refine .inr ⟨N, b', a1, ?_, a3⟩
    show (db (dU E.X.r l (some (d,n)) l))[N]? = _
    rw[v,cK (aG a2)];exact a2
  ·have g : (db (dU E.X.r l (some (d, n)) l))[i]? = some bi := g
   rw[v]at g;rw[fE]at k g;by_cases e:i<ms.length
   ·rw [if_pos e] at k
    rw[if_pos (by omega)]at g;obtain⟨mm,k1,k2⟩:=g6 i mi bi k g;exact⟨mm,k1,fw (fun a _ hr=>bg hle a hr) k2⟩
   ·rw [if_neg e] at k
    rw[if_neg (by omega),g4]at g;cases hk:i-ms.length with
    | zero =>
     rw[hk]at k g;simp at k g;subst k g;exact⟨U,W,fw (fun a _ hr=>bg hle a hr) h3⟩
    |succ _=>rw[hk]at k; simp at k
def mI(m s v:AV)(H:List ab):Option (List ab) :=
 match m,s,v with
 | .map id,.lit (.int .i64 st),.map j=>match H[id]?,H[j]? with
  | some (.mm l es ms cl),some (.map d clk)=>match rF es st with
   | some i=>match es[i]? with
    |some (key,none,bn)=>some ((H.set id (.mm l (es.set i (key,some ms.length,bn)) (ms++[(d,clk)]) cl)).set j .dead)
    |_=>none
   |none=>none
  |_,_=>none
 |_,_,_=>none
theorem Yb{P:Program}{E:Env}(HE:al E){t:TypeId}{m s v:AV}{c d u:Value}{H':List ab}(h:mI m s v E.H=some H')(hm:rel E m c)(hs:rel E s d)(hv:rel E v u) :
  ∃ w',(z_ t c d u).run P E.w=.ok () w'/\∀ x,cM E .undef H' x w':=by
 unfold mI at h;split at h
 case h_2=>cases h
 rename_i id st j;split at h
 case h_2=>cases h
 rename_i l es ms cl k clk hid W;split at h
 case h_2=>cases h
 rename_i i hi;split at h
 case h_2=>cases h
 rename_i key bn hes;cases h;obtain⟨b,n,g,rfl,h1,h2,h3,h4,h5,h6⟩:=E9 HE hid hm;have V:j≠id:=fun e=>by rw[e,hid]at W; cases W
 have e1:(getObj b).run P E.w=.ok (.map g cl) E.w:=by simp[getObj,gE,h2]
 obtain⟨hlen,hall⟩:=dT.1 h3;rw[LA]at hlen;have hlt:=aG hes;obtain⟨e',q4⟩:∃ e',g.toList[i]? = some e':=⟨g.toList[i]'(by omega),bx _⟩
 have hfind:g.findIdx? (fun e=>(e.born:Int)==st)=some i:=by
  have e0:g=g.toList.toArray:=by simp
  rw[e0,alN,MB h3,hi]
 obtain⟨O,I,r',rfl,⟨tt,ht⟩,hlv,hloc,HE1,M⟩:=Ya HE hid W hv;have hd:d=.int .i64 st:=by simpa[rel]using hs
 have hidE:({ w:=E.w,H:=(E.H.set id (.mm l es (ms++[(k,clk)]) cl)).set j .dead,loc:=I,X:=E.X.re r' }:Env).H[id]? = some (.mm l es (ms++[(k,clk)]) cl):=by
  simp only[];rw[aQ V,bf (aG hid)]
 have hre:bt { w:=E.w,H:=(E.H.set id (.mm l es (ms++[(k,clk)]) cl)).set j .dead,loc:=I,X:=E.X.re r' } (gk (es.set i (key,some ms.length,bn))) (g.modify i fun e=>{ e with val:=.map (some O) }).toList:=by
  rw[dT];refine⟨by simp[gk,hlen],fun a y z q hz=>?_⟩;simp only[jL,gF]at hz;obtain⟨z0,N,rfl⟩:=dI.1 hz;unfold gk at q;rw[bB,dv]at q;by_cases e:i=a
  ·subst e
   rw[if_pos rfl,if_pos hlt]at q;cases q;obtain⟨b1,b2,b3,b4,b5⟩:=hall i (key,.undef,bn) z0 (by unfold gk; rw[bB,hes]; rfl) N;simp only[if_true];exact⟨bg M _ b1,by simp[rel],b3,b4,rfl⟩
  ·rw [if_neg e] at q
   obtain⟨b1,b2,b3,b4,b5⟩:=hall a y z0 (by unfold gk; rw[bB]; exact q) N;simp only[if_neg e];exact⟨bg M _ b1,bg M _ b2,b3,b4,b5⟩
 obtain⟨w',p1,p2,p3⟩:=MA (P:=P) HE1 (cl':=cl) (es':=es.set i (key,some ms.length,bn)) (mes':=g.modify i fun e=>{ e with val:=.map (some O) }) hidE (by
  show I[id]? = _
  rw[hloc id (Ne.symm V)];exact h1) h2 hre (fun a x e U he=>by
  simp only[jL,gF]at he;obtain⟨z0,N,rfl⟩:=dI.1 he;by_cases e:i=a
  ·subst e
   rw[bf hlt]at U;cases U;exact .inr ⟨ms.length,O,rfl,hlv,by simp⟩
  ·rw [aQ e] at U
   simp only[if_neg e];rcases h5 a x z0 U N with h|⟨i',b',a1,a2,a3⟩
   ·exact .inl h
   ·refine .inr ⟨i', b', a1, ?_, a3⟩
    show (db (r' l))[i']? = _
    rw[ht,wS,cK (aG a2)];exact a2)
 have hH:((E.H.set id (.mm l es (ms++[(k,clk)]) cl)).set j .dead).set id (.mm l (es.set i (key,some ms.length,bn)) (ms++[(k,clk)]) cl)=(E.H.set id (.mm l (es.set i (key,some ms.length,bn)) (ms++[(k,clk)]) cl)).set j .dead:=by
  rw[mv _ _ V,kh]
 rw[hH]at p2 p3;have hrun:(z_ t (.map (some b)) d (.map (some O))).run P E.w=.ok () w':=by
  subst hd;simp only[z_,asInt,asIntOf,bS,bT,e1,ft,hfind];exact p1
 exact⟨w',hrun,fun xx=>⟨I,r',by simp[rel],p2,M.trans p3⟩⟩
end Go.AL

namespace Go.AL
open Go
variable [Dr]
theorem Yc{E:Env}(HE:al E){id l k:Nat}{rows:List (List AV)}(hid:E.H[id]? = some (.vec 1 0 rows))(q:rows≠[])(g:jQ E.H l=true) :
  al { w:=E.w,H:=E.H.set id (.b_ l k rows.length []),loc:=E.loc,X:=E.X }/\E.le { w:=E.w,H:=E.H.set id (.b_ l k rows.length []),loc:=E.loc,X:=E.X } :=
 al.xh HE hid rfl rfl rfl (oC g) fun hle=>by
  have ho:=HE.obj id _ hid;simp only[aI]at ho|-;rcases ho with⟨_,d⟩|⟨b,m,h1,⟨cs,el,d,v⟩,y,_,_⟩
  ·exact(q d).elim
  ·have u := Mt (HE.gR l (oC g))
   refine⟨b,m,cs,el,h1,d,?_,dX _,by have:cs.toList.length=cs.size:=jK; omega,fun i rows b hi=>by simp at hi⟩;show (db (E.X.r l)).length=0
   rw[u];rfl
def rG(P:Program)(t:TypeId)(x v:AV)(H:List ab):Option (List ab) :=
 match fP P t,nz v,x with
 | some (n,_),some cs,.sptr id l j w row col=>match H[id]? with
  | some (.b_ l' k d ms) =>
   if cs.length=n/\l=l'/\k=w/\AV.bu cs=true then
    match ms[j]? with
    | some rows=>match rows[row]? with
     |some r=>if col+n<=r.length then some (H.set id (.b_ l k d (ms.set j (rows.set row (putCells r cs col))))) else none
     |none=>none
    |none=>none
   else none
  |_=>none
 |_,_,_=>none
theorem Yd{P:Program}{E:Env}(HE:al E){t:TypeId}{x v:AV}{c d:Value}{H':List ab}(h:rG P t x v E.H=some H')(u:rel E x c)(hv:rel E v d) :
  ∃ w',(tb t c d).run P E.w=.ok () w'/\al { w:=w',H:=H',loc:=E.loc,X:=E.X }/\E.le { w:=w',H:=H',loc:=E.loc,X:=E.X }:=by
 unfold rG at h;split at h
 case h_2=>cases h
 rename_i n ag cs id l j w row col ht hcs;obtain⟨i,dd,hi,hd,hs,ha⟩:=lL ht;obtain⟨hrel,h1⟩:=AK hcs hv;split at h
 case h_2=>cases h
 rename_i l' k n' ms hid;split at h
 case isFalse=>cases h
 rename_i hc;obtain⟨hn,rfl,rfl,hclosed⟩:=hc;split at h
 case h_2=>cases h
 rename_i rows hj;split at h
 case h_2=>cases h
 rename_i r W;split at h
 case isFalse=>cases h
 rename_i hcol;cases h;have hlen:=jn hrel;have hsz:d.cells.size=n:=by rw[<-hn,hlen]; simp
 simp only[rel]at u;obtain⟨_,hpast,hlive⟩:=u;obtain⟨_,b,g1,rfl⟩:=hlive ⟨_,hid,rfl⟩;have ho:=HE.obj id _ hid;simp only[aI]at ho;obtain⟨b0,m0,cs0,el0,U,e3,e4,e5,e6,e7⟩:=ho;obtain⟨m,q1,⟨cur,el,hblk,hsize⟩,q4,q5,q6⟩:=e7 j rows b hj g1;obtain⟨hh,mc,hhh⟩:=pD (dJ g1);have hrlt:=aG W;obtain⟨hrk,hrc⟩:=lN q6 W;rw[cn]at hrc;have hrow1:(row+1)*k<=m*k:=oh _ (by omega);rw[fM,wH]at hrow1;have y:row*k+col+0+d.cells.toList.length<=cur.size:=by rw[hsize]; simp; omega
 have hst:=run_storeCells_at P b (row*k+col) el d.cells.toList 0 cur E.w hblk y (fun v hv=>by rw[tO]; exact h1 v hv);simp only[mq]at hst y;generalize M:E.w.setRow b (cur.toList.take (row*k+col)++d.cells.toList++cur.toList.drop (row*k+col+d.cells.toList.length)).toArray=w' at hst;have hsize':w'.heap.size=E.w.heap.size:=by rw[<-M]; exact setRow_size _ _ _
 have henv:eE E.w w':=by rw[<-M]; exact⟨rfl,rfl,rfl,by first|exact fun _=>aB _|exact fun _=>fV _ _⟩
 have I:∀ x,x≠b->w'.heap[x]? = E.w.heap[x]? := by intro x u; rw[<-M]; exact setRow_other _ _ _ _ u
 have hb':w'.heap[b]? = some (.cells (cur.toList.take (row*k+col)++d.cells.toList++cur.toList.drop (row*k+col+d.cells.toList.length)).toArray el (0,0)):=by
  rw[<-M]; exact setRow_heap E.w b cur _ el (0,0) hblk
 have key:=al.tz (w':=w') (r':=E.X.r) (o':=.b_ l k n' (ms.set j (rows.set row (putCells r cs col)))) HE hid rfl rfl rfl (Ld hsize'.symm) (fun x _ _ u=>I x fun e=>by
   subst e;exact u hh mc hhh) (fun _ _=>rfl) (fun _ _ _ hk=>.inl hk) (fun _ hk=>⟨hk,fun _ V=>V⟩) (fun hle=>?_) henv (.inr ⟨rfl,[],(cB _).symm⟩)
 ·refine ⟨w', ?_, key.1, key.2⟩
  simp only[tb,lE,bS,ft,bT,storeVar,Sem.run_sizeOf hi,hs];rw[if_neg (by omega)];exact hst
 ·simp only [aI]
  have hne:b0≠b:=fun e=>HE.cQ id b0 m0 l hh mc U (by rw[e]; exact hhh);refine⟨b0,m0,cs0,el0,U,?_,?_,by simpa using e5,e6,fun i2 rws bi N g=>?_⟩
  ·show w'.heap[b0]? = _
   rw[I b0 hne];exact e3
  ·show (db (E.X.r l)).length = _
   rw[ib];exact e4
  ·have g : (db (E.X.r l))[i2]? = some bi := g
   by_cases e:j=i2
   ·subst e
    rw[g1]at g;cases g;rw[bf (aG hj)]at N;cases N;refine⟨m,by rw[ib]; exact q1,⟨_,el,hb',?_⟩,by simpa using q4,?_,?_⟩
    ·simp only [zV, en, lF, pq, jK, hsize] at y |-
     omega
    ·intro r' hr'
     rcases List.mem_or_eq_of_mem_set hr' with h'|h'
     ·exact q5 r' h'
     ·rw [h', putCells, w6, w6]
      have:=q5 r (dJ W);simp[wV _ _ this,tF _ _ this,hclosed]
    ·rw [mD] at q6 |-
     intro j2 r' O;rw[dv]at O;split at O
     ·rename_i ej
      subst ej;cases O;refine⟨by rw[ET (by omega)]; exact hrk,?_⟩;rw[cn];exact AP (fun a c hr=>bg hle a hr) hblk hb' y hrc hrel h1 (by omega)
     ·rename_i ej
      obtain⟨g1',g2⟩:=q6 j2 r' O;refine⟨g1',?_⟩;rw[jo]at g2|-;intro q a V;obtain⟨vv,p1,p2,p3⟩:=g2 q a V;refine⟨vv,?_,p2,bg hle a p3⟩;have hql:=aG V;rw[ES hblk hb' y,if_neg]
      ·exact p1
      ·rcases Nat.lt_or_gt_of_ne ej with hlt | hgt
       ·have : (row + 1) * k <= j2 * k := oh _ (by omega)
        rw[fM,wH]at this;simp only[jK];omega
       ·have : (j2 + 1) * k <= row * k := oh _ (by omega)
        rw[fM,wH]at this;omega
   ·rw [aQ e] at N
    obtain⟨m2,p1,⟨c2,el2,p2,p3⟩,p4,p5,p6⟩:=e7 i2 rws bi N g;have hbne:bi≠b:=fun U=>e (Mx HE g1 (by rw[<-U]; exact g));exact⟨m2,p1,⟨c2,el2,by show w'.heap[bi]? = _; rw[I bi hbne]; exact p2,p3⟩,p4,p5,fO (fun a _ hr=>bg hle a hr) (I bi hbne) p6⟩
def xk(P:Program)(t:TypeId)(x v:AV)(H:List ab):Option (List ab) :=
 match fP P t,x,v with
 | some (sz,_),.ptr id q pw row col,.vec k j ver off n=>match H[id]?,H[j]? with
  | some (.b_ l k' d ms),some (.vec u g rows) =>
   if (sz=1/\q=0/\pw=1/\col=0)/\(k=k'/\k=u/\ver=g/\off=0)/\(n=rows.length/\0<n)/\(row=ms.length/\row<d) then some ((H.set id (.b_ l k d (ms++[rows]))).set j .dead) else none
  |_,_=>none
 |_,_,_=>none
theorem Ye{P:Program}{E:Env}(HE:al E){t:TypeId}{x v:AV}{c d:Value}{H':List ab}(h:xk P t x v E.H=some H')(I:rel E x c)(hv:rel E v d) :
  ∃ w',(tb t c d).run P E.w=.ok () w'/\∀ x,cM E .undef H' x w':=by
 unfold xk at h;split at h
 case h_2=>cases h
 rename_i sz ag id pv pw row col k j ver off n ht;split at h
 case h_2=>cases h
 rename_i l k' n' ms k2 ver' rows hid U;split at h
 case isFalse=>cases h
 rename_i hc;obtain⟨⟨rfl,rfl,rfl,rfl⟩,⟨rfl,rfl,rfl,rfl⟩,⟨rfl,hpos⟩,rfl,hlt⟩:=hc;cases h;have hne:j≠id:=fun e=>by rw[e,hid]at U; cases U
 obtain⟨i,dd,hi,hd,hs,ha⟩:=lL ht;simp only[rel]at I;obtain⟨_,_,hlive⟩:=I;obtain⟨b,m,M,rfl⟩:=hlive ⟨_,hid,rfl⟩;have ho:=HE.obj id _ hid;simp only[aI]at ho;obtain⟨b0,m0,cur,el,e2,hblk,e4,e5,e6,e7⟩:=ho;rw[M]at e2;cases e2;have hv0:=hv;simp only[rel]at hv0;obtain⟨⟨base,cap,rfl,_,_⟩,_,hv3⟩:=hv0;have hcells:(Value.slice base rows.length cap).cells=#[.slice base rows.length cap]:=rfl;have hfit:ms.length+0+[Value.slice base rows.length cap].length<=cur.size:=by
  have:cur.toList.length=cur.size:=jK;simp;omega
 have hst:=run_storeCells_at P b ms.length el [Value.slice base rows.length cap] 0 cur E.w hblk hfit (fun v hv=>by simp at hv; subst hv; rw[tO]; rfl);simp only[mq]at hst hfit;generalize V:E.w.setRow b (cur.toList.take ms.length++[Value.slice base rows.length cap]++cur.toList.drop (ms.length+[Value.slice base rows.length cap].length)).toArray=w' at hst;have hsize':w'.heap.size=E.w.heap.size:=by rw[<-V]; exact setRow_size _ _ _
 have henv:eE E.w w':=by rw[<-V]; exact⟨rfl,rfl,rfl,by first|exact fun _=>aB _|exact fun _=>fV _ _⟩
 have N:∀ x,x≠b->w'.heap[x]? = E.w.heap[x]? := by intro x I; rw[<-V]; exact setRow_other _ _ _ _ I
 have hb':w'.heap[b]? = some (.cells (cur.toList.take ms.length++[Value.slice base rows.length cap]++cur.toList.drop (ms.length+[Value.slice base rows.length cap].length)).toArray el (0,0)):=by
  rw[<-V]; exact setRow_heap E.w b cur _ el (0,0) hblk
 have hcell:∀ i,i<ms.length->(cur.toList.take ms.length++[Value.slice base rows.length cap]++cur.toList.drop (ms.length+[Value.slice base rows.length cap].length))[i]? = cur.toList[i]? := fun i hi=>by
  rw[fq,cK (by simp at e6|-; omega),List.getElem?_take,if_pos hi]
 have hat:(cur.toList.take ms.length++[Value.slice base rows.length cap]++cur.toList.drop (ms.length+[Value.slice base rows.length cap].length))[ms.length]? = some (.slice base rows.length cap):=by
  have hl:(cur.toList.take ms.length).length=ms.length:=by
   rw[lF];omega
  rw[fq,iJ (by omega),hl,lH];rfl
 have key:=al.tz (w':=w') (r':=E.X.r) (o':=.b_ l k n' ms) HE hid rfl rfl rfl (Ld hsize'.symm) (fun x _ I _=>N x fun e=>by
   subst e;exact I m M) (fun _ _=>rfl) (fun _ _ _ hk=>.inl hk) (fun _ hk=>⟨hk,fun _ hq=>hq⟩) (fun hle=>by
  simp only[aI];refine⟨b,m,_,el,M,hb',e4,e5,?_,fun i2 rws bi q g=>?_⟩
  ·simp
   simp at e6;omega
  ·have g : (db (E.X.r l))[i2]? = some bi := g
   obtain⟨m2,p1,⟨c2,el2,p2,p3⟩,p4,p5,p6⟩:=e7 i2 rws bi q g;obtain⟨hh,mc,hhh⟩:=pD (dJ g);have O:bi≠b:=fun e=>HE.cQ id b m l hh mc M (by rw[<-e]; exact hhh);exact⟨m2,by simp only[]; rw[hcell i2 (aG q)]; exact p1,⟨c2,el2,by show w'.heap[bi]? = _; rw[N bi O]; exact p2,p3⟩,p4,p5,fO (fun a _ hr=>bg hle a hr) (N bi O) p6⟩) henv (.inr ⟨rfl,[],(cB _).symm⟩)
 rw[XS.El]at key;obtain⟨W,hle1⟩:=key;have hset:E.H.set id (.b_ l k n' ms)=E.H:=by
  apply iK;intro a;rw[dv];split
  ·rename_i e
   subst e;rw[if_pos (aG hid),hid]
  ·rfl
 rw[hset]at W hle1;have hoj:=W.obj j _ U;simp only[aI]at hoj;rcases hoj with⟨_,e⟩|⟨u,y,f1,f2,f3,f4,f5⟩
 ·rw [e] at hpos
  simp at hpos
 obtain⟨_,v5⟩:=hv3 ⟨_,U,rfl⟩;obtain⟨_,o,v7,v8⟩:=v5 u y f1;have:=v7 (by omega);rw[po]at this;subst this;rw[fF]at v8;have hra:dU E.X.r l (some (u,y)) l=E.X.r l++[some (some (u,y))]:=if_pos rfl;have hlv:db (dU E.X.r l (some (u,y)) l)=db (E.X.r l)++[u]:=by
  rw[hra,wS];rfl
 have ho1:=W.obj id _ hid;simp only[aI]at ho1;have key2:=al.attach W (o':=.b_ l k n' (ms++[rows])) hid rfl rfl rfl U rfl f1 (fun hle=>?_) (.inr rfl)
 ·refine ⟨w', ?_, fun x => ⟨_, _, by simp [rel], key2.1, hle1.trans key2.2⟩⟩
  simp only[tb,lE,bS,ft,bT,storeVar,Sem.run_sizeOf hi,hs,hcells];rw[if_neg (by simp)];simpa using hst
 ·simp only [aI]
  refine⟨b,m,_,el,by rw[aQ hne]; exact M,hb',?_,by simp; omega,?_,fun i2 rws bi q g=>?_⟩
  ·show (db (dU E.X.r l (some (u, y)) l)).length = _
   rw[hlv];simp[e4]
  ·simp
   simp at e6;omega
  ·have g : (db (dU E.X.r l (some (u, y)) l))[i2]? = some bi := g
   rw[hlv]at g;rw[fE]at q g;by_cases e:i2<ms.length
   ·rw [if_pos e] at q
    rw[if_pos (by omega)]at g;obtain⟨m2,p1,⟨c2,el2,p2,p3⟩,p4,p5,p6⟩:=e7 i2 rws bi q g;obtain⟨hh,mc,hhh⟩:=pD (dJ g);have O:bi≠b:=fun e=>HE.cQ id b m l hh mc M (by rw[<-e]; exact hhh);exact⟨m2,by simp only[]; rw[hcell i2 e]; exact p1,⟨c2,el2,by show w'.heap[bi]? = _; rw[N bi O]; exact p2,p3⟩,p4,p5,fO (fun a _ hr=>bg (hle1.trans hle) a hr) (N bi O) p6⟩
   ·rw [if_neg e] at q
    rw[if_neg (by omega),e4]at g;cases hk:i2-ms.length with
    | zero =>
     rw[hk]at q g;simp at q g;subst q g;have hi3:i2=ms.length:=by omega
     subst hi3;exact⟨y,by simp only[]; rw[hat,v8],f2,f3,f4,fO (fun a _ hr=>bg hle a hr) rfl f5⟩
    |succ _=>rw[hk]at q; simp at q
end Go.AL

namespace Go.AL
open Go
variable [Dr]
abbrev jR:=AV × (Option (List (List AV)) × Option (List (List AV))) × Nat
theorem Yf{E:Env}(HE:al E){id l w cl:Nat}(hid:E.H[id]? = some (.map [] cl))(g:jQ E.H l=true) :
  al { w:=E.w,H:=E.H.set id (.bp l w [] cl),loc:=E.loc,X:=E.X }/\E.le { w:=E.w,H:=E.H.set id (.bp l w [] cl),loc:=E.loc,X:=E.X } :=
 al.xh HE hid rfl rfl rfl (oC g) fun hle=>by
  have ho:=HE.obj id _ hid;simp only[aI]at ho|-;obtain⟨b,n,ms,h1,q,d⟩:=ho;have k:ms.toList=[]:=by
   have:=(dT.1 d).1;exact ta this.symm
  refine⟨b,n,ms,h1,q,fw (fun a _ hr=>bg hle a hr) d,fun e he=>(by rw[k]at he; cases he),fun _ _=>0,fun s s' i j x y hi=>by simp at hi,fun s i x rows e hi=>by simp at hi⟩
theorem MC{E:Env}(HE:al E){id l w cl:Nat}{es:List jR}{c:Value}(hid:E.H[id]? = some (.bp l w es cl))(hr:rel E (.map id) c) :
  ∃ b n ms,c=.map (some b)/\E.loc[id]? = some (some (b,n))/\E.w.heap[b]? = some (.map ms cl)/\bt E (fv es) ms.toList/\nt E l w es ms.toList:=by
 have ho:=HE.obj id _ hid;simp only[aI]at ho;obtain⟨b,n,ms,h1,d,g,k⟩:=ho;simp only[rel]at hr;obtain⟨_,_,q⟩:=hr;obtain⟨u,v,g1,g2⟩:=q ⟨_,hid,rfl⟩;rw[h1]at g1;simp only[aM,aU]at g1;obtain⟨rfl,rfl⟩:=g1;exact⟨b,n,ms,g2,h1,d,g,k⟩
theorem MD{es:List jR}{i:Nat}{x:jR}(h:es[i]? = some x):(fv es)[i]? = some (x.1,.undef,x.2.2):=by
 unfold fv;rw[bB,h];rfl
theorem ME{es:List jR}{i:Nat}{x y:jR}(hi:es[i]? = some x)(h1:y.1=x.1)(d:y.2.2=x.2.2):fv (es.set i y)=fv es:=by
 apply iK;intro j;unfold fv;rw[bB,bB,dv];split
 ·rename_i e
  subst e;rw[if_pos (aG hi),hi];simp[h1,d]
 ·rfl
def eG(s:Bool)(x:jR) (r:Option (List (List AV))):jR:=(x.1,(bif s then (x.2.1.1,r) else (r,x.2.1.2)),x.2.2)
theorem MF(s:Bool)(x:jR) (r:Option (List (List AV))):(fX s (eG s x r)).2.1=r:=by cases s<;>rfl
theorem MG{s s':Bool}(h:s'≠s)(x:jR) (r:Option (List (List AV))):(fX s' (eG s x r)).2.1=(fX s' x).2.1:=by
 cases s<;>cases s'<;>first|rfl|exact absurd rfl h
theorem MH{E:Env}(HE:al E){id l w cl i:Nat}{es:List jR}{x:jR}{s:Bool}{rows:List (List AV)}{b n:Nat}{ms:Array MapEntry}{e':MapEntry}(hid:E.H[id]? = some (.bp l w es cl))(N:es[i]? = some x)(hsome:(fX s x).2.1=some rows)
  (h1:E.loc[id]? = some (some (b,n))) (h2:E.w.heap[b]? = some (.map ms cl)) (h3:bt E (fv es) ms.toList) (h4:nt E l w es ms.toList) (q4:ms.toList[i]? = some e') :
  ∃ V r',al { w:=E.w,H:=E.H.set id (.bp l w (es.set i (eG s x none)) cl)++[.vec w 0 rows],loc:=V,X:=E.X.re r' }/\E.le { w:=E.w,H:=E.H.set id (.bp l w (es.set i (eG s x none)) cl)++[.vec w 0 rows],loc:=V,X:=E.X.re r' } /\
   rel { w:=E.w,H:=E.H.set id (.bp l w (es.set i (eG s x none)) cl)++[.vec w 0 rows],loc:=V,X:=E.X.re r' } (.vec w E.H.length 0 0 rows.length) (pE s e'.val)/\V[id]? = some (some (b,n)):=by
 have hlenH:E.H.length=E.loc.length:=HE.len.symm;obtain⟨k00,O,k1,k2⟩:=h4;have hsl:=k2 s i x rows e' N hsome q4;have hls:(fX s x).2.1.isSome=true:=by rw[hsome]; rfl
 obtain⟨d,h0,z1,z2,z3⟩:∃(d:Option (Nat × Nat)) (h0:Nat),(∀ b m,d=some (b,m)->(E.X.r l)[h0]? = some (some (some (b,m)))) /\
   (∀ s' (j:Nat) y,es[j]? = some y->(fX s' y).2.1.isSome=true->¬ (s'=s/\j=i)->∀ b m,(E.X.r l)[O s' j]? = some (some (some (b,m)))->O s' j≠h0) /\
   ((d=none/\rows=[]/\∃ base,pE s e'.val=.slice base 0 0)\/∃ b m,d=some (b,m)/\pE s e'.val=.slice (some ⟨b,0,none⟩) rows.length m/\isRow E.w b (m*w)/\rows.length<=m/\eD rows/\cy E w rows b 0):=by
  rcases hsl with⟨s1,s2⟩|⟨k,mm,s1,s2,W,U,s5,s6⟩
  ·exact⟨none,(E.X.r l).length,fun _ _ e=>(by cases e),fun s' j y _ _ _ b m hb e=>(by rw[e]at hb; have:=aG hb; omega),.inl ⟨rfl,s1,s2⟩⟩
  ·exact⟨some (k,mm),O s i,fun _ _ e=>(by cases e; exact s1),fun s' j y g hsy hne _ _ _ e=>hne (k1 s' s j i _ _ g N hsy hls e),.inr ⟨k,mm,rfl,s2,W,U,s5,s6⟩⟩
 have old:∀ s' (j:Nat) y,(es.set i (eG s x none))[j]? = some y->(fX s' y).2.1.isSome=true->∃ M,es[j]? = some M/\(fX s' M).2.1=(fX s' y).2.1/\¬ (s'=s/\j=i):=fun s' j y g hsm=>by
  by_cases e:i=j
  ·subst e
   rw[bf (aG N)]at g;cases g;by_cases e2:s'=s
   ·subst e2
    rw[MF]at hsm;cases hsm
   ·exact⟨x,N,(MG e2 x none).symm,fun h=>e2 h.1⟩
  ·rw [aQ e] at g
   exact⟨y,g,rfl,fun h=>e h.2.symm⟩
 obtain⟨r1,r2⟩:=al.A1 HE (id:=id) (l0:=l) (h0:=h0) (o':=.bp l w (es.set i (eG s x none)) cl) (ov:=.vec w 0 rows) (q:=d) hid rfl rfl rfl rfl z1 fun hle=>by
  refine⟨?_,?_⟩
  ·simp only [aI]
   refine⟨b,n,ms,?_,h2,?_,k00,O,fun s1 s2 a c y z g hz sy sz he=>?_,fun s1 a y rws e g hr he=>?_⟩
   ·rw [cK (aG h1)]
    exact h1
   ·rw [ME (y := eG s x none) N rfl rfl]
    exact fw (fun a _ hr=>bg hle a hr) h3
   ·obtain ⟨M, o1, o2, _⟩ := old s1 a y g sy
    obtain⟨z0,o3,o4,_⟩:=old s2 c z hz sz;exact k1 s1 s2 a c M z0 o1 o3 (by rw[o2]; exact sy) (by rw[o4]; exact sz) he
   ·obtain ⟨M, o1, o2, o3⟩ := old s1 a y g (by rw [hr]; rfl)
    rcases k2 s1 a M rws e o1 (by rw[o2]; exact hr) he with I|⟨k,mm,t1,t2,t3,t4,t5,t6⟩
    ·exact .inl I
    ·refine .inr ⟨k, mm, ?_, t2, t3, t4, t5, fO (fun a _ hr => bg hle a hr) rfl t6⟩
     have hne:=z2 s1 a M o1 (by rw[o2,hr]; rfl) o3 k mm t1;show (gn E.X.r l h0 l)[O s1 a]? = _
     rw[A0 fun e=>hne e.2];exact t1
  ·simp only [aI]
   have I:(E.loc++[d])[E.H.length]? = some d:=by rw[hlenH]; simp
   rcases z3 with⟨rfl,s1,_⟩|⟨k,mm,rfl,_,W,U,s5,s6⟩
   ·exact .inl ⟨I,s1⟩
   ·exact .inr ⟨k,mm,I,W,U,s5,fO (fun a _ hr=>bg hle a hr) rfl s6⟩
 refine⟨E.loc++[d],gn E.X.r l h0,r1,r2,?_,by rw[cK (aG h1)]; exact h1⟩;have hnew:(E.H.set id (.bp l w (es.set i (eG s x none)) cl)++[.vec w 0 rows])[E.H.length]? = some (.vec w 0 rows):=by
  rw[iJ (by simp)];simp
 have I:(E.loc++[d])[E.H.length]? = some d:=by rw[hlenH]; simp
 simp only[rel];rcases z3 with⟨rfl,s1,base,s2⟩|⟨k,mm,rfl,s2,W,U,s5,s6⟩
 ·subst s1
  refine⟨⟨base,0,by rw[s2]; rfl,aB _,fun h=>by simp at h⟩,⟨_,hnew,rfl,fun v hv=>by cases hv; exact aB _⟩,fun _=>⟨fun _=>⟨by first|rfl|trivial,by first|rfl|trivial,base,s2⟩,fun b' m' u=>?_⟩⟩;rw[I]at u;cases u
 ·refine ⟨⟨_, mm, s2, U, fun _ => ⟨k, 0, rfl⟩⟩, ⟨_, hnew, rfl, fun v hv => by cases hv; exact aB _⟩, fun _ => ⟨fun u => ?_, fun b' m' u => ?_⟩⟩
  ·rw [I] at u
   cases u
  ·rw [I] at u
   cases u;exact⟨by omega,0,fun _=>by simp,by rw[s2,fF]⟩
def xl(P:Program)(t:TypeId)(m k:AV)(H:List ab):Option (AV × List ab) :=
 match c6 P t,m with
 | some (d,g),.map id=>match H[id]? with
  | some (.bp l w es cl)=>match gS P d k,im P g with
   | some q,some (.agg [.lit (.slice none 0 0),.lit (.slice none 0 0)])=>match d_ P d q (fv es) 0 with
    | some (some (i,_))=>match es[i]? with
     |some (key,(some r0,some r1),n)=>some (.agg [.vec w H.length 0 0 r0.length,.vec w (H.length+1) 0 0 r1.length],H.set id (.bp l w (es.set i (key,(none,none),n)) cl)++[.vec w 0 r0]++[.vec w 0 r1])
     |_=>none
    |some none=>some (.agg [.vec w H.length 0 0 0,.vec w (H.length+1) 0 0 0],H++[.vec w 0 []]++[.vec w 0 []])
    |none=>none
   |_,_=>none
  |_=>none
 |_,_=>none
theorem Yg{P:Program}{E:Env}(HE:al E){t:TypeId}{m k v:AV}{c d:Value}{H':List ab}(h:xl P t m k E.H=some (v,H'))(hm:rel E m c)(hk:rel E k d) :
  ∃ u w',(kg t c d false).run P E.w=.ok u w'/\cM E v H' u w':=by
 unfold xl at h;split at h
 case h_2=>cases h
 rename_i kt et id ht;split at h
 case h_2=>cases h
 rename_i l w es cl hid;split at h
 case h_2=>cases h
 rename_i kv hkv hz;obtain⟨b,n,ms,rfl,h1,W,h3,h4⟩:=MC HE hid hm;have O:=il hkv hk;have e1:(getObj b).run P E.w=.ok (.map ms cl) E.w:=by simp[getObj,gE,W]
 split at h
 ·rename_i i v0 hf
  split at h
  case h_2=>cases h
  rename_i key r0 r1 bn hes;cases h;obtain⟨r',g1,g2⟩:=gH O E.w h3 hf;cases r' with
  |none=>simp[cZ]at g2
  | some q =>
   simp only[cZ]at g2;obtain⟨q1,q2,_,e',q4,q5⟩:=g2;simp only[fF]at q4;have hval:q.2=e'.val:=q5.symm;obtain⟨va,vb,hab,ha1,hb1⟩:=h4.1 e' (dJ q4);obtain⟨loc1,rr1,U,hle1,M,hl1⟩:=MH (s:=false) (rows:=r0) HE hid hes rfl h1 W h3 h4 q4;have hid1:({ w:=E.w,H:=E.H.set id (.bp l w (es.set i (eG false (key,(some r0,some r1),bn) none)) cl)++[.vec w 0 r0],loc:=loc1,X:=E.X.re rr1 }:Env).H[id]? = some (.bp l w (es.set i (eG false (key,(some r0,some r1),bn) none)) cl):=by
    simp only[];rw[cK (by rw[ib]; exact aG hid),bf (aG hid)]
   have ho1:=U.obj id _ hid1;simp only[aI]at ho1;obtain⟨b2,n2,ms2,o1,o2,o3,o4⟩:=ho1;rw[hl1]at o1;simp only[aM,aU]at o1;obtain⟨rfl,rfl⟩:=o1;rw[W]at o2;cases o2;obtain⟨loc2,rr2,V,I,g,_⟩:=MH (s:=true) (rows:=r1) U hid1 (bf (aG hes)) rfl hl1 W o3 o4 q4;have hH:(E.H.set id (ab.bp l w (es.set i (eG false (key,(some r0,some r1),bn) none)) cl)++[ab.vec w 0 r0]).set id (ab.bp l w ((es.set i (eG false (key,(some r0,some r1),bn) none)).set i (eG true (eG false (key,(some r0,some r1),bn) none) none)) cl)++[ab.vec w 0 r1] =
     E.H.set id (ab.bp l w (es.set i (key,(none,none),bn)) cl)++[ab.vec w 0 r0]++[ab.vec w 0 r1]:=by
    rw[List.set_append_left _ _ (by rw[ib]; exact aG hid),kh,kh];rfl
   have hHl:(E.H.set id (ab.bp l w (es.set i (eG false (key,(some r0,some r1),bn) none)) cl)++[ab.vec w 0 r0]).length=E.H.length+1:=by simp
   refine⟨q.2,E.w,?_,loc2,rr2,?_,?_,?_⟩
   ·simp only [kg, bS, Sem.bk (fG ht), bT, e1, ft, fZ O, g1]
    rfl
   ·rw [hval, hab]
    simp only[rel];rw[hab]at M g;have hva:pE false (.agg #[va,vb])=va:=rfl;have hvb:pE true (.agg #[va,vb])=vb:=rfl;rw[hva]at M;rw[hvb]at g;have hv1':=bg I _ M;simp only[hHl]at g;refine⟨_,rfl,fun y N=>?_,?_⟩
    ·simp at N
     rcases N with rfl|rfl
     ·exact ha1
     ·exact hb1
    ·simp only [ae, and_true]
     rw[hH]at hv1' g;exact⟨hv1',g⟩
   ·rw [hH] at V
    exact V
   ·have := hle1.trans I
    rw[hH]at this;exact this
 ·rename_i hf
  cases h;obtain⟨r',g1,g2⟩:=gH O E.w h3 hf;cases r' with
  |some _=>simp[cZ]at g2
  | none =>
   obtain⟨zv,z1,z2⟩:=ry hz E.w;have hzv:zv=.agg #[.slice none 0 0,.slice none 0 0]:=by
    have:=z2 E;simp only[rel]at this;obtain⟨cs,rfl,_,h⟩:=this;obtain⟨cl⟩:=cs
    match cl,h with
    | [a,c],h =>
     simp only[ae,rel,and_true]at h;rw[h.1,h.2]
    | [],h=>simp[ae]at h
    | [_],h=>simp[ae]at h
    |_::_::_::_,h=>simp[ae]at h
   obtain⟨U,hle1,M⟩:=E8 HE w;obtain⟨V,I,g⟩:=E8 U w;refine⟨zv,E.w,?_,E.loc++[none]++[none],E.X.r,?_,V,hle1.trans I⟩
   ·simp only [kg, bS, Sem.bk (fG ht), bT, e1, ft, fZ O, g1, z1]
    rfl
   ·rw [hzv]
    simp only[rel];refine⟨_,rfl,fun y N=>by simp at N; subst N; rfl,?_⟩;simp only[ae,and_true];have hl:(E.H++[ab.vec w 0 []]).length=E.H.length+1:=by simp
    simp only[hl]at g;exact⟨bg I _ M,g⟩
 ·cases h
def xm(P:Program)(t:TypeId)(m k v:AV)(H:List ab):Option (List ab) :=
 match c6 P t,m,v with
 | some (u,_),.map id,.agg [.vec O d v0 o0 U,.vec V g v1 o1 W]=>match H[id]?,H[d]?,H[g]? with
  | some (.bp l w es cl),some (.vec y I q),some (.vec M N Ad)=>match gS P u k with
   | some kv=>if ((O=w/\y=w)/\(V=w/\M=w))/\((v0=I/\v1=N)/\(o0=0/\o1=0))/\(U=q.length/\W=Ad.length)/\(d≠g/\k.closed=true) then
     match d_ P u kv (fv es) 0 with
     |some (some (i,_))=>some (((H.set id (.bp l w (es.modify i fun e=>(k,(some q,some Ad),e.2.2)) cl)).set d .dead).set g .dead)
     |some none=>some (((H.set id (.bp l w (es++[(k,(some q,some Ad),cl)]) (cl+1))).set d .dead).set g .dead)
     |none=>none
    else none
   |none=>none
  |_,_,_=>none
 |_,_,_=>none
theorem Yh{P:Program}{E:Env}(HE:al E){id l w b n cl cl':Nat}{es es':List jR}{ms ms':Array MapEntry}(hid:E.H[id]? = some (.bp l w es cl)) (d:E.loc[id]? = some (some (b,n)))
  (hb:E.w.heap[b]? = some (.map ms cl)) (hr:bt E (fv es') ms'.toList) (u:nt E l w es' ms'.toList) :
  ∃ w',(setObj b (.map ms' cl')).run P E.w=.ok () w'/\al { w:=w',H:=E.H.set id (.bp l w es' cl'),loc:=E.loc,X:=E.X }/\E.le { w:=w',H:=E.H.set id (.bp l w es' cl'),loc:=E.loc,X:=E.X } /\
   w'.heap[b]? = some (.map ms' cl')/\∀ y,y≠b->w'.heap[y]? = E.w.heap[y]? := by
 have q:=(HE.lt id b n d).1;have v:({ E.w with heap:=E.w.heap.setIfInBounds b (.map ms' cl') }:World).heap.size=E.w.heap.size:=by simp
 have k:∀ y,y≠b->({ E.w with heap:=E.w.heap.setIfInBounds b (.map ms' cl') }:World).heap[y]? = E.w.heap[y]? := by
  intro y N;simp only[zW];rw[if_neg (fun e=>N e.symm)]
 have key:=al.tz (E:=E) (w':={ E.w with heap:=E.w.heap.setIfInBounds b (.map ms' cl') }) (o':=.bp l w es' cl') (r':=E.X.r) HE hid rfl rfl rfl (by rw[v]; exact aB _) (fun x _ I _=>k x fun e=>I n (by rw[e]; exact d)) (fun _ _=>rfl) (fun _ _ _ h=>.inl h) (fun h O=>⟨O,fun _ U=>U⟩) (fun hle=>by
  simp only[aI];refine⟨b,n,ms',d,by simp[q],fw (fun a _ hr=>bg hle a hr) hr,Az (E:=E) (fun h g m hk=>⟨hk,k g fun e=>HE.cQ _ _ _ _ _ _ d (by rw[<-e]; exact hk)⟩) (fun _ _ _ _ _ _ V M _ hr=>fO (fun a _ hr=>bg hle a hr) M hr) u⟩) ⟨rfl,rfl,rfl,by first|exact fun _=>aB _|exact fun _=>fV _ _⟩
 rw[XS.El]at key;exact⟨_,by simp[setObj,gE,hb],key.1,key.2,by simp[q],k⟩
theorem MI{E:Env}(HE:al E){id j l w cl i ver:Nat}{es:List jR}{rows:List (List AV)}{x:jR}{s:Bool}{b n:Nat}{ms:Array MapEntry}{e:MapEntry}(hid:E.H[id]? = some (.bp l w es cl))(I:E.H[j]? = some (.vec w ver rows))
  (hi:es[i]? = some x) (hnone:(fX s x).2.1=none) (hloc:E.loc[id]? = some (some (b,n))) (hb:E.w.heap[b]? = some (.map ms cl)) (he:ms.toList[i]? = some e) (hr:bt E (fv es) ms.toList) (hsl:nt E l w es ms.toList) (hv:rel E (.vec w j ver 0 rows.length) (pE s e.val)) :
  ∃ O r',al { w:=E.w,H:=(E.H.set id (.bp l w (es.set i (eG s x (some rows))) cl)).set j .dead,loc:=O,X:=E.X.re r' }/\E.le { w:=E.w,H:=(E.H.set id (.bp l w (es.set i (eG s x (some rows))) cl)).set j .dead,loc:=O,X:=E.X.re r' }/\O[id]? = some (some (b,n)):=by
 have U:j≠id:=fun e=>by rw[e,hid]at I; cases I
 have V:=HE.obj j _ I;simp only[rel]at hv;obtain⟨_,_,v3⟩:=hv;obtain⟨v4,v5⟩:=v3 ⟨_,I,rfl⟩;simp only[aI]at V;obtain⟨q,hq⟩:∃ q,E.loc[j]? = some q:=by
  rcases V with⟨h1,_⟩|⟨b',m',h1,_⟩
  ·exact⟨_,h1⟩
  ·exact⟨_,h1⟩
 obtain⟨k00,N,k1,k2⟩:=hsl;have htl:∀ h,h<(E.X.r l).length->(dU E.X.r l q l)[h]? = (E.X.r l)[h]? := fun h d=>(E2 d).2;have hnew:(dU E.X.r l q l)[(E.X.r l).length]? = some (some q):=by
  unfold dU;rw[if_pos rfl];simp
 have hlocid:(E.loc.set j none)[id]? = some (some (b,n)):=by rw[aQ U]; exact hloc
 obtain⟨r1,r2⟩:=al.attach HE (id:=id) (j:=j) (o':=.bp l w (es.set i (eG s x (some rows))) cl) (q:=q) hid rfl rfl rfl I rfl hq fun hle=>by
  simp only[aI];refine⟨b,n,ms,hlocid,hb,by rw[ME (y:=eG s x (some rows)) hi rfl rfl]; exact fw (fun a _ hr=>bg hle a hr) hr,k00,?_⟩;have W:∀ s' (a:Nat) y,(es.set i (eG s x (some rows)))[a]? = some y->(fX s' y).2.1.isSome=true->¬ (s'=s/\a=i)->∃ v,es[a]? = some v/\(fX s' v).2.1=(fX s' y).2.1:=fun s' a y g hsm U=>by
   by_cases e:i=a
   ·subst e
    rw[bf (aG hi)]at g;cases g;by_cases e2:s'=s
    ·exact(U ⟨e2,rfl⟩).elim
    ·exact⟨x,hi,(MG e2 x _).symm⟩
   ·rw [aQ e] at g
    exact⟨y,g,rfl⟩
  have at_i:∀ y,(es.set i (eG s x (some rows)))[i]? = some y->y=eG s x (some rows):=fun y g=>by
   rw[bf (aG hi)]at g;cases g;rfl
  refine⟨fun s' a=>if s'=s/\a=i then (E.X.r l).length else if N s' a<(E.X.r l).length then N s' a else (E.X.r l).length+1+N s' a,fun s1 s2 a c y z g hz sy sz d=>?_,fun s1 a y rws e' g M he'=>?_⟩
  ·by_cases k : s1 = s /\ a = i
   ·by_cases u : s2 = s /\ c = i
    ·exact⟨by rw[k.1,u.1],by rw[k.2,u.2]⟩
    ·simp only [if_pos k, if_neg u] at d
     split at d<;>omega
   ·by_cases u : s2 = s /\ c = i
    ·simp only [if_neg k, if_pos u] at d
     split at d<;>omega
    ·simp only [if_neg k, if_neg u] at d
     obtain⟨v,o1,o2⟩:=W s1 a y g sy k;obtain⟨z0,o3,o4⟩:=W s2 c z hz sz u;refine k1 s1 s2 a c v z0 o1 o3 (by rw[o2]; exact sy) (by rw[o4]; exact sz) ?_;split at d<;>split at d<;>omega
  ·by_cases k : s1 = s /\ a = i
   ·obtain ⟨rfl, rfl⟩ := k
    have:=at_i y g;subst this;rw[MF]at M;cases M;rw[he]at he';cases he';rcases V with⟨h1,h2⟩|⟨b',m',h1,h2,h3,h4,h5⟩
    ·obtain ⟨_, _, base, h3⟩ := v4 h1
     subst h2;exact .inl ⟨rfl,base,h3⟩
    ·obtain ⟨h6, o, h7, h8⟩ := v5 b' m' h1
     rw[hq]at h1;cases h1;simp only[cn,po,fF]at h6 h7 h8;by_cases hm:0<m'
     ·have := h7 hm
      subst this;refine .inr ⟨b',m',?_,h8,h2,h3,h4,fO (fun a _ hr=>bg hle a hr) rfl h5⟩;simp only[and_self,if_true];exact hnew
     ·have hr0 : rows = [] := ta (by omega)
      have hm0:m'=0:=by omega
      subst hr0;subst hm0;exact .inl ⟨rfl,_,h8⟩
   ·obtain ⟨v, o1, o2⟩ := W s1 a y g (by rw [M]; rfl) k
    rcases k2 s1 a v rws e' o1 (by rw[o2]; exact M) he' with hl|⟨bb,mm,s1',s2,s3,s4,s5,s6⟩
    ·exact .inl hl
    ·refine .inr ⟨bb, mm, ?_, s2, s3, s4, s5, fO (fun a _ hr => bg hle a hr) rfl s6⟩
     have d:=aG s1';simp only[if_neg k,if_pos d];show (dU E.X.r l q l)[N s1 a]? = _
     rw[htl _ d];exact s1'
 exact⟨_,_,r1,r2,hlocid⟩
theorem MJ{P:Program}{E:Env}(HE:al E){id l w cl cl' i g k v0 v1:Nat}{es es':List jR}{d Ad:List (List AV)}{key:AV}{bn b n:Nat}{ms ms':Array MapEntry}{e:MapEntry}{u0 u1:Value}
  (hid:E.H[id]? = some (.bp l w es cl)) (v:E.H[g]? = some (.vec w v0 d)) (y:E.H[k]? = some (.vec w v1 Ad)) (hne:g≠k) (u:E.loc[id]? = some (some (b,n)))
  (hb:E.w.heap[b]? = some (.map ms cl)) (hr:bt E (fv es') ms'.toList) (hsl:nt E l w es' ms'.toList) (hi:es'[i]? = some (key,(none,none),bn)) (he:ms'.toList[i]? = some e) (U:e.val=.agg #[u0,u1])
  (hv0:rel E (.vec w g v0 0 d.length) u0) (hv1:rel E (.vec w k v1 0 Ad.length) u1) :
  ∃ w',(setObj b (.map ms' cl')).run P E.w=.ok () w'/\∀ x,cM E .undef (((E.H.set id (.bp l w (es'.set i (key,(some d,some Ad),bn)) cl')).set g .dead).set k .dead) x w':=by
 have I:g≠id:=fun e=>by rw[e,hid]at v; cases v
 have hn1:k≠id:=fun e=>by rw[e,hid]at y; cases y
 obtain⟨w',p1,p2,M,q,p5⟩:=Yh (P:=P) HE (cl':=cl') hid u hb hr hsl;have V:({ w:=w',H:=E.H.set id (.bp l w es' cl'),loc:=E.loc,X:=E.X }:Env).H[id]? = some (.bp l w es' cl'):=by
  simp only[];rw[bf (aG hid)]
 have W:=p2.obj id _ V;simp only[aI]at W;obtain⟨b2,n2,ms2,o1,o2,o3,o4⟩:=W;rw[u]at o1;simp only[aM,aU]at o1;obtain⟨rfl,rfl⟩:=o1;rw[q]at o2;cases o2;obtain⟨loc1,r1,q1,q2,q3⟩:=MI (s:=false) (rows:=d) (j:=g) (ver:=v0) p2 V (by simp only[]; rw[aQ (Ne.symm I)]; exact v) hi rfl u q he o3 o4 (by rw[U]; exact bg M _ hv0);have N:({ w:=w',H:=((E.H.set id (.bp l w es' cl')).set id (.bp l w (es'.set i (eG false (key,(none,none),bn) (some d))) cl')).set g .dead,loc:=loc1,X:=E.X.re r1 }:Env).H[id]? = some (.bp l w (es'.set i (eG false (key,(none,none),bn) (some d))) cl'):=by
  simp only[];rw[aQ I,bf (by rw[ib]; exact aG hid)]
 have O:=q1.obj id _ N;simp only[aI]at O;obtain⟨b3,n3,ms3,o5,o6,o7,o8⟩:=O;rw[q3]at o5;simp only[aM,aU]at o5;obtain⟨rfl,rfl⟩:=o5;rw[q]at o6;cases o6;obtain⟨loc2,r2,q4,q5,_⟩:=MI (s:=true) (rows:=Ad) (j:=k) (ver:=v1) q1 N (by
   simp only[];rw[aQ hne,aQ (Ne.symm hn1),aQ (Ne.symm hn1)];exact y) (bf (aG hi)) rfl q3 q he o7 o8 (by rw[U]; exact bg (M.trans q2) _ hv1)
 refine⟨w',p1,fun x=>⟨loc2,r2,by simp[rel],?_,M.trans (q2.trans ?_)⟩⟩
 all_goals
  have hH:((((E.H.set id (.bp l w es' cl')).set id (.bp l w (es'.set i (eG false (key,(none,none),bn) (some d))) cl')).set g .dead).set id (.bp l w ((es'.set i (eG false (key,(none,none),bn) (some d))).set i (eG true (eG false (key,(none,none),bn) (some d)) (some Ad))) cl')).set k .dead =
    ((E.H.set id (.bp l w (es'.set i (key,(some d,some Ad),bn)) cl')).set g .dead).set k .dead:=by
   rw[kh,mv _ _ I,kh,kh];rfl
 ·rw [hH] at q4
  exact q4
 ·rw [hH] at q5
  exact q5
theorem Yi{P:Program}{E:Env}(HE:al E){t:TypeId}{m k v:AV}{c d u:Value}{H':List ab}(h:xm P t m k v E.H=some H')(hm:rel E m c)(hk:rel E k d)(hv:rel E v u) :
  ∃ w',(lG t c d u).run P E.w=.ok () w'/\∀ x,cM E .undef H' x w':=by
 unfold xm at h;split at h
 case h_2=>cases h
 rename_i kt et id w0 j0 v0 o0 n0 w1 j1 v1 o1 n1 ht;split at h
 case h_2=>cases h
 rename_i l w es cl w0' v0' rows0 w1' v1' Ad hid hj0 hj1;split at h
 case h_2=>cases h
 rename_i kv hkv;split at h
 case isFalse=>cases h
 rename_i hc;obtain⟨⟨⟨rfl,rfl⟩,⟨rfl,rfl⟩⟩,⟨⟨rfl,rfl⟩,⟨rfl,rfl⟩⟩,⟨rfl,rfl⟩,hne,hcl⟩:=hc;obtain⟨b,n,ms,rfl,h1,h2,h3,h4⟩:=MC HE hid hm;have hkv':=il hkv hk;have e1:(getObj b).run P E.w=.ok (.map ms cl) E.w:=by simp[getObj,gE,h2]
 obtain⟨hlen,hall⟩:=dT.1 h3;rw[W1]at hlen;obtain⟨M,N,rfl,hu0,hu1,ho0,ho1⟩:∃ M N,u=.agg #[M,N]/\rel E (.vec w1' j0 v0 0 rows0.length) M/\rel E (.vec w1' j1 v1 0 Ad.length) N/\dm M=true/\dm N=true:=by
  rw[rel]at hv;obtain⟨cs,rfl,ho,h⟩:=hv;obtain⟨cl⟩:=cs
  match cl,h,ho with
  | [a,c],h,ho =>
   simp only[ae,and_true]at h;exact⟨a,c,rfl,h.1,h.2,ho a (by simp),ho c (by simp)⟩
  | [],h,_=>simp[ae]at h
  | [_],h,_=>simp[ae]at h
  |_::_::_::_,h,_=>simp[ae]at h
 split at h
 ·rename_i i v0 hf
  cases h;obtain⟨r',g1,g2⟩:=gH hkv' E.w h3 hf;cases r' with
  |none=>simp[cZ]at g2
  | some q =>
   simp only[cZ]at g2;obtain⟨q1,q2,_,e',W,q5⟩:=g2;obtain⟨_,x,y,f1,f2,f3⟩:=tT hf;simp only[fF]at W f1;obtain⟨a1,a2,a3,a4,a5⟩:=hall i x e' f1 W;obtain⟨s1,s2⟩:=xa hkv' (il f2 a1) f3;have q4':ms[i]? = some e':=by simpa using W
   have hlt:i<es.length:=by have:=aG W; omega
   obtain⟨O,hx0⟩:∃ O,es[i]? = some O:=⟨es[i],bx hlt⟩
   have hx:x=(O.1,.undef,O.2.2):=by rw[MD hx0]at f1; cases f1; rfl
   have hre:bt E (fv (es.set i (k,(none,none),O.2.2))) (ms.modify i fun e=>{ e with key:=d,val:=.agg #[M,N] }).toList:=by
    rw[dT];refine⟨by simp[fv,hlen],fun a y z g I=>?_⟩;simp only[jL,gF]at I;obtain⟨z0,U,rfl⟩:=dI.1 I;unfold fv at g;rw[bB,dv]at g;by_cases e:i=a
    ·subst e
     rw[if_pos rfl,if_pos hlt]at g;cases g;rw[W]at U;cases U;simp only[if_true];refine⟨hk,by simp[rel],?_,hcl,rfl⟩;rw[a3,hx]
    ·rw [if_neg e] at g
     obtain⟨b1,b2,b3,b4,b5⟩:=hall a y z0 (by unfold fv; rw[bB]; exact g) U;simp only[if_neg e];exact⟨b1,b2,b3,b4,b5⟩
   have hsl2:nt E l w1' (es.set i (k,(none,none),O.2.2)) (ms.modify i fun e=>{ e with key:=d,val:=.agg #[M,N] }).toList:=by
    obtain⟨k00,hs,k1,k2⟩:=h4;have V:∀ s (a:Nat) y,(es.set i (k,((none:Option (List (List AV))),(none:Option (List (List AV)))),O.2.2))[a]? = some y->(fX s y).2.1.isSome=true->es[a]? = some y/\a≠i:=fun s a y g hsm=>by
     by_cases ei:i=a
     ·subst ei
      rw[bf hlt]at g;cases g;cases s<;>cases hsm
     ·rw [aQ ei] at g
      exact⟨g,Ne.symm ei⟩
    refine⟨fun e he=>?_,hs,fun s s' a c y z g I sy sz he=>k1 s s' a c y z (V s a y g sy).1 (V s' c z I sz).1 sy sz he,fun s a y rws e g hr he=>?_⟩
    ·obtain ⟨a, ha, hea⟩ := pj he
     have I:(ms.modify i fun e=>{ e with key:=d,val:=.agg #[M,N] }).toList[a]? = some e:=by rw[bx ha,hea]
     simp only[jL,gF]at I;obtain⟨z0,U,rfl⟩:=dI.1 I;by_cases e:i=a
     ·subst e
      simp only[if_true];exact⟨M,N,rfl,ho0,ho1⟩
     ·simp only [if_neg e]
      exact k00 z0 (dJ U)
    ·obtain ⟨o1, o2⟩ := V s a y g (by rw [hr]; rfl)
     simp only[jL,gF]at he;obtain⟨z0,U,rfl⟩:=dI.1 he;rw[if_neg (Ne.symm o2)];exact k2 s a y rws z0 o1 hr U
   have hst:(pt e'.key d).run P E.w=.ok d E.w:=by simp[pt,s2]
   obtain⟨w',p1,p2⟩:=MJ (P:=P) HE (cl':=cl) (i:=i) (key:=k) (bn:=O.2.2) (e:={ e' with key:=d,val:=.agg #[M,N] }) hid hj0 hj1 hne h1 h2 hre hsl2 (bf hlt) (by
    simp only[jL,gF,W];simp) rfl hu0 hu1
   refine⟨w',?_,fun xx=>?_⟩
   ·subst q1
    simp only[lG,bS,Sem.bk (fG ht),bT,e1,fZ hkv',g1,q4',dS,np,hst];exact p1
   ·have hm:es.modify i (fun e=>(k,(some rows0,some Ad),e.2.2))=(es.set i (k,(none,none),O.2.2)).set i (k,(some rows0,some Ad),O.2.2):=by
     rw[kh];apply iK;intro j;rw[gF,dv];by_cases e:i=j
     ·subst e
      rw[if_pos rfl,if_pos hlt,hx0];simp
     ·rw [if_neg e]
      simp[e]
    rw[hm];exact p2 xx
 ·rename_i hf
  cases h;obtain⟨r',g1,g2⟩:=gH hkv' E.w h3 hf;cases r' with
  |some _=>simp[cZ]at g2
  | none =>
   have hml:ms.toList.length=es.length:=by omega
   have hre:bt E (fv (es++[(k,(none,none),cl)])) (ms.push { key:=d,val:=.agg #[M,N],born:=cl }).toList:=by
    rw[dT];refine⟨by simp[fv,hlen],fun a y z g I=>?_⟩;unfold fv at g;rw[eO]at g;simp only[mu,fE,bN]at g I;rw[hml]at I;by_cases e:a<es.length
    ·simp only [if_pos e] at g I
     exact hall a y z (by unfold fv; exact g) I
    ·simp only [if_neg e] at g I
     cases hj2:a-es.length with
     | zero =>
      rw[hj2]at g I;simp at g I;subst g; subst I;exact⟨hk,by simp[rel],rfl,hcl,rfl⟩
     |succ _=>rw[hj2]at g; simp at g
   have hsl2:nt E l w1' (es++[(k,(none,none),cl)]) (ms.push { key:=d,val:=.agg #[M,N],born:=cl }).toList:=by
    obtain⟨k00,hs,k1,k2⟩:=h4;have V:∀ s (a:Nat) y,(es++[(k,((none:Option (List (List AV))),(none:Option (List (List AV)))),cl)])[a]? = some y->(fX s y).2.1.isSome=true->es[a]? = some y/\a<es.length:=fun s a y g hsm=>by
     rw[fE]at g;split at g
     ·rename_i hh
      exact⟨g,hh⟩
     ·cases hk2 : a - es.length with
      | zero =>
       rw[hk2]at g;simp at g;subst g;cases s<;>cases hsm
      |succ _=>rw[hk2]at g; simp at g
    refine⟨fun e he=>?_,hs,fun s s' a c y z g I sy sz he=>k1 s s' a c y z (V s a y g sy).1 (V s' c z I sz).1 sy sz he,fun s a y rws e g hr he=>?_⟩
    ·simp only [mu, cw, List.mem_singleton] at he
     rcases he with he|rfl
     ·exact k00 e he
     ·exact⟨M,N,rfl,ho0,ho1⟩
    ·obtain ⟨o1, o2⟩ := V s a y g (by rw [hr]; rfl)
     simp only[mu]at he;rw[cK (by omega)]at he;exact k2 s a y rws e o1 hr he
   obtain⟨w',p1,p2⟩:=MJ (P:=P) HE (cl':=cl+1) (i:=es.length) (key:=k) (bn:=cl) (e:={ key:=d,val:=.agg #[M,N],born:=cl }) hid hj0 hj1 hne h1 h2 hre hsl2 (by simp) (by
    simp only[mu];rw[iJ (by omega)];simp[hml]) rfl hu0 hu1
   refine⟨w',?_,fun xx=>?_⟩
   ·simp only [lG, bS, Sem.bk (fG ht), bT, e1, fZ hkv', g1]
    exact p1
   ·have e2:(es++[(k,((none:Option (List (List AV))),(none:Option (List (List AV)))),cl)]).set es.length (k,(some rows0,some Ad),cl)=es++[(k,(some rows0,some Ad),cl)]:=by
     rw[Ww _ _ (aB _),lH];rfl
    have:=p2 xx;rw[e2]at this;exact this
 ·cases h
end Go.AL
