/-
 What is proved here: a walk along a string,on abstract values. No program in sight; no condition.
-/
import Derived.Test.YtmhkodhaodcfdaaGreatDoorMA
set_option linter.all false
open Array renaming length_toList->lx,ext'->g_,getElem?_setIfInBounds->AZ,toList_modify->ka,toList_push->nq
open Bool renaming and_true->gu,and_eq_true->aE
open Go renaming Value->ak,TypeId->aD,World->a6,Program->ai
open Go.Builtin renaming append_->nk,zeroCells->AU,nextslicecap->JY,delete_->S8,clear_->S9
open Go.Instr renaming sureAddr->mf,storeAt->uC,buildSlice->J0,range->ajV,checkKey->uD,findAsking->S5,findNow->A0,sameNow->xl,findKey->S6,lookup->kL,makeMap->S7,sameBits->J1,mapUpdate->mg,keyThatStays->qI,mapEntry->E6,entryStore->A1
open Go.Result renaming andThen_ok->bY
open Go.Sem renaming run_bind->cg,run_pure->e_,run->hO
open Go.Utf8 renaming decode->qH
open Go.Value.slice renaming injEq->lv
open List renaming append_nil->fe,append_assoc->iO,getElem?_append_left->dr,length_map->fJ,getElem?_map->cX,getElem_of_mem->uz,getElem?_eq_getElem->cn,mem_of_getElem?->eC,getElem?_append_right->jz,getElem?_append->fy,getElem?_set_self->bK,getElem?_set_ne->bc,getElem?_set->eU,mem_cons->cf,mem_of_mem_drop->uB,mem_of_mem_take->oq,forIn_cons->SX,eq_nil_of_length_eq_zero->ot,take_append_drop->ng,ext_getElem?->ou,length_take->iy,length_set->jd,length_append->dG,mem_append->cN,flatten_cons->xh,size_toArray->AW,length_drop->qG,flatten_append->AX,replicate->dz,mem_cons_self->cZ,mem_cons_of_mem->c8,getElem?_modify->hY,replicate_zero->ajW,mem_replicate->S_,set_set->ly,map_append->qJ,set_append_right->ajY,findIdx?_cons->J2,findIdx?_toArray->ajZ,set_comm->nr
open Nat renaming add_mul->fZ,le_refl->aY,le_add_right->gv,zero_le->fO,zero_add->eo,sub_zero->ff,zero_mul->pr,add_zero->np,mul_le_mul_right->qF,one_mul->xk,beq->aH,succ_mul->ajX,eq_of_beq_eq_true->bA,sub_self->pt,le_of_eq->A2
open Option renaming map_eq_some_iff->eG,map_some->fk,getD_some->uE
open Option.some renaming injEq->a_
open Prod.mk renaming injEq->bk
open Std.Legacy.Range renaming forIn_eq_forIn_range'->ajO,size->ajP
namespace Go.AL
open Go
variable [Dr]
def BC(P:ai)(t:aD)(x:AV)(H:List ah):Option (AV × List ah) :=
 match cI P t,x with
 |.str,.lit (.string s)=>some (.ptr H.length 0 0 0 0,H++[.iter s 0])
 |_,_=>none
def Ub{E:ae}(HE:aG E)(s:ByteArray) :
  di E (.ptr E.H.length 0 0 0 0) (E.H++[.iter s 0]) (.pointer (some ⟨E.w.heap.size,0,none⟩)) { E.w with heap:=E.w.heap.push (.stringIter s 0) }:=by
 have d:=Ext.push E.w (.stringIter s 0);have h:=ae.lF (o:=.iter s 0) (l:=some (E.w.heap.size,0)) HE.len d (fun b n a=>by cases a; exact aY _);have g:(E.w.heap.push (.stringIter s 0))[E.w.heap.size]? = some (.stringIter s 0):=by simp
 refine⟨E.ad++[some (E.w.heap.size,0)],E.X.r,?_,aG.push HE d (fun b n a=>?_) ?_,h⟩
 ·simp only [ab]
  refine⟨⟨_,_,rfl⟩,⟨.iter s 0,by simp,rfl,fun v k=>by simp⟩,fun _=>⟨E.w.heap.size,0,?_,by simp⟩⟩;rw[<-HE.len]; simp
 ·cases a
  exact⟨aY _,by simp⟩
 ·simp only [aV]
  refine⟨E.w.heap.size,0,?_,g⟩;simp only[ae.push]; rw[<-HE.len]; simp
def Uc{P:ai}{E:ae}(HE:aG E){t:aD}{x v:AV}{c:ak}{H':List ah}(h:BC P t x E.H=some (v,H'))(a:ab E x c) :
  ∃ u w',(ajV t c).run P E.w=.ok u w'/\di E v H' u w':=by
 unfold BC at h;split at h
 ·rename_i s b
  cases h;simp only[ab]at a;subst a;refine⟨_,_,?_,Ub HE s⟩;simp[ajV,Sem.bH (sL b),newObj];rfl
 ·cases h
def BD(x:AV)(isString:Bool)(H:List ah):Option (AV × List ah) :=
 match x,isString with
 | .ptr id 0 _ 0 0,true=>match H[id]? with
  | some (.iter s pos)=>if pos<s.size then some (.tuple [.lit (.bool true),.lit (goInt pos),.lit (.int .i32 (qH s pos).1)],H.set id (.iter s (pos+(qH s pos).2)))
    else some (.tuple [.lit (.bool false)],H)
  |_=>none
 |_,_=>none
def Ud{P:ai}{E:ae}(HE:aG E){x v:AV}{c:ak}{isString:Bool}{ty:aD}{H':List ah}(h:BD x isString E.H=some (v,H'))(I:ab E x c) :
  ∃ u w',(Instr.next c isString ty).run P E.w=.ok u w'/\di E v H' u w':=by
 unfold BD at h;split at h
 case h_2=>cases h
 rename_i id k;split at h
 case h_2=>cases h
 rename_i s pos d;have J:=HE.obj id _ d;simp only[aV]at J;obtain⟨b,n,a,q⟩:=J;simp only[ab]at I;obtain⟨_,_,N⟩:=I;obtain⟨W,Y,t,M⟩:=N ⟨_,d,rfl⟩;rw[a]at t;simp only[a_,bk]at t;obtain⟨rfl,rfl⟩:=t;have O:=(HE.lt id b n a).1;split at h
 ·rename_i g
  cases h;subst M;have F:({ E.w with heap:=E.w.heap.setIfInBounds b (.stringIter s (pos+(qH s pos).2)) }:a6).heap.size=E.w.heap.size:=by simp
  have B:∀ y,y≠b->({ E.w with heap:=E.w.heap.setIfInBounds b (.stringIter s (pos+(qH s pos).2)) }:a6).heap[y]? = E.w.heap[y]? := by
   intro y U;simp only[AZ];rw[iN (fun e=>U e.symm)]
  refine⟨.tuple #[.bool true,goInt pos,.int .i32 (qH s pos).1],{ E.w with heap:=E.w.heap.setIfInBounds b (.stringIter s (pos+(qH s pos).2)) },?_,E.ad,E.X.r,?_,?_,?_⟩
  ·have z : (getObj b).run P E.w = .ok (.stringIter s pos) E.w := by simp [getObj, hO, q]
   have V:(setObj b (.stringIter s (pos+(qH s pos).2))).run P E.w=.ok () { E.w with heap:=E.w.heap.setIfInBounds b (.stringIter s (pos+(qH s pos).2)) }:=by
    simp[setObj,hO,q]
   simp only[Instr.next,pr,np,cg,z,bY,g,if_true];rw[V];rfl
  ·simp[ab,ar]
  ·exact HE.set d a (fun v A=>A) F B (by
    simp only[aV];exact⟨b,n,a,by simp[O]⟩)
  ·exact ae.pM HE d a (fun v A=>A) F B
 ·rename_i g
  cases h;subst M;refine⟨.tuple #[.bool false],E.w,?_,E.ad,E.X.r,by simp[ab,ar],by simpa using HE,ae.le.refl E⟩;have z:(getObj b).run P E.w=.ok (.stringIter s pos) E.w:=by simp[getObj,hO,q]
  simp only[Instr.next,pr,np,cg,z,bY,g,if_false];rfl
end Go.AL

namespace Go.AL
open Go
variable [Dr]
def iG(P:ai)(b:aD)(a:AV):Option (List ak) :=
 match iS P pJ b with
 |none=>none
 | some ks=>match a with
  |.lit v=>if dt ks [v]=true/\oB (P.underlying b)=false then some [v] else none
  | .agg as=>match pI as with
   |some l=>if dt ks l=true/\oB (P.underlying b)=true then some l else none
   |none=>none
  |_=>none
def pO(P:ai)(a:aD)(l:List ak)(c:ak):Prop:=fa P a c l/\∃ ks,iS P pJ a=some ks/\dt ks l=true
def iT{P:ai}{E:ae}{k:aD}{a:AV}{l:List ak}{c:ak}(h:iG P k a=some l)(g:ab E a c):pO P k l c:=by
 unfold iG at h;split at h
 ·cases h
 rename_i ks q;split at h
 ·split at h
  ·rename_i v b
   cases h;simp only[ab]at g;subst g;refine⟨?_,ks,q,b.1⟩;unfold fa;split
   ·rename_i t d
    rw[d]at b;exact absurd b.2 (by simp[oB])
   ·rename_i d
    rw[d]at b;exact absurd b.2 (by simp[oB])
   ·rfl
  ·cases h
 ·split at h
  ·rename_i as l' A
   split at h
   ·rename_i b
    cases h;simp only[ab]at g;obtain⟨w,rfl,_,B⟩:=g;refine⟨?_,ks,q,b.1⟩;have e:=Bq A B;unfold fa;split
    ·exact⟨w,rfl,e⟩
    ·exact⟨w,rfl,e⟩
    ·rename_i y z
     exfalso;have:=b.2;unfold oB at this;split at this
     ·rename_i t d
      exact y t d
     ·rename_i d
      exact z _ _ d
     ·cases this
   ·cases h
  ·cases h
 ·cases h
def F5{P:ai}:∀(d:Nat) (k:List Field) (oF:Nat) (ks:List SK),xC P d k oF=some ks->∀(b:Array ak),dt ks (b.toList.drop oF)=true->∀ w:a6,∀ f∈k,f.name ≠ "_" /\
  ∃ q x y,iS P d f.type=some q/\(part f.type b f.offset).run P w=.ok x w/\fa P f.type x y/\dt q y=true
 |d,[],oF,ks,a,b,z,w,f,h=>by cases h
 | d,g::k,oF,ks,a,b,z,w,f,h=>by
  unfold xC sM at a;split at a
  ·cases a
  rename_i A;split at a
  case h_2=>cases a
  rename_i q n U B J;split at a
  case isFalse=>cases a
  rename_i F;split at a
  case h_2=>cases a
  rename_i l M;cases a;have I:g.offset=oF:=by
   by_cases e:g.offset=oF
   ·exact e
   ·exact(A (.inr e)).elim
  obtain⟨t,v⟩:=Bp z;rw[<-F]at t v;rcases cf.1 h with rfl|h
  ·obtain ⟨x, N, O⟩ := FJ J B F b oF t w
   exact⟨fun e=>A (.inl e),q,x,_,B,by rw[I]; exact N,O,t⟩
  ·exact F5 d k (oF+n) l M b (by rw[List.drop_drop]at v; exact v) w f h
def F6{P:ai}(em:Bool):∀(d:Nat) (t:aD) (ks:List SK),iS P d t=some ks->∀(D:Nat),d<=D->∀(x:ak) (A:List ak),fa P t x A->dt ks A=true ->
  ∀ w,(uD em D t x).run P w=.ok () w
 |0,_,_,b=>by simp[iS]at b
 | d+1,t,ks,b=>by
  intro D hD x A v q w;obtain⟨D,rfl⟩:∃ W,D=W+1:=⟨D-1,by omega⟩
  unfold iS at b;cases h:P.underlying t with
  |none=>rw[h]at b; cases b
  | some X =>
   rw[h]at b;cases X with
   | struct I =>
    simp only[]at b;split at b
    ·cases b
    simp only[fa,h]at v;obtain⟨a,rfl,rfl⟩:=v;have z:=F5 d I.toList 0 ks b a (by simpa using q) w;have F:∀ f∈I.toList,f.name ≠ "_" /\ ∃ x,(part f.type a f.offset).run P w=.ok x w/\(uD em D f.type x).run P w=.ok () w:=fun f J=>by
     obtain⟨B,M,x,A,O,Y,U,h5⟩:=z f J;exact⟨B,x,Y,F6 em d f.type M O D (by omega) x A U h5 w⟩
    rw[uD];simp only[cg,Sem.bH h,bY];rw[<-Array.forIn_toList];clear z b;generalize I.toList=L at F
    induction L with
    |nil=>simp
    | cons f L N =>
     obtain⟨hn,x,p1,p2⟩:=F f (by simp);simp only[SX,cg,hn,ne_eq,not_false_eq_true,if_true,bY,p1,p2,e_];exact N (fun y hy=>F y (by simp[hy]))
   | array m e =>
    simp only[]at b;split at b
    case h_2=>cases b
    rename_i n g hv;simp only[fa,h]at v;obtain⟨a,rfl,rfl⟩:=v;obtain⟨i,d',B,O,rfl,U⟩:=kO hv;have z:=F5 d (uZ e i.size m) 0 ks b a (by simpa using q) w;rw[uD];simp only[cg,Sem.bH h,bY,Sem.run_sizeOf B,ajO,ajP,ff,Nat.add_sub_cancel,Nat.div_one];unfold uZ at z;clear b;generalize List.range' 0 m=L at z
    induction L with
    |nil=>simp
    | cons j L N =>
     obtain⟨_,M,x,A,q2,V,q4,q5⟩:=z _ (List.mem_map_of_mem (cZ ..));have q6:=F6 em d e M q2 D (by omega) x A q4 q5 w;simp only[]at V;simp only[SX,cg,bY,Sem.run_sizeOf B,V,q6,e_];exact N (fun f J=>z f (by simp only[List.map_cons]; exact c8 _ J))
   | int k =>
    simp at b;subst b;simp only[fa,h]at v;subst v;simp only[dt,gu]at q;unfold kindOk at q;split at q<;>simp_all[uD,Sem.bH h]
   | string =>
    simp at b;subst b;simp only[fa,h]at v;subst v;simp only[dt,gu]at q;unfold kindOk at q;split at q<;>simp_all[uD,Sem.bH h]
   | bool =>
    simp at b;subst b;simp only[fa,h]at v;subst v;simp only[dt,gu]at q;unfold kindOk at q;split at q<;>simp_all[uD,Sem.bH h]
   |_=>simp at b
def gA{P:ai}{a:aD}{l:List ak}{c:ak}(h:pO P a l c)(em:Bool)(w:a6):(uD em 10000 a c).run P w=.ok () w:=by
 obtain⟨b,ks,d,g⟩:=h;exact F6 em pJ a ks d 10000 (by decide) c l b g w
def Ue{P:ai}{a:aD}{l m:List ak}{c d:ak}(h:pO P a l c)(h':pO P a m d)(w:a6):(Op.equal a c d).run P w=.ok (eJ l m) w:=by
 obtain⟨k,ks,b,q⟩:=h;obtain⟨t,y,g,v⟩:=h';rw[b]at g;cases g;exact FL pJ a ks b 10000 (by decide) c d l m k t q v w
def eY(P:ai)(a:aD)(k:List ak):List (AV × AV × Nat)->Nat->Option (Option (Nat × AV))
 | [],_=>some none
 | (b,v,_)::d,i=>match iG P a b with
  |some l=>bif eJ k l then some (some (i,v)) else eY P a k d (i+1)
  |none=>none
def dA(E:ae)(b:List MapEntry)(a:Nat):Option (Nat × AV)->Option (Nat × ak)->Prop
 |none,none=>True
 |some (i,v),some (j,c)=>i=j/\ab E v c/\a<=i/\∃ e,b[i-a]? = some e/\e.val=c
 |_,_=>False
def KX{P:ai}{E:ae}{y:aD}{k:List ak}{c:ak}(z:pO P y k c)(w:a6):∀(g:List (AV × AV × Nat)) (d:List MapEntry) (i:Nat) (r:Option (Nat × AV)),
  bO E g d->eY P y k g i=some r->∃ a,(S5 y c d i).run P w=.ok a w/\dA E d i r a
 | [],[],i,r,_,h=>by
  simp only[eY,a_]at h;subst h;exact⟨none,rfl,trivial⟩
 | [],_::_,_,_,b,_=>by simp[bO]at b
 |(_,_,_)::_,[],_,_,b,_=>by simp[bO]at b
 | (X,v,n)::g,e::d,i,r,b,h=>by
  simp only[bO]at b;obtain⟨B,F,Y,h4,h5,I⟩:=b;simp only[eY]at h;split at h
  case h_2=>cases h
  rename_i l J;have he:=Ue z (iT J B) w;cases A:eJ k l with
  | true =>
   rw[A]at h he;cases h;refine⟨some (i,e.val),by simp[S5,he],rfl,F,aY _,e,by simp,rfl⟩
  | false =>
   rw[A]at h he;obtain⟨a,M,t⟩:=KX z w g d (i+1) r I h;refine⟨a,by simp[S5,he,M],?_⟩;cases r with
   | none=>cases a with
    |none=>trivial
    |some _=>simp[dA]at t
   | some p=>cases a with
    |none=>simp[dA]at t
    | some q =>
     simp only[dA]at t|-;obtain⟨N,O,q3,U,V,W⟩:=t;refine⟨N,O,by omega,U,?_,W⟩;rw[show p.1-i=(p.1-(i+1))+1 from by omega];simpa using V
def KY{P:ai}{E:ae}{N:aD}{k:List ak}{c:ak}{d:TypeDesc}(F:P.underlying N=some d)(O:pO P N k c):∀(I:List (AV × AV × Nat)) (z:List MapEntry) (i:Nat) (r:Option (Nat × AV)),
  bO E I z->eY P N k I i=some r->(∃ A,A0 d c z i=some A/\dA E z i r A)\/A0 d c z i=none
 | [],[],i,r,_,h=>by
  simp only[eY,a_]at h;subst h;exact .inl ⟨none,rfl,trivial⟩
 | [],_::_,_,_,B,_=>by simp[bO]at B
 |(_,_,_)::_,[],_,_,B,_=>by simp[bO]at B
 | (k',v,n)::I,e::z,i,r,B,h=>by
  simp only[bO]at B;obtain⟨W,X,h3,h4,h5,Y⟩:=B;simp only[eY]at h;split at h
  case h_2=>cases h
  rename_i l hl;have V:=iT hl W;have same:xl d c e.key=some (eJ k l)\/xl d c e.key=none:=by
   obtain⟨p1,ks,a,t⟩:=O;obtain⟨w,ks',J,b⟩:=V;rw[a]at J;cases J;unfold pJ at a;unfold iS at a;rw[F]at a;cases d with
   |struct fs=>right; simp[xl]
   |array m e=>right; simp[xl]
   | int kk =>
    simp at a;subst a;simp only[fa,F]at p1 w;subst p1; subst w;simp only[dt,gu]at t b;unfold kindOk at t b;left;split at t<;>split at b<;>simp_all[xl,eJ,qT]
   | string =>
    simp at a;subst a;simp only[fa,F]at p1 w;subst p1; subst w;simp only[dt,gu]at t b;unfold kindOk at t b;left;split at t<;>split at b<;>simp_all[xl,eJ,qT,beq_toListBytes]
   | bool =>
    simp at a;subst a;simp only[fa,F]at p1 w;subst p1; subst w;simp only[dt,gu]at t b;unfold kindOk at t b;left;split at t<;>split at b<;>simp_all[xl,eJ,qT]
   |_=>simp at a
  rcases same with y|y
  ·cases U : eJ k l with
   | true =>
    rw[U]at h y;cases h;exact .inl ⟨some (i,e.val),by simp[A0,y],rfl,X,aY _,e,by simp,rfl⟩
   | false =>
    rw[U]at h y;rcases KY F O I z (i+1) r Y h with⟨A,g1,M⟩|g
    ·refine .inl ⟨A, by simp [A0, y, g1], ?_⟩
     cases r with
     | none=>cases A with
      |none=>trivial
      |some _=>simp[dA]at M
     | some p=>cases A with
      |none=>simp[dA]at M
      | some q =>
       simp only[dA]at M|-;obtain⟨w,J,b,e',q4,q5⟩:=M;refine⟨w,J,by omega,e',?_,q5⟩;rw[show p.1-i=(p.1-(i+1))+1 from by omega];simpa using q4
    ·exact .inr (by simp[A0,y,g])
  ·exact .inr (by simp[A0,y])
def h_{P:ai}{E:ae}{t:aD}{k:List ak}{c:ak}(z:pO P t k c)(w:a6){v:List (AV × AV × Nat)}{b:List MapEntry}{r:Option (Nat × AV)}
  (F:bO E v b) (h:eY P t k v 0=some r):∃ a,(S6 t c b).run P w=.ok a w/\dA E b 0 r a:=by
 have q:∃ d,P.underlying t=some d:=by
  obtain⟨_,ks,y,_⟩:=z;unfold pJ at y;unfold iS at y;split at y<;>first|exact⟨_,by assumption⟩|cases y
 obtain⟨d,q⟩:=q;rcases KY q z v b 0 r F h with⟨a,A,B⟩|g
 ·exact⟨a,by simp[S6,Sem.bH q,A],B⟩
 ·obtain ⟨a, A, B⟩ := KX z w v b 0 r F h
  exact⟨a,by simp[S6,Sem.bH q,g,A],B⟩
def dJ(P:ai)(t:aD):Option (aD × aD):=match P.underlying t with
 |some (.map k e)=>some (k,e)
 |_=>none
def gb{P:ai}{t k e:aD}(h:dJ P t=some (k,e)):P.underlying t=some (.map k e):=by
 unfold dJ at h;split at h
 ·rename_i a; cases h; exact a
 ·cases h
def iU(P:ai)(t:aD):Option AV:=match P.info? t with
 | some i=>match i.zero with
  |some z=>some (AV.uT z)
  |none=>none
 |none=>none
def sP{P:ai}{t:aD}{a:AV}(h:iU P t=some a)(w:a6):∃ z,(zeroValue t).run P w=.ok z w/\∀ E,ab E a z:=by
 unfold iU at h;split at h
 ·rename_i i hi
  split at h
  ·rename_i z b
   cases h;exact⟨z,nG hi b w,fun E=>Ko E z⟩
  ·cases h
 ·cases h
def pP(P:ai)(t:aD):Option AV:=match iU P t,xG P t with
 |some (.lit (.slice none 0 0)),some ks=>some (.listF ks [])
 |some z,_=>some z
 |none,_=>none
def KZ{P:ai}{t:aD}{a:AV}(h:pP P t=some a)(w:a6):∃ z,(zeroValue t).run P w=.ok z w/\∀ E,ab E a z:=by
 unfold pP at h;split at h
 ·rename_i ks b k
  cases h;obtain⟨z,d,g⟩:=sP b w;refine⟨z,d,fun E=>?_⟩;have:=g E;simp only[ab]at this;subst this;simp only[ab,eX,G.rZ];exact⟨none,0,rfl,aY _,.inl (by first|rfl|trivial)⟩
 ·rename_i z b _
  cases h;exact sP ‹iU P t=some a› w
 ·cases h
def gM(P:ai)(t:aD)(m k:AV)(ok:Bool)(H:List ah):Option AV :=
 match dJ P t,m with
 | some (a,b),.map id=>match H[id]? with
  | some (.map d _)=>match iG P a k,pP P b with
   | some g,some z=>match eY P a g d 0 with
    | some r=>let v:=match r with
      |some (_,v)=>v
      |none=>z
     some (match ok with
      |true=>.tuple [v,.lit (.bool r.isSome)]
      |false=>v)
    |none=>none
   |_,_=>none
  |_=>none
 |_,_=>none
def xK{E:ae}(HE:aG E){id cl:Nat}{h:List (AV × AV × Nat)}{c:ak}(g:E.H[id]? = some (.map h cl))(k:ab E (.map id) c) :
  ∃ b n a,c=.map (some b)/\E.ad[id]? = some (some (b,n))/\E.w.heap[b]? = some (.map a cl)/\bO E h a.toList:=by
 have q:=HE.obj id _ g;simp only[aV]at q;obtain⟨b,n,a,t,v,y⟩:=q;simp only[ab]at k;obtain⟨_,_,z⟩:=k;obtain⟨B,F,d,A⟩:=z ⟨_,g,rfl⟩;rw[t]at d;simp only[a_,bk]at d;obtain⟨rfl,rfl⟩:=d;exact⟨b,n,a,A,t,v,y⟩
def K3{P:ai}{E:ae}(HE:aG E){t:aD}{m k v:AV}{ok:Bool}{c d:ak}(h:gM P t m k ok E.H=some v)(hm:ab E m c)(U:ab E k d) :
  ∃ u,(kL t c d ok).run P E.w=.ok u E.w/\ab E v u:=by
 unfold gM at h;split at h
 case h_2=>cases h
 rename_i kt et id y;split at h
 case h_2=>cases h
 rename_i es cl N;split at h
 case h_2=>cases h
 rename_i kv z O V;split at h
 case h_2=>cases h
 rename_i r W;obtain⟨b,n,X,rfl,h1,Y,h3⟩:=xK HE N hm;have g:=iT O U;obtain⟨A,B,a⟩:=h_ g E.w h3 W;obtain⟨F,z1,I⟩:=KZ V E.w;have J:(getObj b).run P E.w=.ok (.map X cl) E.w:=by simp[getObj,hO,Y]
 cases h;cases r with
 | none =>
  cases A with
  |some _=>simp[dA]at a
  | none =>
   refine⟨if ok then .tuple #[F,.bool false] else F,?_,?_⟩
   ·simp only[kL,cg,Sem.bH (gb y),bY,J,e_,gA g,B,z1]
   ·cases ok with
    |true=>simp[ab,ar,I E]
    |false=>simpa using I E
 | some p =>
  cases A with
  |none=>simp[dA]at a
  | some q =>
   simp only[dA]at a;obtain⟨q1,M,_,_,_,_⟩:=a;refine⟨if ok then .tuple #[q.2,.bool true] else q.2,?_,?_⟩
   ·simp only[kL,cg,Sem.bH (gb y),bY,J,e_,gA g,B]
   ·cases ok with
    |true=>simp[ab,ar,M]
    |false=>simpa using M
def Uf{E:ae}(HE:aG E):di E (.map E.H.length) (E.H++[.map [] 0]) (.map (some E.w.heap.size)) { E.w with heap:=E.w.heap.push (.map #[] 0) }:=by
 have d:=Ext.push E.w (.map #[] 0);have h:=ae.lF (o:=.map [] 0) (l:=some (E.w.heap.size,0)) HE.len d (fun b n a=>by cases a; exact aY _);have g:(E.w.heap.push (.map #[] 0))[E.w.heap.size]? = some (.map #[] 0):=by simp
 refine⟨E.ad++[some (E.w.heap.size,0)],E.X.r,?_,aG.push HE d (fun b n a=>?_) ?_,h⟩
 ·simp only [ab]
  refine⟨⟨_,rfl⟩,⟨.map [] 0,by simp,rfl,fun v k=>fO _⟩,fun _=>⟨E.w.heap.size,0,?_,rfl⟩⟩;rw[<-HE.len]; simp
 ·cases a
  exact⟨aY _,by simp⟩
 ·simp only [aV]
  refine⟨E.w.heap.size,0,#[],?_,g,by simp[bO]⟩;simp only[ae.push]; rw[<-HE.len]; simp
def sQ(id:Nat)(H:List ah):Option (AV × List ah) :=
 match H[id]? with
 |some .dP=>some (.map id,H.set id (.map [] 0))
 |_=>none
def F7{id:Nat}{H H':List ah}{v:AV}(h:sQ id H=some (v,H')):H[id]? = some .dP/\v=.map id/\H'=H.set id (.map [] 0):=by
 unfold sQ at h;split at h
 ·rename_i a
  cases h;exact⟨a,rfl,rfl⟩
 ·cases h
def K4{id:Nat}{H:List ah}(h:H[id]? = some .dP):sQ id H=some (.map id,H.set id (.map [] 0)):=by
 unfold sQ;rw[h]
def Ug{E:ae}(HE:aG E){id:Nat}(d:E.H[id]? = some .dP):di E (.map id) (E.H.set id (.map [] 0)) (.map (some E.w.heap.size)) { E.w with heap:=E.w.heap.push (.map #[] 0) }:=by
 have a:=Ext.push E.w (.map #[] 0);have z:=aX d;have q:(ah.dP).born=true->(ah.dP).aU = none->(ah.map [] 0).aU = none:=fun h=>by cases h
 have y:∀ v,(ah.map [] 0).aU = some v->∀ u,(ah.dP).aU = some u->u<v:=fun v _ u g=>by cases g
 have A:∀ v u,(ah.map [] 0).aU = some v->(ah.dP).aU = some u->u<=v:=fun v u _ g=>by cases g
 have B:(E.w.heap.push (.map #[] 0))[E.w.heap.size]? = some (.map #[] 0):=by simp
 have t:(E.ad.set id (some (E.w.heap.size,0)))[id]? = some (some (E.w.heap.size,0)):=bK (by rw[HE.len]; exact z);have F:E.le { w:={ E.w with heap:=E.w.heap.push (.map #[] 0) },H:=E.H.set id (.map [] 0),ad:=E.ad.set id (some (E.w.heap.size,0)),X:=E.X } :=
  ae.lG d HE.len a.size (fun x k _=>a.same x k) (fun b n h=>by cases h; exact .inl (aY _)) (.inr y) A q
 refine⟨E.ad.set id (some (E.w.heap.size,0)),E.X.r,?_,?_,F⟩
 ·simp only [ab]
  exact⟨⟨_,rfl⟩,⟨.map [] 0,by simp[z],rfl,fun v I=>fO _⟩,fun _=>⟨E.w.heap.size,0,t,rfl⟩⟩
 ·refine aG.nA HE d a.size (fun x k _ => a.same x k) (fun b n h => by cases h; exact .inl ⟨aY _, by simp⟩) (.inr y) A q ?_
  simp only[aV];exact⟨E.w.heap.size,0,#[],t,B,by simp[bO]⟩
def Uh{P:ai}{E:ae}(HE:aG E){t:aD}{id:Nat}{v:AV}{H':List ah}(h:sQ id E.H=some (v,H')) :
  ∃ u w',(S7 t none).run P E.w=.ok u w'/\di E v H' u w':=by
 obtain⟨a,rfl,rfl⟩:=F7 h;exact⟨_,_,by simp[S7,newObj]; rfl,Ug HE a⟩
def Ui{a b:ByteArray}(h:a.toList=b.toList):a=b:=by
 have d:(a==b)=true:=by rw[beq_toListBytes,h]; simp
 obtain⟨x⟩:=a;obtain⟨y⟩:=b;have e:x=y:=by simpa using(show (x==y)=true from d)
 rw[e]
def K5:∀{l m:List ak} {ks:List SK},dt ks l=true->dt ks m=true->eJ l m=true->l=m
 | [],[],_,_,_,_=>rfl
 | a::l,b::m,ks,d,g,h=>by
  cases ks with
  |nil=>simp[dt]at d
  | cons k ks =>
   simp only[dt,aE]at d g;simp only[eJ,aE]at h;have e:a=b:=by
    have q:=d.1;have t:=g.1;have v:=h.1;unfold kindOk at q t;split at q<;>split at t<;>simp_all[qT]
    exact Ui h.1
   rw[e,K5 d.2 g.2 h.2]
 | [],_::_,_,_,_,h|_::_,[],_,_,_,h=>by simp[eJ]at h
def K6{ks:List SK}:∀{l:List ak},dt ks l=true->∀(n:Nat),(l.zip l).all (fun(x,y)=>J1 n x y)=true:=by
 intro l
 induction l generalizing ks with
 |nil=>intro _ _; rfl
 | cons a l d =>
  intro h n;cases ks with
  |nil=>simp[dt]at h
  | cons k ks =>
   simp only[dt,aE]at h;simp only[List.zip_cons_cons,List.all_cons,aE];refine⟨?_,d h.2 n⟩;have b:=h.1;unfold kindOk at b;split at b<;>cases n<;>simp_all[J1,beq_toListBytes]
def xL{P:ai}{b:aD}{l m:List ak}{c d:ak}(h:pO P b l c)(h':pO P b m d)(he:eJ l m=true):c=d/\J1 10000 d c=true:=by
 obtain⟨g,ks,w,a⟩:=h;obtain⟨z,I,k,A⟩:=h';rw[w]at k;cases k;have e:=K5 a A he;subst e;have B:(∃ x y:Array ak,c=.agg x/\x.toList=l/\d=.agg y/\y.toList=l)\/l=[c]/\l=[d]:=by
  unfold fa at g z;split at g<;>simp_all
 rcases B with⟨x,y,rfl,q,rfl,F⟩|⟨t,v⟩
 ·have : x = y := by apply g_; rw [q, F]
  subst this;refine⟨rfl,?_⟩;simp only[J1,beq_self_eq_true,Bool.true_and];rw[q];exact K6 a 9999
 ·have : c = d := by rw [t] at v; simpa using v
  subst this;refine⟨rfl,?_⟩;have:=K6 a 10000;rw[t]at this;simpa using this
def mr(P:ai)(t:aD)(m k v:AV)(H:List ah):Option (List ah) :=
 match dJ P t,m with
 | some (b,_),.map id=>match H[id]? with
  | some (.map a cl)=>match iG P b k with
   | some d=>if v.closed=true/\k.closed=true then
     match eY P b d a 0 with
     |some (some (i,_))=>some (H.set id (.map (a.modify i fun e=>(k,v,e.2.2)) cl))
     |some none=>some (H.set id (.map (a++[(k,v,cl)]) (cl+1)))
     |none=>none
    else none
   |none=>none
  |_=>none
 |_,_=>none
def fb{E:ae}:∀{es:List (AV × AV × Nat)} {d:List MapEntry},bO E es d↔es.length=d.length/\∀(i:Nat) x e,es[i]? = some x->d[i]? = some e ->
  ab E x.1 e.key/\ab E x.2.1 e.val/\e.born=x.2.2/\x.1.closed=true/\x.2.1.closed=true
 | [],[]=>by simp[bO]
 | [],_::_=>by simp[bO]
 |(_,_,_)::_,[]=>by simp[bO]
 | (k,v,n)::es,e::d=>by
  simp only[bO,fb (es:=es),List.length_cons];constructor
  ·rintro ⟨h, g, q, t, w, J, z⟩
   refine⟨by omega,fun i x y a b=>?_⟩;cases i with
   |zero=>simp at a b; subst a; subst b; exact⟨h,g,q,t,w⟩
   |succ i=>exact z i x y (by simpa using a) (by simpa using b)
  ·rintro ⟨h, g⟩
   obtain⟨A,B,F,I,a5⟩:=g 0 (k,v,n) e rfl rfl;exact⟨A,B,F,I,a5,by omega,fun i x y a b=>g (i+1) x y (by simpa using a) (by simpa using b)⟩
def BE{P:ai}{E:ae}(HE:aG E){id b n cl cl':Nat}{A es':List (AV × AV × Nat)}{B ms':Array MapEntry}(h:E.H[id]? = some (.map A cl)) (a:E.ad[id]? = some (some (b,n)))
  (F:E.w.heap[b]? = some (.map B cl)) (q:bO E es' ms'.toList) :
  ∃ w',(setObj b (.map ms' cl')).run P E.w=.ok () w'/\aG { w:=w',H:=E.H.set id (.map es' cl'),ad:=E.ad,X:=E.X }/\E.le { w:=w',H:=E.H.set id (.map es' cl'),ad:=E.ad,X:=E.X }:=by
 have z:=(HE.lt id b n a).1;have k:({ E.w with heap:=E.w.heap.setIfInBounds b (.map ms' cl') }:a6).heap.size=E.w.heap.size:=by simp
 have g:∀ y,y≠b->({ E.w with heap:=E.w.heap.setIfInBounds b (.map ms' cl') }:a6).heap[y]? = E.w.heap[y]? := by
  intro y I;simp only[AZ];rw[iN (fun e=>I e.symm)]
 refine⟨{ E.w with heap:=E.w.heap.setIfInBounds b (.map ms' cl') },by simp[setObj,hO,F],?_,?_⟩
 ·have t : E.le { w := { E.w with heap := E.w.heap.setIfInBounds b (.map ms' cl') }, H := E.H.set id (.map es' cl'), ad := E.ad, X := E.X } := ae.pM HE h a (fun v d => d) k g
  refine HE.set h a (fun v d=>d) k g ?_;simp only[aV];refine⟨b,n,ms',a,by simp[z],?_⟩;rw[fb]at q|-;refine⟨q.1,fun i x e J he=>?_⟩;obtain⟨M,N,O,U,a5⟩:=q.2 i x e J he;exact⟨bG t _ M,bG t _ N,O,U,a5⟩
 ·exact ae.pM HE h a (fun v d=>d) k g
def vj{P:ai}{d:aD}{k:List ak}:∀{a:List (AV × AV × Nat)} {i j:Nat} {v:AV},eY P d k a i=some (some (j,v))->i<=j/\∃ x l,a[j-i]? = some x/\iG P d x.1=some l/\eJ k l=true
 | [],_,_,_,h=>by simp[eY]at h
 | (g,q,n)::a,i,j,v,h=>by
  simp only[eY]at h;split at h
  case h_2=>cases h
  rename_i l t;cases b:eJ k l with
  | true =>
   rw[b]at h;cases h;exact⟨aY _,(g,q,n),l,by simp,t,b⟩
  | false =>
   rw[b]at h;obtain⟨A,x,l',w,y,z⟩:=vj h;refine⟨by omega,x,l',?_,y,z⟩;rw[show j-i=(j-(i+1))+1 from by omega];simpa using w
def K7{P:ai}{E:ae}(HE:aG E){t:aD}{m k v:AV}{c d u:ak}{H':List ah}(h:mr P t m k v E.H=some H')(hm:ab E m c)(U:ab E k d)(hv:ab E v u) :
  ∃ w',(mg t c d u).run P E.w=.ok () w'/\aG { w:=w',H:=H',ad:=E.ad,X:=E.X }/\E.le { w:=w',H:=H',ad:=E.ad,X:=E.X }:=by
 unfold mr at h;split at h
 case h_2=>cases h
 rename_i kt et id ht;split at h
 case h_2=>cases h
 rename_i es cl O;split at h
 case h_2=>cases h
 rename_i kv hkv;split at h
 case isFalse=>cases h
 rename_i I;obtain⟨b,n,A,rfl,h1,V,W⟩:=xK HE O hm;have B:=iT hkv U;have e1:(getObj b).run P E.w=.ok (.map A cl) E.w:=by simp[getObj,hO,V]
 obtain⟨M,N⟩:=fb.1 W;split at h
 ·rename_i i v0 J
  cases h;obtain⟨Y,g1,F⟩:=h_ B E.w W J;cases Y with
  |none=>simp[dA]at F
  | some q =>
   simp only[dA]at F;obtain⟨q1,q2,_,e',q4,q5⟩:=F;obtain⟨_,x,l,f1,f2,f3⟩:=vj J;simp only[ff]at q4 f1;obtain⟨a1,a2,a3,a4,a5⟩:=N i x e' f1 q4;obtain⟨s1,s2⟩:=xL B (iT f2 a1) f3;have q4':A[i]? = some e':=by simpa using q4
   obtain⟨w',r1,r2,r3⟩:=BE (P:=P) HE (es':=es.modify i fun e=>(k,v,e.2.2)) (ms':=A.modify i fun e=>{ e with key:=d,val:=u }) (cl':=cl) O h1 V (by
    rw[fb];refine⟨by simp[M],fun j y z a g=>?_⟩;simp only[hY]at a;simp only[ka,hY]at g;obtain⟨y0,hy0,rfl⟩:=eG.1 a;obtain⟨z0,hz0,rfl⟩:=eG.1 g;obtain⟨b1,b2,b3,b4,b5⟩:=N j y0 z0 hy0 hz0;by_cases e:i=j
    ·subst e
     simp only[if_true];exact⟨U,hv,b3,I.2,I.1⟩
    ·simp only [iN e]
     exact⟨b1,b2,b3,b4,b5⟩)
   refine⟨w',?_,r2,r3⟩;subst q1;have hst:(qI e'.key d).run P E.w=.ok d E.w:=by simp[qI,s2]
   simp only[mg,cg,Sem.bH (gb ht),bY,e1,gA B,g1,q4',fk,uE,hst];exact r1
 ·rename_i J
  cases h;obtain⟨Y,g1,F⟩:=h_ B E.w W J;cases Y with
  |some _=>simp[dA]at F
  | none =>
   obtain⟨w',r1,r2,r3⟩:=BE (P:=P) HE (es':=es++[(k,v,cl)]) (ms':=A.push { key:=d,val:=u,born:=cl }) (cl':=cl+1) O h1 V (by
    rw[fb];refine⟨by simp[M],fun j y z a g=>?_⟩;simp only[nq,fy,M]at a g;by_cases e:j<A.toList.length
    ·simp only [iP e] at a g
     exact N j y z a g
    ·simp only [iN e] at a g
     cases hj:j-A.toList.length with
     | zero =>
      rw[hj]at a g;simp at a g;subst a; subst g;exact⟨U,hv,rfl,I.2,I.1⟩
     |succ _=>rw[hj]at a; simp at a)
   refine⟨w',?_,r2,r3⟩;simp only[mg,cg,Sem.bH (gb ht),bY,e1,gA B,g1];exact r1
 ·cases h
def xM(P:ai)(t:aD)(m k:AV)(H:List ah):Option (List ah) :=
 match dJ P t,m with
 | some (b,_),.map id=>match H[id]? with
  | some (.map a cl)=>match iG P b k with
   | some d=>match eY P b d a 0 with
    |some (some (i,_))=>some (H.set id (.map (a.eraseIdx i) cl))
    |some none=>some (H.set id (.map a cl))
    |none=>none
   |none=>none
  |_=>none
 |_,_=>none
def Uj{P:ai}{E:ae}(HE:aG E){t ty:aD}{fQ:Array aD}{m k:AV}{c d:ak}{cs:Array ak}{H':List ah}(h:xM P t m k E.H=some H')(Y:fQ[0]? = some t)
  (V:cs[0]? = some c) (W:cs[1]? = some d) (hm:ab E m c) (hk:ab E k d) :
  ∃ w',(S8 fQ ty cs).run P E.w=.ok (.tuple #[]) w'/\aG { w:=w',H:=H',ad:=E.ad,X:=E.X }/\E.le { w:=w',H:=H',ad:=E.ad,X:=E.X }:=by
 unfold xM at h;split at h
 case h_2=>cases h
 rename_i kt et id ht;split at h
 case h_2=>cases h
 rename_i es cl I;split at h
 case h_2=>cases h
 rename_i kv hkv;obtain⟨b,n,a,rfl,h1,J,F⟩:=xK HE I hm;have B:=iT hkv hk;have e1:(getObj b).run P E.w=.ok (.map a cl) E.w:=by simp[getObj,hO,J]
 obtain⟨hlen,U⟩:=fb.1 F;split at h
 ·rename_i i v0 M
  cases h;obtain⟨N,O,g⟩:=h_ B E.w F M;cases N with
  |none=>simp[dA]at g
  | some q =>
   simp only[dA]at g;obtain⟨q1,q2,_,e',q4,q5⟩:=g;obtain⟨w',r1,r2,r3⟩:=BE (P:=P) HE (es':=es.eraseIdx i) (ms':=a.eraseIdxIfInBounds i) (cl':=cl) I h1 J (by
    rw[fb];have e:(a.eraseIdxIfInBounds i).toList=a.toList.eraseIdx i:=by simp
    rw[e];refine⟨by simp[List.length_eraseIdx,hlen],fun j y z v A=>?_⟩;rw[List.getElem?_eraseIdx]at v A;by_cases hj:j<i
    ·simp only [iP hj] at v A
     exact U j y z v A
    ·simp only [iN hj] at v A
     exact U (j+1) y z v A)
   refine⟨w',?_,r2,r3⟩;subst q1;simp only[S8,Y,V,W,cg,Sem.bH (gb ht),bY,e1,gA B,O];rw[r1];rfl
 ·rename_i M
  cases h;obtain⟨N,O,g⟩:=h_ B E.w F M;cases N with
  |some _=>simp[dA]at g
  | none =>
   obtain⟨w',r1,r2,r3⟩:=BE (P:=P) HE (es':=es) (ms':=a) (cl':=cl) I h1 J F;refine⟨w',?_,r2,r3⟩;simp only[S8,Y,V,W,cg,Sem.bH (gb ht),bY,e1,gA B,O];rw[r1];rfl
 ·cases h
end Go.AL

namespace Go.AL
open Go
variable [Dr]
def K8{α:Type}{k:Nat}:∀{l:List (List α)} (n:Nat),(∀ r∈l,r.length=k)->(l.take n).flatten=l.flatten.take (n*k)
 | [],n,_=>by simp
 |r::l,0,_=>by simp
 | r::l,n+1,h=>by
  have a:r.length=k:=h r cZ;have b:=K8 (l:=l) n (fun x d=>h x (c8 _ d));have e:(n+1)*k=k+n*k:=by rw[fZ]; omega
  simp only[List.take_succ_cons,xh,b,e];rw[List.take_append,a];have g:r.take (k+n*k)=r:=List.take_of_length_le (by omega);have q:k+n*k-k=n*k:=by omega
  rw[g,q]
def K9{α:Type}{k:Nat}:∀{l:List (List α)} (n:Nat),(∀ r∈l,r.length=k)->(l.drop n).flatten=l.flatten.drop (n*k)
 | [],n,_=>by simp
 |r::l,0,_=>by simp
 | r::l,n+1,h=>by
  have a:r.length=k:=h r cZ;have b:=K9 (l:=l) n (fun x d=>h x (c8 _ d));have e:(n+1)*k=k+n*k:=by rw[fZ]; omega
  simp only[List.drop_succ_cons,xh,b,e];rw[List.drop_append,a];have g:r.drop (k+n*k)=[]:=List.drop_eq_nil_of_le (by omega);have q:k+n*k-k=n*k:=by omega
  rw[g,q,List.nil_append]
def Uk{P:ai}{E:ae}(HE:aG E){id k al b m oF:Nat}{rZ news:List (List AV)}{vals:List ak}(J:E.H[id]? = some (.vQ k al rZ)) (y:E.ad[id]? = some (some (b,m)))
  (q:ar E news.flatten vals) (h1:∀ x∈vals,dU x=true) (N:∀ r∈news,r.length=k) (hcl:fg news) (hle:oF+news.length<=rZ.length) :
  ∃ w',(storeCells ⟨b,oF*k,none⟩ vals).run P E.w=.ok () w'/\aG { w:=w',H:=E.H.set id (.vQ k al (rZ.take oF++news++rZ.drop (oF+news.length))),ad:=E.ad,X:=E.X } /\
   E.le { w:=w',H:=E.H.set id (.vQ k al (rZ.take oF++news++rZ.drop (oF+news.length))),ad:=E.ad,X:=E.X }:=by
 rcases HE.obj id _ J with⟨z,_⟩|⟨b',m',z,⟨d,F,I,V⟩,e3,e4,e5⟩
 ·rw[y]at z; cases z
 rw[y]at z;cases z;have t:∀ r∈rZ,r.length=k:=FV e5;have hlen:vals.length=news.length*k:=by rw[<-iC q,vg N]
 have hmul:(oF+news.length)*k<=rZ.length*k:=qF _ hle;rw[fZ]at hmul;have hmul2:rZ.length*k<=m*k:=qF _ e3;have A:oF*k+0+vals.length<=d.size:=by rw[V]; omega
 have M:=run_storeCells_at P b (oF*k) F vals 0 d E.w I A (fun v q=>by rw[ve]; exact h1 v q);simp only[np]at M A;generalize B:E.w.setRow b (d.toList.take (oF*k)++vals++d.toList.drop (oF*k+vals.length)).toArray=w' at M;have O:w'.heap.size=E.w.heap.size:=by rw[<-B]; exact setRow_size _ _ _
 have henv:eO E.w w':=by rw[<-B]; exact⟨rfl,rfl,rfl,by first|exact fun _=>aY _|exact fun _=>gv _ _⟩
 have U:∀ x,x≠b->w'.heap[x]? = E.w.heap[x]? := by intro x hx; rw[<-B]; exact setRow_other _ _ _ _ hx
 have hb':w'.heap[b]? = some (.cells (d.toList.take (oF*k)++vals++d.toList.drop (oF*k+vals.length)).toArray F (0,0)):=by
  rw[<-B]; exact setRow_heap E.w b d _ F (0,0) I
 have W:∀ v,(ah.vQ k al (rZ.take oF++news++rZ.drop (oF+news.length))).aU = some v->(ah.vQ k al rZ).aU = some v:=fun v q=>by simpa[ah.aU]using q
 have Y:=ae.pM (o':=.vQ k al (rZ.take oF++news++rZ.drop (oF+news.length))) HE J y W O U;have hl2:(rZ.take oF++news++rZ.drop (oF+news.length)).length=rZ.length:=by
  simp only[dG,iy,qG];omega
 refine⟨w',M,aG.set HE J y W O U ?_,Y⟩;simp only[aV];right;refine⟨b,m,y,⟨_,F,hb',?_⟩,by rw[hl2]; exact e3,?_,?_⟩
 ·simp only [AW, dG, iy, qG, lx, V] at A |-
  omega
 ·intro r g
  simp only[cN]at g;rcases g with(h|h)|h
  ·exact e4 r (oq h)
  ·exact hcl r h
  ·exact e4 r (uB h)
 ·refine Bu ?_ ?_
  ·intro r g
   simp only[cN]at g;rcases g with(h|h)|h
   ·exact t r (oq h)
   ·exact N r h
   ·exact t r (uB h)
  ·rw [AX, AX, K8 oF t, K9 _ t]
   have hflat:=Bt e5;have hcs:news.flatten.length=news.length*k:=vg N;have:=Bw (E:=E) (E':={ w:=w',H:=E.H.set id (.vQ k al (rZ.take oF++news++rZ.drop (oF+news.length))),ad:=E.ad,X:=E.X }) (o:=0) (col:=oF*k) (as:=rZ.flatten) (cs:=news.flatten)
    (fun a c g=>bG Y a g) I (by simpa using hb') (by simpa using A) hflat q h1 (by rw[vg t,hcs]; omega)
   rw[hcs]at this;rw[show (oF+news.length)*k=oF*k+news.length*k from fZ _ _ _];exact this
def xN(P:ai)(t:aD)(x:AV)(H:List ah):Option (List ah) :=
 match cI P t,x with
 | .slice e sz _,.vQ w id al oF n=>match fl P e,H[id]? with
  | some z,some (.vQ k v rZ)=>if k=w/\w=sz/\v=al/\z.length=sz/\0<sz/\oF+n<=rZ.length then
    some (H.set id (.vQ k v (rZ.take oF++dz n (z.map AV.lit)++rZ.drop (oF+n)))) else none
  |_,_=>none
 |_,_=>none
def Ul{P:ai}{E:ae}(HE:aG E){t ty:aD}{fQ:Array aD}{x:AV}{c:ak}{cs:Array ak}{H':List ah}(h:xN P t x E.H=some H')(O:fQ[0]? = some t)
  (I:cs[0]? = some c) (q:ab E x c) :
  ∃ w',(S9 fQ ty cs).run P E.w=.ok (.tuple #[]) w'/\aG { w:=w',H:=H',ad:=E.ad,X:=E.X }/\E.le { w:=w',H:=H',ad:=E.ad,X:=E.X }:=by
 unfold xN at h;split at h
 case h_2=>cases h
 rename_i e sz by_ w id al oF n hk;obtain⟨U,i,hi,hs,_⟩:=iR hk;split at h
 case h_2=>cases h
 rename_i z k v rZ hz a;split at h
 case isFalse=>cases h
 rename_i hc;obtain⟨rfl,rfl,rfl,hzl,hpos,J⟩:=hc;cases h;obtain⟨i',y,M,hz1,N,hz3⟩:=nF hz;rw[hi]at M;cases M;simp only[ab]at q;obtain⟨⟨aN,cap,rfl,hcap,hb⟩,_,W⟩:=q;obtain⟨q1,q2⟩:=W ⟨_,a,rfl⟩;cases n with
 | zero =>
  refine⟨E.w,?_,?_,?_⟩
  ·simp only [S9, O, I, cg, Sem.bH U, bY]
   cases aN<;>rfl
  ·simp only [ajW, fe, np, ng]
   rw[pL a];exact HE
  ·simp only [ajW, fe, np, ng]
   rw[pL a];exact ae.le.refl E
 | succ n =>
  obtain⟨b,o,rfl⟩:=hb (by omega);have g:∃ b m,E.ad[id]? = some (some (b,m)):=by
   rcases HE.obj id _ a with⟨_,A⟩|⟨B,m',A,_⟩
   ·subst A
    simp at J
   ·exact⟨B,m',A⟩
  obtain⟨B,m,g⟩:=g;obtain⟨g1,o',g2,V⟩:=q2 B m g;have ho:=g2 (by omega);subst ho;simp only[lv,a_,Addr.mk.injEq]at V;obtain⟨⟨rfl,rfl,_⟩,_,_⟩:=V;have Y:(AU y.cells (n+1)).toList=(dz (n+1) z).flatten:=by
   rw[<-N];have hzs:0<y.cells.size:=by
    have:y.cells.size=z.length:=by rw[<-N]; simp
    omega
   exact range_zero y.cells (n+1) hzs
  have F:∀ r∈dz (n+1) (z.map AV.lit),r=z.map AV.lit:=fun r d=>(S_.1 d).2;obtain⟨w',r1,r2,r3⟩:=Uk (P:=P) HE (oF:=oF) (news:=dz (n+1) (z.map AV.lit)) (vals:=(dz (n+1) z).flatten) a g (xI z (n+1))
   (fun x q=>hz3 x (xJ q)) (fun r d=>by rw[F r d]; simp[hzl]) (fun r d=>by rw[F r d]; exact F4 z) (by simpa using J)
  simp only[List.length_replicate]at r2 r3;refine⟨w',?_,r2,r3⟩;simp only[S9,O,I,cg,Sem.bH U,bY,nG hi hz1,Y];rw[r1];rfl
def Um{P:ai}{w:a6}{t xt ty e:aD}{i:TypeInfo}{z:ak}{sz:Nat}{aN:Option Addr}{m:Nat}{k k':IntKind}
  (g:P.underlying t=some (.slice e)) (h:P.underlying xt=some (.int k)) (hi:P.info? e=some i) (q:i.size=sz) (v:i.zero=some z) (a:0<sz) (y:0<m) (hm:m<=1048576) (A:i.bytes<=1048576) :
  ∃ C,m<=C/\(nk #[t,xt] ty #[.slice aN 0 0,.int k' (m:Int)]).run P w =
   .ok (.slice (some ⟨w.heap.size,0,none⟩) m C) (w.drew.alloc (.cells ((AU z.cells m).toList++(AU z.cells (C-m)).toList).toArray e)):=by
 have b:IntKind.i64.wrap (m:Int)=m:=wrap_small (by omega) (by omega);have B:¬ (m<=0):=by omega
 have F:¬ ((m:Int)<0):=by omega
 have d:m*i.bytes<=1048576*1048576:=Nat.mul_le_mul hm A;have I:¬ ((281474976710656:Int)<(m:Int)*(i.bytes:Int)):=by
  have:((m*i.bytes:Nat):Int)<=1099511627776:=Int.ofNat_le.2 (Nat.le_trans d (by decide));rw[Int.natCast_mul]at this;omega
 have J:¬ (IntKind.i64.max<(m:Int)):=by
  show ¬ ((9223372036854775807:Int)<(m:Int))
  omega
 have O:JY m 0*i.bytes<=281474976710656:=growslice_fits (by omega) (by omega);have M:¬ (281474976710656<JY m 0*i.bytes):=by omega
 have N:¬ (m*sz=0):=by
  have:=Nat.mul_pos y a;omega
 refine⟨grownCap w m 0 e,?_,?_⟩
 ·simp[grownCap,Question.cut]
 ·simp [nk, run_underlying g, run_underlying h, sizeOf, typeInfo, zeroValue, hi, v, q, asInt, asIntOf, b, B, F, I, J, M, N, Question.forced, newRow, grownCap, Builtin.firstCells]
  rw[iN (by omega:¬ m=0),iN (by omega:¬ (9223372036854775807:Int)<(m:Int))];cases aN<;>simp[loadCells,loadCellsFrom]<;>(congr 2; apply g_; simp)
def sR(P:ai)(t xt:aD)(s x:AV)(H:List ah):Option (AV × List ah) :=
 match cI P t,cI P xt,s,x with
 | .slice e sz a,.int _,.lit (.slice none 0 0),.lit (.int _ n)=>match fl P e with
  |some z=>if z.length=sz/\0<sz/\a<=1048576/\0<n/\n<=1048576 then some (.vQ sz H.length 0 0 n.toNat,H++[.vQ sz 0 (dz n.toNat (z.map AV.lit))]) else none
  |none=>none
 |_,_,_,_=>none
def Un{P:ai}{E:ae}(HE:aG E){t xt ty:aD}{s x v:AV}{H':List ah}{c A:ak}(h:sR P t xt s x E.H=some (v,H'))(B:ab E s c)(b:ab E x A) :
  ∃ u w',(nk #[t,xt] ty #[c,A]).run P E.w=.ok u w'/\di E v H' u w':=by
 unfold sR at h;split at h
 case h_2=>cases h
 rename_i e sz by_ k W n X M;split at h
 case h_2=>cases h
 rename_i z Y;split at h
 case isFalse=>cases h
 rename_i hc;obtain⟨F,h2,h3,h4,h5⟩:=hc;cases h;obtain⟨hu,i,hi,N,hby⟩:=iR X;obtain⟨i',d,y,O,g,U⟩:=nF Y;rw[hi]at y;cases y;simp only[ab]at B b;subst B;subst b;obtain⟨m,rfl⟩:∃ m:Nat,n=(m:Int):=⟨n.toNat,by omega⟩
 obtain⟨C,g1,I⟩:=Um (P:=P) (w:=E.w) (ty:=ty) (aN:=none) (k':=W) (m:=m) hu (Ky M) hi N O h2 (by omega) (by omega) (by omega);have V:0<d.cells.size:=by
  have:d.cells.size=z.length:=by rw[<-g]; simp
  omega
 have J:(AU d.cells m).toList=(dz m z).flatten:=by rw[<-g]; exact range_zero d.cells m V
 rw[J]at I;have q:∀ r∈dz m (z.map AV.lit),r=z.map AV.lit:=fun r a=>(S_.1 a).2;refine⟨_,_,I,?_⟩;simp only[Int.toNat_natCast];refine KL HE (xI z m) (fun x b=>U x (xJ b)) (fun r a=>by rw[q r a]; simp[F]) (fun r a=>by rw[q r a]; exact F4 z) (by simp) g1 ?_;simp only[lx,size_zeroCells];rw[<-F,<-g];simp
end Go.AL

namespace Go.AL
open Go
variable [Dr]
def xO(P:ai)(t:aD)(n:Nat)(parts:List (Nat × AV))(H:List ah):Option (AV × List ah) :=
 match vh P t n parts with
 |some (.list sz rZ)=>some (.vQ sz H.length 0 0 rZ.length,H++[.vQ sz 0 rZ])
 |_=>none
def K_(k:Nat):∀(n:Nat) (out:List AV),out.length=n*k->(chunk k n out).flatten=out
 | 0,out,h=>by
  have:out=[]:=ot (by simpa using h);subst this;rfl
 | n+1,out,h=>by
  simp only[chunk,xh];rw[K_ k n (out.drop k) (by rw[qG,h,ajX]; omega)];exact ng k out
def La(k:Nat):∀(n:Nat) (out:List AV),out.length=n*k->∀ r∈chunk k n out,r.length=k
 |0,_,_,r,a=>by simp[chunk]at a
 | n+1,out,h,r,a=>by
  simp only[chunk]at a;rw[ajX]at h;rcases cf.1 a with rfl|a
  ·rw [iy]
   omega
  ·exact La k n (out.drop k) (by rw[qG]; omega) r a
def Uo{P:ai}{E:ae}(HE:aG E){t:aD}{n:Nat}{parts:List (Nat × AV)}{cparts:List (Nat × ak)}{v:AV}{H':List ah}(h:xO P t n parts E.H=some (v,H'))
  (hm:parts.map (·.1)=cparts.map (·.1)) (O:ar E (parts.map (·.2)) (cparts.map (·.2))) :
  ∃ u w',(J0 t n cparts.toArray).run P E.w=.ok u w'/\di E v H' u w':=by
 unfold xO at h;split at h
 case h_2=>cases h
 rename_i g rows0 a;cases h;unfold vh at a;split at a
 case h_2=>cases a
 rename_i e sz by_ U;obtain⟨V,i,hi,y,_⟩:=iR U;split at a
 case h_2=>cases a
 rename_i z W;obtain⟨i',d,A,I,B,J⟩:=nF W;rw[hi]at A;cases A;split at a
 case isFalse=>cases a
 rename_i X;obtain⟨Y,g2,g3⟩:=X;split at a
 case h_2=>cases a
 rename_i out F;split at a
 case isFalse=>cases a
 rename_i k;have M:d.cells.size=sz:=by rw[<-Y,<-B]; simp
 obtain⟨b,q⟩:∃ b:Array ak,b.toList=(dz n z).flatten:=⟨((dz n z).flatten).toArray,by simp⟩
 obtain⟨o,f1,f2,f3⟩:=xD (E:=E) (cs:=b) F (by rw[q]; exact xI z n) (by rw[q]; intro x hx; exact J x (xJ hx)) hm O;cases n with
 |zero=>cases a
 |succ n =>
 cases a;refine⟨.slice (some ⟨E.w.heap.size,0,none⟩) (n+1) (n+1),{ E.w with heap:=E.w.heap.push (.cells (o.toList++[]).toArray e) },?_,?_⟩
 ·have N : ¬ ((n + 1) * i.size > 2 ^ 24) := by rw [y]; omega
  simp only[J0,cg,Sem.bH V,bY,Sem.run_sizeOf hi];rw[iN N];have a:¬ ((n+1)*i.size=0):=by
   intro h;rcases Nat.mul_eq_zero.1 h with h|h
   ·omega
   ·omega
  rw[iN a];simp only[cg,nG hi I,bY,e_];have:(Array.map (fun x=>d.cells[x%d.cells.size]!) (Array.range ((n+1)*i.size)))=b:=by
   apply g_;rw[y,<-M,range_zero d.cells (n+1) (by omega),B,q]
  rw[this,y,f1];simp[newRow]
 ·rw [xE]
  exact KP HE (C:=n+1) (by rw[K_ g (n+1) out k.2]; exact f2) f3 (La g (n+1) out k.2) (FT g _ out k.1) (xE ..) (aY _) (by simp)
end Go.AL

namespace Go.AL
open Go
variable [Dr]
def eP (r:Nat->List (Option (Option (Nat × Nat)))) (a:Nat) (q:Option (Nat × Nat)):Nat->List (Option (Option (Nat × Nat))):=fun l=>if l=a then r l++[some q] else r l
def gN (r:Nat->List (Option (Option (Nat × Nat)))) (a h:Nat):Nat->List (Option (Option (Nat × Nat))):=fun l=>if l=a then (r l).set h none else r l
def iH (r:Nat->List (Option (Option (Nat × Nat)))) (a:Nat):Nat->List (Option (Option (Nat × Nat))):=fun l=>if l=a then (r l).map fun _=>none else r l
def Up{r:Nat->List (Option (Option (Nat × Nat)))}{b l h:Nat}{q:Option (Nat × Nat)}{x:Option (Option (Nat × Nat))}(a:(eP r b q l)[h]? = some x):(r l)[h]? = some x\/(l=b/\h=(r l).length/\x=some q):=by
 unfold eP at a;split at a
 ·rename_i e
  rw[fy]at a;split at a
  ·exact .inl a
  ·right
   cases d:h-(r l).length with
   | zero =>
    rw[d]at a;simp at a;exact⟨e,by omega,a.symm⟩
   |succ n=>rw[d]at a; simp at a
 ·exact .inl a
def F8{r:Nat->List (Option (Option (Nat × Nat)))}{l0 l h:Nat}{q:Option (Nat × Nat)}(a:h<(r l).length):h<(eP r l0 q l).length/\(eP r l0 q l)[h]? = (r l)[h]? := by
 unfold eP;split
 ·exact⟨by simp; omega,dr a⟩
 ·exact⟨a,rfl⟩
def Uq{r:Nat->List (Option (Option (Nat × Nat)))}{d g l h:Nat}{q:Option (Nat × Nat)}(a:(gN r d g l)[h]? = some (some q)):(r l)[h]? = some (some q)/\¬ (l=d/\h=g):=by
 unfold gN at a;split at a
 ·rw [eU] at a
  split at a
  ·split at a<;>cases a
  ·rename_i b
   exact⟨a,fun e=>b e.2.symm⟩
 ·rename_i b
  exact⟨a,fun e=>b e.1⟩
def BF{r:Nat->List (Option (Option (Nat × Nat)))}{a b l h:Nat}(d:¬ (l=a/\h=b)):(gN r a b l)[h]? = (r l)[h]? := by
 unfold gN;split
 ·rename_i e
  exact bc (fun g=>d ⟨e,g.symm⟩)
 ·rfl
def Ur{r:Nat->List (Option (Option (Nat × Nat)))}{a b l:Nat}:(gN r a b l).length=(r l).length:=by
 unfold gN;split<;>simp
def jE{r:Nat->List (Option (Option (Nat × Nat)))}{b l h:Nat}{q:Option (Nat × Nat)}(a:(iH r b l)[h]? = some (some q)):(r l)[h]? = some (some q)/\l≠b:=by
 unfold iH at a;split at a
 ·rw [cX] at a
  cases d:(r l)[h]? with
  |none=>rw[d]at a; cases a
  |some y=>rw[d]at a; cases a
 ·rename_i e
  exact⟨a,e⟩
def Lb{r:Nat->List (Option (Option (Nat × Nat)))}{a l:Nat}:(iH r a l).length=(r l).length:=by
 unfold iH;split<;>simp
def aG.attach{E:ae}(H:aG E){id j z:Nat}{o o' oj:ah}{q:Option (Nat × Nat)}(M:E.H[id]? = some o)(hlab:o.label=some z)(hlab':o'.label=some z)(hver:o'.aU = o.aU)(hj:E.H[j]? = some oj)(hlj:oj.label=none)(hq:E.ad[j]? = some q)
  (ho:E.le { w:=E.w,H:=(E.H.set id o').set j .dead,ad:=E.ad.set j none,X:=E.X.re (eP E.X.r z q) }->aV { w:=E.w,H:=(E.H.set id o').set j .dead,ad:=E.ad.set j none,X:=E.X.re (eP E.X.r z q) } id o')
  (hmm:o.dM=none\/o'.dM=o.dM:=by first|exact .inl rfl|exact .inr rfl|assumption) :
  aG { w:=E.w,H:=(E.H.set id o').set j .dead,ad:=E.ad.set j none,X:=E.X.re (eP E.X.r z q) }/\E.le { w:=E.w,H:=(E.H.set id o').set j .dead,ad:=E.ad.set j none,X:=E.X.re (eP E.X.r z q) }:=by
 have hne:j≠id:=fun e=>by rw[e,M]at hj; cases hj; rw[hlab]at hlj; cases hlj
 have hlt:=aX M;have hltj:=aX hj;have V:∀(i:Nat) x,(E.ad.set j none)[i]? = some (some x)->i≠j/\E.ad[i]? = some (some x):=fun i x hi=>by
  rw[eU]at hi;split at hi
  ·split at hi<;>cases hi
  ·rename_i e
   exact⟨Ne.symm e,hi⟩
 have H_old:∀(i:Nat) x,((E.H.set id o').set j .dead)[i]? = some x->(i=j/\x=.dead)\/(i=id/\x=o')\/(i≠j/\i≠id/\E.H[i]? = some x):=fun i x hi=>by
  by_cases e:i=j
  ·subst e
   rw[bK (by simp; exact hltj)]at hi;cases hi;exact .inl ⟨rfl,rfl⟩
  ·rw [bc (Ne.symm e)] at hi
   by_cases A:i=id
   ·subst A
    rw[bK hlt]at hi;cases hi;exact .inr (.inl ⟨rfl,rfl⟩)
   ·rw [bc (Ne.symm A)] at hi
    exact .inr (.inr ⟨e,A,hi⟩)
 have hid':((E.H.set id o').set j .dead)[id]? = some o':=by
  rw[bc hne,bK hlt]
 have W:∀(l h b m:Nat),(eP E.X.r z q l)[h]? = some (some (some (b,m)))->(E.X.r l)[h]? = some (some (some (b,m)))\/(l=z/\h=(E.X.r l).length/\E.ad[j]? = some (some (b,m))):=fun l h b m N=>by
  rcases Up N with g|⟨F,Y,g3⟩
  ·exact .inl g
  ·cases g3
   exact .inr ⟨F,Y,hq⟩
 have hle:E.le { w:=E.w,H:=(E.H.set id o').set j .dead,ad:=E.ad.set j none,X:=E.X.re (eP E.X.r z q) }:=by
  refine⟨fun i al hp=>?_,aY _,fun _ _ _=>rfl,fun b hb hno=>?_,fun i al hp B=>?_,⟨rfl,rfl⟩,fun l h hh=>?_,.refl _,fun i l x d t hv=>?_⟩
  rotate_right
  ·by_cases e : i = j
   ·subst e
    obtain⟨y,J,h4⟩:=hv;simp only[]at J;rw[bK (by simp; exact hltj)]at J;cases J;cases h4
   ·by_cases A : i = id
    ·subst A
     rw[M]at d;cases d;have e3:z=l:=by
      have:=ah.nz t;rw[hlab]at this;cases this;rfl
     subst e3;rcases hmm with h|h
     ·rw[h]at t; cases t
     ·exact⟨⟨[some q],iP rfl⟩,o',hid',by rw[h]; exact t⟩
    ·have e3 : l ≠ z := fun e3 => A (H.uniq i id x o l d M (ah.nz t) (by rw [e3]; exact hlab))
     exact⟨⟨[],by rw[fe]; exact iN e3⟩,x,by simp only[]; rw[bc (Ne.symm e),bc (Ne.symm A)]; exact d,t⟩
  ·obtain ⟨x, d, t⟩ := hp
   by_cases e:i=j
   ·subst e
    exact⟨.dead,by simp only[]; rw[bK (by simp; exact hltj)],rfl,fun v hv=>by cases hv⟩
   ·by_cases A : i = id
    ·subst A
     rw[M]at d;cases d;exact⟨o',hid',ah.Ba hlab',fun v hv=>t.2 v (by rw[<-hver]; exact hv)⟩
    ·exact⟨x,by simp only[]; rw[bc (Ne.symm e),bc (Ne.symm A)]; exact d,t⟩
  ·rintro (⟨i, c, hi⟩ | ⟨l, h, m, hm⟩)
   ·exact hno (.inl ⟨i,c,(V i _ hi).2⟩)
   ·rcases W l h b m hm with d | ⟨_, _, d⟩
    ·exact hno (.inr ⟨l,h,m,d⟩)
    ·exact hno (.inl ⟨j,m,d⟩)
  ·obtain ⟨x, d, t⟩ := B
   rcases H_old i x d with⟨_,rfl⟩|⟨rfl,rfl⟩|⟨U,A,J⟩
   ·cases t
   ·exact⟨⟨o,M,by rw[<-hver]; exact t⟩,by simp only[]; rw[bc hne]⟩
   ·exact⟨⟨x,J,t⟩,by simp only[]; rw[bc (Ne.symm U)]⟩
  ·obtain ⟨F, Y⟩ := F8 (r := E.X.r) (l0 := z) (q := q) hh
   exact⟨F,fun y O=>by
    have O:(eP E.X.r z q l)[h]? = some (some y):=O
    rwa [Y]at O⟩
 refine⟨⟨by simp[H.len],fun i k b m n hi N=>H.inj i k b m n (V i _ hi).2 (V k _ N).2,fun i b m hi=>H.lt i b m (V i _ hi).2,fun b hb=>H.X b hb,fun i x hi=>?_,H.gL.bZ hle.toC,fun l h l' h' b m n d t=>?_,fun i b m l h n hi N=>?_,fun l h b m N=>?_,fun i k x y l hi N d t=>?_,fun l hn h y O=>?_⟩,hle⟩
 ·rcases H_old i x hi with ⟨rfl, rfl⟩ | ⟨rfl, rfl⟩ | ⟨U, A, J⟩
  ·simp only [aV]
   rw[bK (by rw[H.len]; exact hltj)]
  ·exact ho hle
  ·refine mo (fun a _ hr => bG hle a hr) (by simp only []; rw [bc (Ne.symm U)]) (fun _ _ _ => rfl) (fun l B => ?_) (H.obj i x J)
   have hne2:l≠z:=fun e=>A (H.uniq i id x o l J M B (by rw[hlab,e]));exact⟨iN hne2,fun _ _ _ _=>rfl⟩
 ·rcases W l h b m d with F | ⟨F, Y, g3⟩ <;> rcases W l' h' b n t with I | ⟨I, k2, k3⟩
  ·exact H.fC _ _ _ _ _ _ _ F I
  ·exact(H.dm _ _ _ _ _ _ k3 F).elim
  ·exact(H.dm _ _ _ _ _ _ g3 I).elim
  ·exact⟨by rw[F,I],by rw[Y,k2,F,I]⟩
 ·obtain ⟨g0, F⟩ := V i _ hi
  rcases W l h b n N with I|⟨I,k2,k3⟩
  ·exact H.dm _ _ _ _ _ _ F I
  ·exact g0 (H.inj _ _ _ _ _ F k3)
 ·rcases W l h b m N with I | ⟨I, k2, k3⟩
  ·exact H.cS _ _ _ _ I
  ·exact H.lt _ _ _ k3
 ·have key:∀ (i:Nat) x,((E.H.set id o').set j .dead)[i]? = some x->x.label=some l->∃ y,E.H[i]? = some y/\y.label=some l:=by
   intro i x hi B;rcases H_old i x hi with⟨_,rfl⟩|⟨rfl,rfl⟩|⟨U,A,J⟩
   ·cases B
   ·exact⟨o,M,by rw[hlab,<-hlab',B]⟩
   ·exact⟨x,J,B⟩
  obtain⟨x',a1,a2⟩:=key i x hi d;obtain⟨y',b1,b2⟩:=key k y N t;exact H.uniq i k x' y' l a1 b1 a2 b2
 ·have hne2 : l ≠ z := fun e => hn id o' hid' (by rw [hlab', e])
  have O:(eP E.X.r z q l)[h]? = some (some y):=O;unfold eP at O;rw[iN hne2]at O;refine H.iD l (fun i x hi B=>?_) h y O;by_cases e:i=id
  ·subst e
   rw[M]at hi;cases hi;exact hne2 (by rw[hlab]at B; cases B; rfl)
  ·by_cases U : i = j
   ·subst U
    rw[hj]at hi;cases hi;rw[hlj]at B;cases B
   ·exact hn i x (by show ((E.H.set id o').set j .dead)[i]? = _; rw[bc (Ne.symm U),bc (Ne.symm e)]; exact hi) B
def aG.BG{E:ae}(H:aG E){id l0 h0:Nat}{o o' ov:ah}{q:Option (Nat × Nat)}(F:E.H[id]? = some o)(hlab:o.label=some l0)(V:o'.label=some l0)(hver:o'.aU = o.aU)(hlv:ov.label=none) (O:∀ b m,q=some (b,m)->(E.X.r l0)[h0]? = some (some (some (b,m))))
  (ho:E.le { w:=E.w,H:=E.H.set id o'++[ov],ad:=E.ad++[q],X:=E.X.re (gN E.X.r l0 h0) }->aV { w:=E.w,H:=E.H.set id o'++[ov],ad:=E.ad++[q],X:=E.X.re (gN E.X.r l0 h0) } id o'/\aV { w:=E.w,H:=E.H.set id o'++[ov],ad:=E.ad++[q],X:=E.X.re (gN E.X.r l0 h0) } E.H.length ov)
  (hmm:o.dM=none:=by first|rfl|assumption) :
  aG { w:=E.w,H:=E.H.set id o'++[ov],ad:=E.ad++[q],X:=E.X.re (gN E.X.r l0 h0) }/\E.le { w:=E.w,H:=E.H.set id o'++[ov],ad:=E.ad++[q],X:=E.X.re (gN E.X.r l0 h0) }:=by
 have Y:=aX F;have M:∀(i:Nat) x,(E.ad++[q])[i]? = some x->E.ad[i]? = some x\/(i=E.ad.length/\x=q):=fun i x hi=>by
  rw[fy]at hi;split at hi
  ·exact .inl hi
  ·right
   cases g:i-E.ad.length with
   |zero=>rw[g]at hi; simp at hi; exact⟨by omega,hi.symm⟩
   |succ n=>rw[g]at hi; simp at hi
 have W:∀(i:Nat) x,(E.H.set id o'++[ov])[i]? = some x->(i=E.H.length/\x=ov)\/(i=id/\x=o')\/(i≠id/\E.H[i]? = some x):=fun i x hi=>by
  rw[fy]at hi;split at hi
  ·by_cases t : i = id
   ·subst t
    rw[bK Y]at hi;cases hi;exact .inr (.inl ⟨rfl,rfl⟩)
   ·rw [bc (Ne.symm t)] at hi
    exact .inr (.inr ⟨t,hi⟩)
  ·left
   cases g:i-(E.H.set id o').length with
   |zero=>rw[g]at hi; simp at hi; simp at g; rename_i d; simp at d; exact⟨by omega,hi.symm⟩
   |succ n=>rw[g]at hi; simp at hi
 have hid':(E.H.set id o'++[ov])[id]? = some o':=by
  rw[dr (by simp; exact Y),bK Y]
 have I:∀(l h:Nat) y,(gN E.X.r l0 h0 l)[h]? = some (some y)->(E.X.r l)[h]? = some (some y)/\¬ (l=l0/\h=h0):=fun l h y g=>Uq g;have N:E.le { w:=E.w,H:=E.H.set id o'++[ov],ad:=E.ad++[q],X:=E.X.re (gN E.X.r l0 h0) }:=by
  refine⟨fun i al hp=>?_,aY _,fun _ _ _=>rfl,fun b hb hno=>?_,fun i al hp A=>?_,⟨rfl,rfl⟩,fun l h hh=>?_,.refl _,fun i l x d z hv=>?_⟩
  rotate_right
  ·by_cases t : i = id
   ·subst t
    rw[F]at d;cases d;rw[hmm]at z;cases z
   ·have e3 : l ≠ l0 := fun e3 => t (H.uniq i id x o l d F (ah.nz z) (by rw [e3]; exact hlab))
    exact⟨⟨[],by rw[fe]; exact iN e3⟩,x,by simp only[]; rw[dr (by rw[jd]; exact aX d),bc (Ne.symm t)]; exact d,z⟩
  ·obtain ⟨x, d, z⟩ := hp
   by_cases t:i=id
   ·subst t
    rw[F]at d;cases d;exact⟨o',hid',ah.Ba V,fun v hv=>z.2 v (by rw[<-hver]; exact hv)⟩
   ·exact⟨x,by simp only[]; rw[dr (by simp; exact aX d),bc (Ne.symm t)]; exact d,z⟩
  ·rintro (⟨i, c, hi⟩ | ⟨l, h, m, hm⟩)
   ·rcases M i _ hi with d | ⟨_, d⟩
    ·exact hno (.inl ⟨i,c,d⟩)
    ·exact hno (.inr ⟨l0,h0,c,O b c d.symm⟩)
   ·exact hno (.inr ⟨l,h,m,(I l h _ hm).1⟩)
  ·obtain ⟨x0, B, _⟩ := hp
   have hii:=aX B;obtain⟨x,d,z⟩:=A;have hloc:(E.ad++[q])[i]? = E.ad[i]? := dr (by rw[H.len]; exact hii);rcases W i x d with⟨e,rfl⟩|⟨rfl,rfl⟩|⟨t,J⟩
   ·omega
   ·exact⟨⟨o,F,by rw[<-hver]; exact z⟩,hloc⟩
   ·exact⟨⟨x,J,z⟩,hloc⟩
  ·refine ⟨?_, fun y hy => (I l h y hy).1⟩
   show h<(gN E.X.r l0 h0 l).length
   rw[Ur];exact hh
 refine⟨⟨by simp[H.len],fun i k b m n hi g=>?_,fun i b m hi=>?_,fun b hb=>H.X b hb,fun i x hi=>?_,H.gL.bZ N.toC,fun l h l' h' b m n d z=>H.fC _ _ _ _ _ _ _ (I l h _ d).1 (I l' h' _ z).1,fun i b m l h n hi g=>?_,fun l h b m g=>H.cS _ _ _ _ (I l h _ g).1,fun i k x y l hi g d z=>?_,fun l hn h y hy=>?_⟩,N⟩
 ·rcases M i _ hi with B | ⟨B, U⟩ <;> rcases M k _ g with k1 | ⟨k1, k2⟩
  ·exact H.inj _ _ _ _ _ B k1
  ·exact(H.dm _ _ _ _ _ _ B (O b n k2.symm)).elim
  ·exact(H.dm _ _ _ _ _ _ k1 (O b m U.symm)).elim
  ·omega
 ·rcases M i _ hi with B | ⟨B, U⟩
  ·exact H.lt _ _ _ B
  ·exact H.cS _ _ _ _ (O b m U.symm)
 ·rcases W i x hi with ⟨rfl, rfl⟩ | ⟨rfl, rfl⟩ | ⟨t, J⟩
  ·exact(ho N).2
  ·exact(ho N).1
  ·refine mo (fun a _ hr => bG N a hr) (by simp only []; rw [dr (by rw [H.len]; exact aX J)]) (fun _ _ _ => rfl) (fun l A => ?_) (H.obj i x J)
   have hne2:l≠l0:=fun e=>t (H.uniq i id x o l J F A (by rw[hlab,e]));exact⟨iN hne2,fun _ _ _ _=>rfl⟩
 ·obtain ⟨r1, r2⟩ := I l h _ g
  rcases M i _ hi with B|⟨B,U⟩
  ·exact H.dm _ _ _ _ _ _ B r1
  ·exact r2 (H.fC _ _ _ _ _ _ _ r1 (O b m U.symm))
 ·have key:∀ (i:Nat) x,(E.H.set id o'++[ov])[i]? = some x->x.label=some l->∃ y,E.H[i]? = some y/\y.label=some l:=by
   intro i x hi A;rcases W i x hi with⟨_,rfl⟩|⟨rfl,rfl⟩|⟨t,J⟩
   ·rw[hlv]at A; cases A
   ·exact⟨o,F,by rw[hlab,<-V,A]⟩
   ·exact⟨x,J,A⟩
  obtain⟨x',a1,a2⟩:=key i x hi d;obtain⟨y',b1,b2⟩:=key k y g z;exact H.uniq i k x' y' l a1 b1 a2 b2
 ·refine H.iD l (fun i x hi A => ?_) h y (I l h y hy).1
  by_cases e:i=id
  ·subst e
   rw[F]at hi;cases hi;exact hn i o' hid' (by rw[V,<-hlab,A])
  ·exact hn i x (by show (E.H.set id o'++[ov])[i]? = _; rw[dr (by simp; exact aX hi),bc (Ne.symm e)]; exact hi) A
def aG.F9{E:ae}(H:aG E){id z:Nat}{o o':ah}(A:E.H[id]? = some o)(hlab:o.label=some z)(hlab':o'.label=none)(O:o'.aU = o.aU)
  (ho:E.le { w:=E.w,H:=E.H.set id o',ad:=E.ad,X:=E.X.re (iH E.X.r z) }->aV { w:=E.w,H:=E.H.set id o',ad:=E.ad,X:=E.X.re (iH E.X.r z) } id o')
  (hmm:o.dM=none:=by first|rfl|assumption) (hborn:o'.born=true:=by first|rfl|assumption) :
  aG { w:=E.w,H:=E.H.set id o',ad:=E.ad,X:=E.X.re (iH E.X.r z) }/\E.le { w:=E.w,H:=E.H.set id o',ad:=E.ad,X:=E.X.re (iH E.X.r z) }:=by
 have U:=aX A;have J:∀(i:Nat) x,(E.H.set id o')[i]? = some x->(i=id/\x=o')\/(i≠id/\E.H[i]? = some x):=fun i x hi=>by
  by_cases q:i=id
  ·subst q
   rw[bK U]at hi;cases hi;exact .inl ⟨rfl,rfl⟩
  ·rw [bc (Ne.symm q)] at hi
   exact .inr ⟨q,hi⟩
 have I:E.le { w:=E.w,H:=E.H.set id o',ad:=E.ad,X:=E.X.re (iH E.X.r z) }:=by
  refine⟨fun i al W=>?_,aY _,fun _ _ _=>rfl,fun b hb V=>?_,fun i al W t=>?_,⟨rfl,rfl⟩,fun l h hh=>?_,.refl _,fun i l x d g Y=>?_⟩
  rotate_right
  ·by_cases q : i = id
   ·subst q
    rw[A]at d;cases d;rw[hmm]at g;cases g
   ·have M : l ≠ z := fun M => q (H.uniq i id x o l d A (ah.nz g) (by rw [M]; exact hlab))
    exact⟨⟨[],by rw[fe]; exact iN M⟩,x,by simp only[]; rw[bc (Ne.symm q)]; exact d,g⟩
  ·obtain ⟨x, d, g⟩ := W
   by_cases q:i=id
   ·subst q
    rw[A]at d;cases d;exact⟨o',by simp only[]; rw[bK U],hborn,fun v Y=>g.2 v (by rw[<-O]; exact Y)⟩
   ·exact⟨x,by simp only[]; rw[bc (Ne.symm q)]; exact d,g⟩
  ·rintro (⟨i, c, hi⟩ | ⟨l, h, m, hm⟩)
   ·exact V (.inl ⟨i,c,hi⟩)
   ·exact V (.inr ⟨l,h,m,(jE hm).1⟩)
  ·obtain ⟨x, d, g⟩ := t
   rcases J i x d with⟨rfl,rfl⟩|⟨q,B⟩
   ·exact⟨⟨o,A,by rw[<-O]; exact g⟩,rfl⟩
   ·exact⟨⟨x,B,g⟩,rfl⟩
  ·refine ⟨?_, fun y N => (jE N).1⟩
   show h<(iH E.X.r z l).length
   rw[Lb];exact hh
 refine⟨⟨by simp[H.len],H.inj,H.lt,H.X,fun i x hi=>?_,H.gL.bZ I.toC,fun l h l' h' b m n d g=>H.fC _ _ _ _ _ _ _ (jE d).1 (jE g).1,fun i b m l h n hi F=>H.dm _ _ _ _ _ _ hi (jE F).1,fun l h b m F=>H.cS _ _ _ _ (jE F).1,fun i k x y l hi F d g=>?_,fun l hn h y N=>?_⟩,I⟩
 ·rcases J i x hi with ⟨rfl, rfl⟩ | ⟨q, B⟩
  ·exact ho I
  ·refine mo (fun a _ hr => bG I a hr) rfl (fun _ _ _ => rfl) (fun l t => ?_) (H.obj i x B)
   have hne2:l≠z:=fun e=>q (H.uniq i id x o l B A t (by rw[hlab,e]));exact⟨iN hne2,fun _ _ _ _=>rfl⟩
 ·have key:∀ (i:Nat) x,(E.H.set id o')[i]? = some x->x.label=some l->E.H[i]? = some x:=by
   intro i x hi t;rcases J i x hi with⟨rfl,rfl⟩|⟨q,B⟩
   ·rw[hlab']at t; cases t
   ·exact B
  exact H.uniq i k x y l (key i x hi d) (key k y F g) d g
 ·obtain ⟨g1, g2⟩ := jE N
  refine H.iD l (fun i x hi t=>?_) h y g1;by_cases e:i=id
  ·subst e
   rw[A]at hi;cases hi;exact g2 (by rw[hlab]at t; cases t; rfl)
  ·exact hn i x (by show (E.H.set id o')[i]? = _; rw[bc (Ne.symm e)]; exact hi) t
def BH{E:ae}(HE:aG E){id l w cl:Nat}{d:List (AV × Option (List (List AV)) × Nat)}{c:ak}(h:E.H[id]? = some (.br l w d cl))(k:ab E (.map id) c) :
  ∃ b n a,c=.map (some b)/\E.ad[id]? = some (some (b,n))/\E.w.heap[b]? = some (.map a cl)/\bO E (dh d) a.toList/\kj E l w d a.toList:=by
 have q:=HE.obj id _ h;simp only[aV]at q;obtain⟨b,n,a,t,v,y,z⟩:=q;simp only[ab]at k;obtain⟨_,_,A⟩:=k;obtain⟨F,I,g,B⟩:=A ⟨_,h,rfl⟩;rw[t]at g;simp only[a_,bk]at g;obtain⟨rfl,rfl⟩:=g;exact⟨b,n,a,B,t,v,y,z⟩
def F_{P:ai}{a:aD}{k:AV}{b:List ak}(h:iG P a k=some b):gJ k=(k,.undef):=by
 unfold iG at h;split at h
 ·cases h
 ·split at h
  ·rfl
  ·rfl
  ·cases h
def xP{a:List (AV × Option (List (List AV)) × Nat)}{i:Nat}{x:AV × Option (List (List AV)) × Nat}(h:a[i]? = some x):(dh a)[i]? = some ((gJ x.1).1,(gJ x.1).2,x.2.2):=by
 unfold dh;rw[cX,h];rfl
def BI(P:ai)(t:aD):Option Nat:=match cI P t with
 |.slice _ w _=>some w
 |_=>none
def qW (a:List (AV × Option (List (List AV)) × Nat)) (i:Nat):Option (AV × List (List AV) × Nat):=match a[i]? with
 |some (key,some rZ,n)=>some (key,rZ,n)
 |_=>none
def sS(P:ai)(t:aD)(m k:AV)(H:List ah):Option (AV × List ah) :=
 match dJ P t,m with
 | some (b,d),.map id=>match H[id]? with
  | some (.br l w a cl)=>match iG P b k,BI P d,iU P d with
   | some g,some w',some (.lit (.slice none 0 0))=>match aH w' w with
    | true=>match eY P b g (dh a) 0 with
     | some (some (i,_))=>match qW a i with
      |some (key,rZ,n)=>some (.vQ w H.length 0 0 rZ.length,H.set id (.br l w (a.set i (key,none,n)) cl)++[.vQ w 0 rZ])
      |none=>none
     |some none=>some (.vQ w H.length 0 0 0,H.set id (.br l w a cl)++[.vQ w 0 []])
     |none=>none
    |false=>none
   |_,_,_=>none
  |_=>none
 |_,_=>none
def Us{E:ae}{l w i:Nat}{g:List (AV × Option (List (List AV)) × Nat)}{t:List MapEntry}{x:AV × Option (List (List AV)) × Nat}(F:x.2.1=none)(h:kj E l w g t):kj E l w (g.set i x) t:=by
 obtain⟨I,J,M⟩:=h;have k:∀(j:Nat) y,(g.set i x)[j]? = some y->y.2.1.isSome=true->g[j]? = some y/\j≠i:=fun j y d q=>by
  rw[eU]at d;split at d
  ·split at d
   ·cases d
    rw[F]at q;cases q
   ·cases d
  ·rename_i B
   exact⟨d,Ne.symm B⟩
 refine⟨I,fun a b y z d N v sz he=>J a b y z (k a y d v).1 (k b z N sz).1 v sz he,fun a y rZ e d A he=>M a y rZ e (k a y d (by rw[A]; rfl)).1 A he⟩
def F'{E:ae}{i:Nat}{a:List (AV × Option (List (List AV)) × Nat)}{b:List MapEntry}{x y:AV × Option (List (List AV)) × Nat}(hi:a[i]? = some x)(d:y.1=x.1)(g:y.2.2=x.2.2)(h:bO E (dh a) b):bO E (dh (a.set i y)) b:=by
 have e:dh (a.set i y)=dh a:=by
  apply ou;intro j;unfold dh;rw[cX,cX,eU];split
  ·rename_i e
   subst e;rw[iP (aX hi),hi];simp[d,g]
  ·rfl
 rw[e];exact h
def Ut{P:ai}{E:ae}(HE:aG E){t:aD}{m k v:AV}{c d:ak}{H':List ah}(h:sS P t m k E.H=some (v,H'))(hm:ab E m c)(hk:ab E k d) :
  ∃ u w',(kL t c d false).run P E.w=.ok u w'/\di E v H' u w':=by
 unfold sS at h;split at h
 case h_2=>cases h
 rename_i kt et id ht;split at h
 case h_2=>cases h
 rename_i l w M cl hid;split at h
 case h_2=>cases h
 rename_i kv w' hkv hw' hz;split at h
 case h_2=>cases h
 rename_i hww;have hww:=bA hww;clear hw' hww;obtain⟨b,n,ms,rfl,h1,h2,h3,h4⟩:=BH HE hid hm;have hkv':=iT hkv hk;have hpk:=F_ hkv;have e1:(getObj b).run P E.w=.ok (.map ms cl) E.w:=by simp[getObj,hO,h2]
 have hlenH:E.H.length=E.ad.length:=HE.len.symm;split at h
 ·rename_i i v0 hf
  split at h
  case h_2=>cases h
  rename_i key rZ bn hat;cases h;have hes:M[i]? = some (key,some rZ,bn):=by
   unfold qW at hat;split at hat
   ·rename_i a1 a2 a3 he
    cases hat;exact he
   ·cases hat
  obtain⟨r',g1,g2⟩:=h_ hkv' E.w h3 hf;cases r' with
  |none=>simp[dA]at g2
  | some q =>
   simp only[dA]at g2;obtain⟨q1,q2,_,e',q4,q5⟩:=g2;simp only[ff]at q4;have hval:q.2=e'.val:=q5.symm;obtain⟨V,k1,k2⟩:=h4;have hsl:=k2 i _ rZ e' hes rfl q4;obtain⟨I,W,z1,z2,z3⟩:∃(I:Option (Nat × Nat)) (W:Nat),(∀ b m,I=some (b,m)->(E.X.r l)[W]? = some (some (some (b,m)))) /\
     (∀ j y,M[j]? = some y->y.2.1.isSome=true->j≠i->∀ b m,(E.X.r l)[V j]? = some (some (some (b,m)))->V j≠W) /\
     ((I=none/\rZ=[]/\∃ aN,e'.val=.slice aN 0 0)\/∃ b m,I=some (b,m)/\e'.val=.slice (some ⟨b,0,none⟩) rZ.length m/\isRow E.w b (m*w)/\rZ.length<=m/\fg rZ/\da E w rZ b 0):=by
    rcases hsl with⟨s1,s2⟩|⟨N,mm,s1,s2,Y,O,s5,s6⟩
    ·exact⟨none,(E.X.r l).length,fun _ _ e=>(by cases e),fun j y _ _ _ b m hb e=>(by rw[e]at hb; have:=aX hb; omega),.inl ⟨rfl,s1,s2⟩⟩
    ·exact⟨some (N,mm),V i,fun _ _ e=>(by cases e; exact s1),fun j y F hsy hne _ _ _ e=>hne (k1 j i _ _ F hes hsy rfl e),.inr ⟨N,mm,rfl,s2,Y,O,s5,s6⟩⟩
   obtain⟨r1,r2⟩:=aG.BG HE (id:=id) (l0:=l) (h0:=W) (o':=.br l w (M.set i (key,none,bn)) cl) (ov:=.vQ w 0 rZ) (q:=I) hid rfl rfl rfl rfl z1 fun U=>by
    refine⟨?_,?_⟩
    ·simp only [aV]
     refine⟨b,n,ms,?_,h2,?_,?_⟩
     ·rw [dr (aX h1)]
      exact h1
     ·exact fL (fun a _ A=>bG U a A) (F' hes rfl rfl h3)
     ·obtain ⟨_, k3, k4⟩ := Us (i := i) (x := (key, none, bn)) rfl (show kj E l w M ms.toList from ⟨V, k1, k2⟩)
      refine⟨V,fun a b' y z F hz sy sz he=>?_,fun a y rws e F A he=>?_⟩
      all_goals
       have old:∀(j:Nat) y,(M.set i (key,none,bn))[j]? = some y->y.2.1.isSome=true->M[j]? = some y/\j≠i:=fun j y F hsm=>by
        rw[eU]at F;split at F
        ·split at F
         ·cases F
          cases hsm
         ·cases F
        ·rename_i hne
         exact⟨F,Ne.symm hne⟩
      ·exact k1 a b' y z (old a y F sy).1 (old b' z hz sz).1 sy sz he
      ·obtain ⟨o1, o2⟩ := old a y F (by rw [A]; rfl)
       rcases k2 a y rws e o1 A he with J|⟨N,mm,s1,s2,Y,O,s5,s6⟩
       ·exact .inl J
       ·refine .inr ⟨N, mm, ?_, s2, Y, O, s5, ga (fun a _ A => bG U a A) rfl s6⟩
        have hne:=z2 a y o1 (by rw[A]; rfl) o2 N mm s1;show (gN E.X.r l W l)[V a]? = _
        rw[BF fun e=>hne e.2];exact s1
    ·simp only [aV]
     have J:(E.ad++[I])[E.H.length]? = some I:=by rw[hlenH]; simp
     rcases z3 with⟨rfl,s1,_⟩|⟨N,mm,rfl,_,Y,O,s5,s6⟩
     ·exact .inl ⟨J,s1⟩
     ·exact .inr ⟨N,mm,J,Y,O,s5,ga (fun a _ A=>bG U a A) rfl s6⟩
   refine⟨q.2,E.w,?_,E.ad++[I],gN E.X.r l W,?_,r1,r2⟩
   ·simp only [kL, cg, Sem.bH (gb ht), bY, e1, e_, gA hkv', g1]
    rfl
   ·have hnew:(E.H.set id (.br l w (M.set i (key,none,bn)) cl)++[.vQ w 0 rZ])[E.H.length]? = some (.vQ w 0 rZ):=by
     rw[jz (by simp)];simp
    have J:(E.ad++[I])[E.H.length]? = some I:=by rw[hlenH]; simp
    rw[hval];simp only[ab];rcases z3 with⟨rfl,s1,aN,s2⟩|⟨N,mm,rfl,s2,Y,O,s5,s6⟩
    ·subst s1
     refine⟨⟨aN,0,by rw[s2]; rfl,aY _,fun h=>by simp at h⟩,⟨_,hnew,rfl,fun v hv=>by cases hv; exact aY _⟩,fun _=>⟨fun _=>⟨by first|rfl|trivial,by first|rfl|trivial,aN,s2⟩,fun b' m' B=>?_⟩⟩;rw[J]at B;cases B
    ·refine ⟨⟨_, mm, s2, O, fun _ => ⟨N, 0, rfl⟩⟩, ⟨_, hnew, rfl, fun v hv => by cases hv; exact aY _⟩, fun _ => ⟨fun B => ?_, fun b' m' B => ?_⟩⟩
     ·rw [J] at B
      cases B
     ·rw [J] at B
      cases B;exact⟨by omega,0,fun _=>by simp,by rw[s2,ff]⟩
 ·rename_i hf
  cases h;obtain⟨r',g1,g2⟩:=h_ hkv' E.w h3 hf;cases r' with
  |some _=>simp[dA]at g2
  | none =>
   obtain⟨zv,z1,z2⟩:=sP hz E.w;have hzv:zv=.slice none 0 0:=by have:=z2 E; simpa[ab]using this
   obtain⟨r1,r2⟩:=aG.BG HE (id:=id) (l0:=l) (h0:=(E.X.r l).length) (o':=.br l w M cl) (ov:=.vQ w 0 []) (q:=none) hid rfl rfl rfl rfl (fun _ _ e=>by cases e) fun U=>by
    refine⟨?_,?_⟩
    ·simp only [aV]
     refine⟨b,n,ms,?_,h2,fL (fun a _ A=>bG U a A) h3,xy (E:=E) (fun h g m hk=>⟨?_,rfl⟩) (fun _ _ _ _ _ b' B _ A=>ga (fun a _ A=>bG U a A) B A) h4⟩
     ·rw [dr (aX h1)]
      exact h1
     ·show (gN E.X.r l (E.X.r l).length l)[h]? = _
      rw[BF fun e=>by rw[e.2]at hk; have:=aX hk; omega];exact hk
    ·simp only [aV]
     exact .inl ⟨by rw[hlenH]; simp,by first|rfl|trivial⟩
   refine⟨zv,E.w,?_,E.ad++[none],gN E.X.r l (E.X.r l).length,?_,r1,r2⟩
   ·simp only [kL, cg, Sem.bH (gb ht), bY, e1, e_, gA hkv', g1, z1]
    rfl
   ·have hnew:(E.H.set id (.br l w M cl)++[.vQ w 0 []])[E.H.length]? = some (.vQ w 0 []):=by
     rw[jz (by simp)];simp
    have J:(E.ad++[(none:Option (Nat × Nat))])[E.H.length]? = some none:=by rw[hlenH]; simp
    rw[hzv];simp only[ab];refine⟨⟨none,0,rfl,aY _,fun h=>by simp at h⟩,⟨_,hnew,rfl,fun v hv=>by cases hv; exact aY _⟩,fun _=>⟨fun _=>⟨by first|rfl|trivial,by first|rfl|trivial,none,rfl⟩,fun b' m' B=>?_⟩⟩;rw[J]at B;cases B
 ·cases h
def Ga{a:List (AV × Option (List (List AV)) × Nat)}{i:Nat}{x:AV × Option (List (List AV)) × Nat}{f:AV × Option (List (List AV)) × Nat->AV × Option (List (List AV)) × Nat}(h:a[i]? = some x):a.modify i f=a.set i (f x):=by
 apply ou;intro j;rw[hY,eU];by_cases e:i=j
 ·subst e
  rw[iP rfl,iP (aX h),h];simp
 ·rw [iN e]
  simp[e]
def pQ(P:ai)(t:aD)(m k v:AV)(H:List ah):Option (List ah) :=
 match dJ P t,m,v with
 | some (b,_),.map id,.vQ w j al oF n=>match H[id]?,H[j]? with
  | some (.br l w' a cl),some (.vQ g d rZ)=>match iG P b k with
   | some h=>if (w=w'/\w=g)/\(al=d/\oF=0)/\n=rZ.length/\k.closed=true then
     match eY P b h (dh a) 0 with
     |some (some (i,_))=>some ((H.set id (.br l w' (a.modify i fun e=>(k,some rZ,e.2.2)) cl)).set j .dead)
     |some none=>some ((H.set id (.br l w' (a++[(k,some rZ,cl)]) (cl+1))).set j .dead)
     |none=>none
    else none
   |none=>none
  |_,_=>none
 |_,_,_=>none
def xQ{P:ai}{E:ae}(HE:aG E){id l w b n cl cl':Nat}{O q:List (AV × Option (List (List AV)) × Nat)}{U d:Array MapEntry}(F:E.H[id]? = some (.br l w O cl)) (t:E.ad[id]? = some (some (b,n)))
  (V:E.w.heap[b]? = some (.map U cl)) (k:bO E (dh q) d.toList) (I:kj E l w q d.toList) :
  ∃ w',(setObj b (.map d cl')).run P E.w=.ok () w'/\aG { w:=w',H:=E.H.set id (.br l w q cl'),ad:=E.ad,X:=E.X }/\E.le { w:=w',H:=E.H.set id (.br l w q cl'),ad:=E.ad,X:=E.X } /\
   w'.heap[b]? = some (.map d cl')/\∀ y,y≠b->w'.heap[y]? = E.w.heap[y]? := by
 have z:=(HE.lt id b n t).1;have J:({ E.w with heap:=E.w.heap.setIfInBounds b (.map d cl') }:a6).heap.size=E.w.heap.size:=by simp
 have v:∀ y,y≠b->({ E.w with heap:=E.w.heap.setIfInBounds b (.map d cl') }:a6).heap[y]? = E.w.heap[y]? := by
  intro y W;simp only[AZ];rw[iN (fun e=>W e.symm)]
 have key:=aG.qQ (E:=E) (w':={ E.w with heap:=E.w.heap.setIfInBounds b (.map d cl') }) (o':=.br l w q cl') (r':=E.X.r) HE F rfl rfl rfl (by rw[J]; exact aY _) (fun x _ M _=>v x fun e=>M n (by rw[e]; exact t)) (fun _ _=>rfl) (fun _ _ _ h=>.inl h) (fun h Y=>⟨Y,fun _ hq=>hq⟩) (fun A=>by
  simp only[aV];refine⟨b,n,d,t,by simp[z],fL (fun a _ k=>bG A a k) k,xy (E:=E) (fun h g m B=>⟨B,v g fun e=>HE.dm _ _ _ _ _ _ t (by rw[<-e]; exact B)⟩) (fun _ _ _ _ _ b' N _ k=>ga (fun a _ k=>bG A a k) N k) I⟩) ⟨rfl,rfl,rfl,by first|exact fun _=>aY _|exact fun _=>gv _ _⟩
 rw[XS.Fs]at key;exact⟨_,by simp[setObj,hO,V],key.1,key.2,by simp[z],v⟩
def Gb{E:ae}(HE:aG E){id j l w cl i al:Nat}{g:List (AV × Option (List (List AV)) × Nat)}{rZ:List (List AV)}{key:AV}{bn b n:Nat}{F:Array MapEntry}{e:MapEntry}(hid:E.H[id]? = some (.br l w g cl))(I:E.H[j]? = some (.vQ w al rZ))
  (hi:g[i]? = some (key,none,bn)) (hloc:E.ad[id]? = some (some (b,n))) (hb:E.w.heap[b]? = some (.map F cl)) (he:F.toList[i]? = some e) (A:bO E (dh g) F.toList) (hsl:kj E l w g F.toList) (hv:ab E (.vQ w j al 0 rZ.length) e.val) :
  ∃ loc' r',aG { w:=E.w,H:=(E.H.set id (.br l w (g.set i (key,some rZ,bn)) cl)).set j .dead,ad:=loc',X:=E.X.re r' }/\E.le { w:=E.w,H:=(E.H.set id (.br l w (g.set i (key,some rZ,bn)) cl)).set j .dead,ad:=loc',X:=E.X.re r' }:=by
 have N:j≠id:=fun e=>by rw[e,hid]at I; cases I
 have O:=HE.obj j _ I;simp only[ab]at hv;obtain⟨_,_,v3⟩:=hv;obtain⟨v4,v5⟩:=v3 ⟨_,I,rfl⟩;simp only[aV]at O;obtain⟨q,hq⟩:∃ q,E.ad[j]? = some q:=by
  rcases O with⟨k,_⟩|⟨W,m',k,_⟩
  ·exact⟨_,k⟩
  ·exact⟨_,k⟩
 obtain⟨M,k1,k2⟩:=hsl;have htl:∀ h,h<(E.X.r l).length->(eP E.X.r l q l)[h]? = (E.X.r l)[h]? := fun h d=>(F8 d).2;have hnew:(eP E.X.r l q l)[(E.X.r l).length]? = some (some q):=by
  unfold eP;rw[iP rfl];simp
 obtain⟨r1,r2⟩:=aG.attach HE (id:=id) (j:=j) (o':=.br l w (g.set i (key,some rZ,bn)) cl) (q:=q) hid rfl rfl rfl I rfl hq fun U=>by
  simp only[aV];refine⟨b,n,F,?_,hb,fL (fun a _ A=>bG U a A) (F' hi rfl rfl A),?_⟩
  ·rw [bc N]
   exact hloc
  ·-- handles: the J ones, but at i the new one; empty ones take none
   have J:∀(a:Nat) y,(g.set i (key,some rZ,bn))[a]? = some y->a≠i->g[a]? = some y:=fun a y t N=>by
    rwa [bc (Ne.symm N)]at t
   have at_i:∀ y,(g.set i (key,some rZ,bn))[i]? = some y->y=(key,some rZ,bn):=fun y t=>by
    rw[bK (aX hi)]at t;cases t;rfl
   refine⟨fun a=>if a=i then (E.X.r l).length else if M a<(E.X.r l).length then M a else (E.X.r l).length+1+M a,fun a c y z t hz sy sz d=>?_,fun a y rws e' t hr' V=>?_⟩
   ·by_cases v : a = i
    ·by_cases B : c = i
     ·rw[v,B]
     ·simp only [iP v, iN B] at d
      split at d<;>omega
    ·by_cases B : c = i
     ·simp only [iN v, iP B] at d
      split at d<;>omega
     ·simp only [iN v, iN B] at d
      refine k1 a c y z (J a y t v) (J c z hz B) sy sz ?_;split at d<;>split at d<;>omega
   ·by_cases v : a = i
    ·subst v
     have:=at_i y t;subst this;cases hr';rw[he]at V;cases V;rcases O with⟨k,Y⟩|⟨W,m',k,Y,h3,h4,h5⟩
     ·obtain ⟨_, _, aN, h3⟩ := v4 k
      subst Y;exact .inl ⟨rfl,aN,h3⟩
     ·obtain ⟨h6, o, h7, h8⟩ := v5 W m' k
      rw[hq]at k;cases k;simp only[eo,pr,ff]at h6 h7 h8;by_cases hm:0<m'
      ·have := h7 hm
       subst this;refine .inr ⟨W,m',?_,h8,Y,h3,h4,ga (fun a _ A=>bG U a A) rfl h5⟩;simp only[if_true];exact hnew
      ·have hr0 : rZ = [] := ot (by omega)
       have hm0:m'=0:=by omega
       subst hr0;subst hm0;exact .inl ⟨rfl,_,h8⟩
    ·rcases k2 a y rws e' (J a y t v) hr' V with hl | ⟨bb, mm, s1, s2, s3, s4, s5, s6⟩
     ·exact .inl hl
     ·refine .inr ⟨bb, mm, ?_, s2, s3, s4, s5, ga (fun a _ A => bG U a A) rfl s6⟩
      have d:=aX s1;simp only[iN v,iP d];show (eP E.X.r l q l)[M a]? = _
      rw[htl _ d];exact s1
 exact⟨_,_,r1,r2⟩
def Uu{P:ai}{E:ae}(HE:aG E){t:aD}{m k v:AV}{c d u:ak}{H':List ah}(h:pQ P t m k v E.H=some H')(hm:ab E m c)(hk:ab E k d)(hv:ab E v u) :
  ∃ w',(mg t c d u).run P E.w=.ok () w'/\∀ x,di E .undef H' x w':=by
 unfold pQ at h;split at h
 case h_2=>cases h
 rename_i kt et id w j al oF n ht;split at h
 case h_2=>cases h
 rename_i l w' A cl w2 ver' rZ O hj;split at h
 case h_2=>cases h
 rename_i kv hkv;split at h
 case isFalse=>cases h
 rename_i hc;obtain⟨⟨rfl,rfl⟩,⟨rfl,rfl⟩,rfl,hcl⟩:=hc;obtain⟨b,n,M,rfl,U,h2,h3,h4⟩:=BH HE O hm;have hne:j≠id:=fun e=>by rw[e,O]at hj; cases hj
 have W:=iT hkv hk;have I:=F_ hkv;have e1:(getObj b).run P E.w=.ok (.map M cl) E.w:=by simp[getObj,hO,h2]
 obtain⟨hlen,hall⟩:=fb.1 h3;rw[Fv]at hlen;split at h
 ·rename_i i v0 hf
  cases h;obtain⟨N,g1,g2⟩:=h_ W E.w h3 hf;cases N with
  |none=>simp[dA]at g2
  | some q =>
   simp only[dA]at g2;obtain⟨q1,q2,_,e',V,q5⟩:=g2;obtain⟨_,x,y,f1,f2,f3⟩:=vj hf;simp only[ff]at V f1;obtain⟨a1,a2,a3,a4,a5⟩:=hall i x e' f1 V;obtain⟨s1,s2⟩:=xL W (iT f2 a1) f3;have q4':M[i]? = some e':=by simpa using V
   have hlt:i<A.length:=by have:=aX V; omega
   obtain⟨F,hx0⟩:∃ F,A[i]? = some F:=⟨A[i],cn hlt⟩
   have hx:x=((gJ F.1).1,(gJ F.1).2,F.2.2):=by rw[xP hx0]at f1; cases f1; rfl
   have hkk:(k,(none:Option (List (List AV))),F.2.2)=(k,none,F.2.2):=rfl;have hre:bO E (dh (A.set i (k,none,F.2.2))) (M.modify i fun e=>{ e with key:=d,val:=u }).toList:=by
    rw[fb];refine⟨by simp[dh,hlen],fun a y z g B=>?_⟩;simp only[ka,hY]at B;obtain⟨z0,hz0,rfl⟩:=eG.1 B;unfold dh at g;rw[cX,eU]at g;by_cases e:i=a
    ·subst e
     rw[iP rfl,iP hlt]at g;cases g;rw[V]at hz0;cases hz0;simp only[if_true];refine⟨by simpa[I]using hk,by simp[I,ab],?_,by simpa[I]using hcl,by simp[I,AV.closed]⟩;rw[a3,hx]
    ·rw [iN e] at g
     obtain⟨b1,b2,b3,b4,b5⟩:=hall a y z0 (by unfold dh; rw[cX]; exact g) hz0;simp only[iN e];exact⟨b1,b2,b3,b4,b5⟩
   have hsl2:kj E l w (A.set i (k,none,F.2.2)) (M.modify i fun e=>{ e with key:=d,val:=u }).toList:=by
    obtain⟨hs,k1,k2⟩:=h4;have J:∀(a:Nat) y,(A.set i (k,none,F.2.2))[a]? = some y->y.2.1.isSome=true->A[a]? = some y/\a≠i:=fun a y g hsm=>by
     by_cases ei:i=a
     ·subst ei
      rw[bK hlt]at g;cases g;cases hsm
     ·rw [bc ei] at g
      exact⟨g,Ne.symm ei⟩
    refine⟨hs,fun a c y z g B sy sz he=>k1 a c y z (J a y g sy).1 (J c z B sz).1 sy sz he,fun a y rws e g hr he=>?_⟩;obtain⟨o1,o2⟩:=J a y g (by rw[hr]; rfl);simp only[ka,hY]at he;obtain⟨z0,hz0,rfl⟩:=eG.1 he;rw[iN (Ne.symm o2)];exact k2 a y rws z0 o1 hr hz0
   obtain⟨w',p1,p2,p3,p4,p5⟩:=xQ (P:=P) HE (cl':=cl) O U h2 hre hsl2;have hst:(qI e'.key d).run P E.w=.ok d E.w:=by simp[qI,s2]
   have hrun:(mg t (.map (some b)) d u).run P E.w=.ok () w':=by
    subst q1;simp only[mg,cg,Sem.bH (gb ht),bY,e1,gA W,g1,q4',fk,uE,hst];exact p1
   have Y:({ w:=w',H:=E.H.set id (.br l w (A.set i (k,none,F.2.2)) cl),ad:=E.ad,X:=E.X }:ae).H[id]? = some (.br l w (A.set i (k,none,F.2.2)) cl):=by
    simp only[];rw[bK (aX O)]
   have hjE:({ w:=w',H:=E.H.set id (.br l w (A.set i (k,none,F.2.2)) cl),ad:=E.ad,X:=E.X }:ae).H[j]? = some (.vQ w al rZ):=by
    simp only[];rw[bc (Ne.symm hne)];exact hj
   have hobj:=p2.obj id _ Y;simp only[aV]at hobj;obtain⟨b2,n2,ms2,o1,o2,o3,o4⟩:=hobj;rw[U]at o1;simp only[a_,bk]at o1;obtain⟨rfl,rfl⟩:=o1;rw[p4]at o2;cases o2;obtain⟨loc',N,r1,r2⟩:=Gb p2 (i:=i) (key:=k) (bn:=F.2.2) (e:={ e' with key:=d,val:=u }) Y hjE (by rw[bK hlt]) U p4 (by
    simp only[ka,hY,V];simp) o3 o4 (bG p3 _ hv)
   refine⟨w',hrun,fun xx=>⟨loc',N,by simp[ab],?_,p3.trans ?_⟩⟩
   ·simpa[ly,Ga hx0]using r1
   ·simpa[ly,Ga hx0]using r2
 ·rename_i hf
  cases h;obtain⟨N,g1,g2⟩:=h_ W E.w h3 hf;cases N with
  |some _=>simp[dA]at g2
  | none =>
   have hml:M.toList.length=A.length:=by omega
   have hre:bO E (dh (A++[(k,none,cl)])) (M.push { key:=d,val:=u,born:=cl }).toList:=by
    rw[fb];refine⟨by simp[dh,hlen],fun a y z g B=>?_⟩;unfold dh at g;rw[qJ]at g;simp only[nq,fy,fJ]at g B;rw[hml]at B;by_cases e:a<A.length
    ·simp only [iP e] at g B
     exact hall a y z (by unfold dh; exact g) B
    ·simp only [iN e] at g B
     cases hj2:a-A.length with
     | zero =>
      rw[hj2]at g B;simp at g B;subst g; subst B;exact⟨by simpa[I]using hk,by simp[I,ab],rfl,by simpa[I]using hcl,by simp[I,AV.closed]⟩
     |succ _=>rw[hj2]at g; simp at g
   have hsl2:kj E l w (A++[(k,none,cl)]) (M.push { key:=d,val:=u,born:=cl }).toList:=by
    obtain⟨hs,k1,k2⟩:=h4;have J:∀(a:Nat) y,(A++[(k,(none:Option (List (List AV))),cl)])[a]? = some y->y.2.1.isSome=true->A[a]? = some y/\a<A.length:=fun a y g hsm=>by
     rw[fy]at g;split at g
     ·rename_i hh
      exact⟨g,hh⟩
     ·cases hk2 : a - A.length with
      | zero =>
       rw[hk2]at g;simp at g;subst g;cases hsm
      |succ _=>rw[hk2]at g; simp at g
    refine⟨hs,fun a c y z g B sy sz he=>k1 a c y z (J a y g sy).1 (J c z B sz).1 sy sz he,fun a y rws e g hr he=>?_⟩;obtain⟨o1,o2⟩:=J a y g (by rw[hr]; rfl);simp only[nq]at he;rw[dr (by omega)]at he;exact k2 a y rws e o1 hr he
   obtain⟨w',p1,p2,p3,p4,p5⟩:=xQ (P:=P) HE (cl':=cl+1) O U h2 hre hsl2;have hrun:(mg t (.map (some b)) d u).run P E.w=.ok () w':=by
    simp only[mg,cg,Sem.bH (gb ht),bY,e1,gA W,g1];exact p1
   have Y:({ w:=w',H:=E.H.set id (.br l w (A++[(k,none,cl)]) (cl+1)),ad:=E.ad,X:=E.X }:ae).H[id]? = some (.br l w (A++[(k,none,cl)]) (cl+1)):=by
    simp only[];rw[bK (aX O)]
   have hjE:({ w:=w',H:=E.H.set id (.br l w (A++[(k,none,cl)]) (cl+1)),ad:=E.ad,X:=E.X }:ae).H[j]? = some (.vQ w al rZ):=by
    simp only[];rw[bc (Ne.symm hne)];exact hj
   have hobj:=p2.obj id _ Y;simp only[aV]at hobj;obtain⟨b2,n2,ms2,o1,o2,o3,o4⟩:=hobj;rw[U]at o1;simp only[a_,bk]at o1;obtain⟨rfl,rfl⟩:=o1;rw[p4]at o2;cases o2;obtain⟨loc',N,r1,r2⟩:=Gb p2 (i:=A.length) (key:=k) (bn:=cl) (e:={ key:=d,val:=u,born:=cl }) Y hjE (by simp) U p4 (by
    simp only[nq];rw[jz (by omega)];simp[hml]) o3 o4 (bG p3 _ hv)
   have e2:(A++[(k,(none:Option (List (List AV))),cl)]).set A.length (k,some rZ,cl)=A++[(k,some rZ,cl)]:=by
    rw[ajY _ _ (aY _),pt];rfl
   refine⟨w',hrun,fun xx=>⟨loc',N,by simp[ab],?_,p3.trans ?_⟩⟩
   ·simpa[ly,e2]using r1
   ·simpa[ly,e2]using r2
 ·cases h
def aG.xR{E:ae}(H:aG E){id O:Nat}{o o':ah}(A:E.H[id]? = some o)(hlab:o.label=none)(J:o'.label=some O)(M:o'.aU = o.aU)(F:∀(i:Nat) x,E.H[i]? = some x->x.label≠some O)
  (Y:E.le { w:=E.w,H:=E.H.set id o',ad:=E.ad,X:=E.X }->aV { w:=E.w,H:=E.H.set id o',ad:=E.ad,X:=E.X } id o') :
  aG { w:=E.w,H:=E.H.set id o',ad:=E.ad,X:=E.X }/\E.le { w:=E.w,H:=E.H.set id o',ad:=E.ad,X:=E.X }:=by
 have N:=aX A;have B:∀(i:Nat) x,(E.H.set id o')[i]? = some x->(i=id/\x=o')\/(i≠id/\E.H[i]? = some x):=fun i x hi=>by
  by_cases q:i=id
  ·subst q
   rw[bK N]at hi;cases hi;exact .inl ⟨rfl,rfl⟩
  ·rw [bc (Ne.symm q)] at hi
   exact .inr ⟨q,hi⟩
 have I:E.le { w:=E.w,H:=E.H.set id o',ad:=E.ad,X:=E.X }:=by
  refine⟨fun i al U=>?_,aY _,fun _ _ _=>rfl,fun b hb F=>F,fun i al U t=>?_,⟨rfl,rfl⟩,fun l h hh=>⟨hh,fun _ hq=>hq⟩,.refl _,fun i l x d g V=>⟨⟨[],(fe _).symm⟩,?_⟩⟩
  rotate_right
  ·by_cases q : i = id
   ·subst q
    rw[A]at d;cases d;rw[ah.Bb hlab]at g;cases g
   ·exact⟨x,by simp only[]; rw[bc (Ne.symm q)]; exact d,g⟩
  ·obtain ⟨x, d, g⟩ := U
   by_cases q:i=id
   ·subst q
    rw[A]at d;cases d;exact⟨o',by simp only[]; rw[bK N],ah.Ba J,fun v V=>g.2 v (by rw[<-M]; exact V)⟩
   ·exact⟨x,by simp only[]; rw[bc (Ne.symm q)]; exact d,g⟩
  ·obtain ⟨x, d, g⟩ := t
   rcases B i x d with⟨rfl,rfl⟩|⟨q,z⟩
   ·exact⟨⟨o,A,by rw[<-M]; exact g⟩,rfl⟩
   ·exact⟨⟨x,z,g⟩,rfl⟩
 refine⟨⟨by simp[H.len],H.inj,H.lt,H.X,fun i x hi=>?_,H.gL.bZ I.toC,H.fC,H.dm,H.cS,fun i k x y l hi hk d g=>?_,fun l hn h y hy=>?_⟩,I⟩
 ·rcases B i x hi with ⟨rfl, rfl⟩ | ⟨q, z⟩
  ·exact Y I
  ·exact mo (fun a _ hr=>bG I a hr) rfl (fun _ _ _=>rfl) (fun l t=>⟨rfl,fun _ _ _ _=>rfl⟩) (H.obj i x z)
 ·rcases B i x hi with ⟨rfl, rfl⟩ | ⟨q, z⟩ <;> rcases B k y hk with ⟨rfl, rfl⟩ | ⟨e4, W⟩
  ·rfl
  ·rw [J] at d
   cases d;exact(F k y W g).elim
  ·rw [J] at g
   cases g;exact(F i x z d).elim
  ·exact H.uniq i k x y l z W d g
 ·refine H.iD l (fun i x hi t => ?_) h y hy
  by_cases e:i=id
  ·subst e
   rw[A]at hi;cases hi;rw[hlab]at t;cases t
  ·exact hn i x (by show (E.H.set id o')[i]? = _; rw[bc (Ne.symm e)]; exact hi) t
def Uv{E:ae}(HE:aG E){id l w cl:Nat}(d:E.H[id]? = some (.map [] cl))(h:km E.H l=true) :
  aG { w:=E.w,H:=E.H.set id (.br l w [] cl),ad:=E.ad,X:=E.X }/\E.le { w:=E.w,H:=E.H.set id (.br l w [] cl),ad:=E.ad,X:=E.X } :=
 aG.xR HE d rfl rfl rfl (pN h) fun k=>by
  have g:=HE.obj id _ d;simp only[aV]at g|-;obtain⟨b,n,q,t,v,z⟩:=g;refine⟨b,n,q,t,v,fL (fun a _ A=>bG k a A) z,fun _=>0,fun i j x y hi=>by simp at hi,fun i x rZ e hi=>by simp at hi⟩
def Uw{E:ae}(HE:aG E){id l w cl:Nat}{g:List (AV × AV × Nat)}{es:List (AV × Option (List (List AV)) × Nat)}(h:E.H[id]? = some (.map g cl))(he:dh es=g)(k:∀ x∈es,x.2.1=none)(t:km E.H l=true) :
  aG { w:=E.w,H:=E.H.set id (.br l w es cl),ad:=E.ad,X:=E.X }/\E.le { w:=E.w,H:=E.H.set id (.br l w es cl),ad:=E.ad,X:=E.X } :=
 aG.xR HE h rfl rfl rfl (pN t) fun v=>by
  have q:=HE.obj id _ h;simp only[aV]at q|-;obtain⟨b,n,z,A,B,F⟩:=q;refine⟨b,n,z,A,B,fL (fun a _ I=>bG v a I) (by rw[he]; exact F),fun i=>i,fun i j x y hi J d=>?_,fun i x rZ e hi d=>?_⟩
  ·rw [k x (eC hi)] at d
   cases d
  ·rw [k x (eC hi)] at d
   cases d
def Ux{E:ae}(HE:aG E){id l w cl i:Nat}{d:List (AV × Option (List (List AV)) × Nat)}{key:AV}{rZ:List (List AV)}{bn b n:Nat}{V:Array MapEntry}{e':MapEntry}(hid:E.H[id]? = some (.br l w d cl))(hes:d[i]? = some (key,some rZ,bn))
  (h1:E.ad[id]? = some (some (b,n))) (h2:E.w.heap[b]? = some (.map V cl)) (h3:bO E (dh d) V.toList) (h4:kj E l w d V.toList) (q4:V.toList[i]? = some e') :
  ∃ loc' r',aG { w:=E.w,H:=E.H.set id (.br l w (d.set i (key,none,bn)) cl)++[.vQ w 0 rZ],ad:=loc',X:=E.X.re r' }/\E.le { w:=E.w,H:=E.H.set id (.br l w (d.set i (key,none,bn)) cl)++[.vQ w 0 rZ],ad:=loc',X:=E.X.re r' } /\
   ab { w:=E.w,H:=E.H.set id (.br l w (d.set i (key,none,bn)) cl)++[.vQ w 0 rZ],ad:=loc',X:=E.X.re r' } (.vQ w E.H.length 0 0 rZ.length) e'.val:=by
 have hlenH:E.H.length=E.ad.length:=HE.len.symm;obtain⟨W,k1,k2⟩:=h4;have hsl:=k2 i _ rZ e' hes rfl q4;obtain⟨k,J,z1,z2,z3⟩:∃(k:Option (Nat × Nat)) (J:Nat),(∀ b m,k=some (b,m)->(E.X.r l)[J]? = some (some (some (b,m)))) /\
   (∀ j y,d[j]? = some y->y.2.1.isSome=true->j≠i->∀ b m,(E.X.r l)[W j]? = some (some (some (b,m)))->W j≠J) /\
   ((k=none/\rZ=[]/\∃ aN,e'.val=.slice aN 0 0)\/∃ b m,k=some (b,m)/\e'.val=.slice (some ⟨b,0,none⟩) rZ.length m/\isRow E.w b (m*w)/\rZ.length<=m/\fg rZ/\da E w rZ b 0):=by
  rcases hsl with⟨s1,s2⟩|⟨t,mm,s1,s2,M,I,N,O⟩
  ·exact⟨none,(E.X.r l).length,fun _ _ e=>(by cases e),fun j y _ _ _ b m hb e=>(by rw[e]at hb; have:=aX hb; omega),.inl ⟨rfl,s1,s2⟩⟩
  ·exact⟨some (t,mm),W i,fun _ _ e=>(by cases e; exact s1),fun j y g hsy U _ _ _ e=>U (k1 j i _ _ g hes hsy rfl e),.inr ⟨t,mm,rfl,s2,M,I,N,O⟩⟩
 obtain⟨r1,r2⟩:=aG.BG HE (id:=id) (l0:=l) (h0:=J) (o':=.br l w (d.set i (key,none,bn)) cl) (ov:=.vQ w 0 rZ) (q:=k) hid rfl rfl rfl rfl z1 fun hle=>by
  refine⟨?_,?_⟩
  ·simp only [aV]
   refine⟨b,n,V,?_,h2,?_,?_⟩
   ·rw [dr (aX h1)]
    exact h1
   ·exact fL (fun a _ A=>bG hle a A) (F' hes rfl rfl h3)
   ·refine ⟨W, fun a Y y z g hz sy sz he => ?_, fun a y rws e g A he => ?_⟩
    all_goals
     have old:∀(j:Nat) y,(d.set i (key,none,bn))[j]? = some y->y.2.1.isSome=true->d[j]? = some y/\j≠i:=fun j y g hsm=>by
      rw[eU]at g;split at g
      ·split at g
       ·cases g
        cases hsm
       ·cases g
      ·rename_i U
       exact⟨g,Ne.symm U⟩
    ·exact k1 a Y y z (old a y g sy).1 (old Y z hz sz).1 sy sz he
    ·obtain ⟨o1, o2⟩ := old a y g (by rw [A]; rfl)
     rcases k2 a y rws e o1 A he with F|⟨t,mm,s1,s2,M,I,N,O⟩
     ·exact .inl F
     ·refine .inr ⟨t, mm, ?_, s2, M, I, N, ga (fun a _ A => bG hle a A) rfl O⟩
      have U:=z2 a y o1 (by rw[A]; rfl) o2 t mm s1;show (gN E.X.r l J l)[W a]? = _
      rw[BF fun e=>U e.2];exact s1
  ·simp only [aV]
   have F:(E.ad++[k])[E.H.length]? = some k:=by rw[hlenH]; simp
   rcases z3 with⟨rfl,s1,_⟩|⟨t,mm,rfl,_,M,I,N,O⟩
   ·exact .inl ⟨F,s1⟩
   ·exact .inr ⟨t,mm,F,M,I,N,ga (fun a _ A=>bG hle a A) rfl O⟩
 refine⟨E.ad++[k],gN E.X.r l J,r1,r2,?_⟩;have hnew:(E.H.set id (.br l w (d.set i (key,none,bn)) cl)++[.vQ w 0 rZ])[E.H.length]? = some (.vQ w 0 rZ):=by
  rw[jz (by simp)];simp
 have F:(E.ad++[k])[E.H.length]? = some k:=by rw[hlenH]; simp
 simp only[ab];rcases z3 with⟨rfl,s1,aN,s2⟩|⟨t,mm,rfl,s2,M,I,N,O⟩
 ·subst s1
  refine⟨⟨aN,0,by rw[s2]; rfl,aY _,fun h=>by simp at h⟩,⟨_,hnew,rfl,fun v hv=>by cases hv; exact aY _⟩,fun _=>⟨fun _=>⟨by first|rfl|trivial,by first|rfl|trivial,aN,s2⟩,fun Y m' B=>?_⟩⟩;rw[F]at B;cases B
 ·refine ⟨⟨_, mm, s2, I, fun _ => ⟨t, 0, rfl⟩⟩, ⟨_, hnew, rfl, fun v hv => by cases hv; exact aY _⟩, fun _ => ⟨fun B => ?_, fun Y m' B => ?_⟩⟩
  ·rw [F] at B
   cases B
  ·rw [F] at B
   cases B;exact⟨by omega,0,fun _=>by simp,by rw[s2,ff]⟩
def Gc{E:ae}(HE:aG E)(w:Nat) :
  aG { w:=E.w,H:=E.H++[.vQ w 0 []],ad:=E.ad++[none],X:=E.X }/\E.le { w:=E.w,H:=E.H++[.vQ w 0 []],ad:=E.ad++[none],X:=E.X } /\
   ab { w:=E.w,H:=E.H++[.vQ w 0 []],ad:=E.ad++[none],X:=E.X } (.vQ w E.H.length 0 0 0) (.slice none 0 0):=by
 have k:E.le (E.push E.w (.vQ w 0 []) none):=ae.lF HE.len (Ext.refl _) (fun b n h=>by cases h);have a:(E.ad++[(none:Option (Nat × Nat))])[E.H.length]? = some none:=by rw[<-HE.len]; simp
 have g:aV (E.push E.w (.vQ w 0 []) none) E.H.length (.vQ w 0 []):=by
  simp only[aV,ae.push];exact .inl ⟨a,trivial⟩
 refine⟨aG.push HE (Ext.refl _) (fun b n h=>by cases h) g,k,?_⟩;simp only[ab];refine⟨⟨none,0,rfl,aY _,fun h=>by simp at h⟩,⟨.vQ w 0 [],by simp,rfl,fun v q=>by cases q; exact aY _⟩,fun _=>⟨fun _=>⟨by first|rfl|trivial,by first|rfl|trivial,none,rfl⟩,fun t m' d=>?_⟩⟩;rw[a]at d;cases d
def jT(P:ai)(t:aD)(m k:AV)(H:List ah):Option (AV × List ah) :=
 match dJ P t,m with
 | some (b,d),.map id=>match H[id]? with
  | some (.br l w a cl)=>match iG P b k,BI P d,iU P d with
   | some g,some w',some (.lit (.slice none 0 0))=>match aH w' w&&k.closed with
    | true=>match eY P b g (dh a) 0 with
     | some (some (i,_))=>match qW a i with
      |some (_,rZ,n)=>some (.tuple [.vQ w H.length 0 0 rZ.length,.lit (goInt n)],H.set id (.br l w (a.set i (k,none,n)) cl)++[.vQ w 0 rZ])
      |none=>none
     |some none=>some (.tuple [.vQ w H.length 0 0 0,.lit (goInt cl)],H.set id (.br l w (a++[(k,none,cl)]) (cl+1))++[.vQ w 0 []])
     |none=>none
    |false=>none
   |_,_,_=>none
  |_=>none
 |_,_=>none
def Uy{P:ai}{E:ae}(HE:aG E){t:aD}{m k v:AV}{c d:ak}{H':List ah}(h:jT P t m k E.H=some (v,H'))(hm:ab E m c)(hk:ab E k d) :
  ∃ u w',(E6 t c d).run P E.w=.ok u w'/\di E v H' u w':=by
 unfold jT at h;split at h
 case h_2=>cases h
 rename_i kt et id ht;split at h
 case h_2=>cases h
 rename_i l w B cl hid;split at h
 case h_2=>cases h
 rename_i kv w' hkv hw' A;split at h
 case h_2=>cases h
 rename_i hww;simp only[aE]at hww;have hcl:=hww.2;clear hw' hww;obtain⟨b,n,J,rfl,h1,h2,h3,h4⟩:=BH HE hid hm;have N:=iT hkv hk;have F:=F_ hkv;have e1:(getObj b).run P E.w=.ok (.map J cl) E.w:=by simp[getObj,hO,h2]
 obtain⟨hlen,hall⟩:=fb.1 h3;rw[Fv]at hlen;have hidE:∀(w':a6) es' cl',({ w:=w',H:=E.H.set id (.br l w es' cl'),ad:=E.ad,X:=E.X }:ae).H[id]? = some (.br l w es' cl'):=fun w' es' cl'=>by
  simp only[];rw[bK (aX hid)]
 split at h
 ·rename_i i v0 hf
  split at h
  case h_2=>cases h
  rename_i key rZ M hat;cases h;have hes:B[i]? = some (key,some rZ,M):=by
   unfold qW at hat;split at hat
   ·rename_i a1 a2 a3 he
    cases hat;exact he
   ·cases hat
  have hlt:=aX hes;obtain⟨U,g1,V⟩:=h_ N E.w h3 hf;cases U with
  |none=>simp[dA]at V
  | some q =>
   simp only[dA]at V;obtain⟨q1,q2,_,W,Y,q5⟩:=V;obtain⟨_,x,y,f1,f2,f3⟩:=vj hf;simp only[ff]at Y f1;obtain⟨a1,a2,a3,a4,a5⟩:=hall i x W f1 Y;obtain⟨s1,s2⟩:=xL N (iT f2 a1) f3;have q4':J[i]? = some W:=by simpa using Y
   have hx:x=((gJ key).1,(gJ key).2,M):=by rw[xP hes]at f1; cases f1; rfl
   have hre:bO E (dh (B.set i (k,some rZ,M))) (J.modify i fun e=>{ e with key:=d }).toList:=by
    rw[fb];refine⟨by simp[dh,hlen],fun a y z g A=>?_⟩;simp only[ka,hY]at A;obtain⟨z0,O,rfl⟩:=eG.1 A;unfold dh at g;rw[cX,eU]at g;by_cases e:i=a
    ·subst e
     rw[iP rfl,iP hlt]at g;cases g;rw[Y]at O;cases O;simp only[if_true];refine⟨by simpa[F]using hk,by simp[F,ab],?_,by simpa[F]using hcl,by simp[F,AV.closed]⟩;rw[a3,hx]
    ·rw [iN e] at g
     obtain⟨b1,b2,b3,b4,b5⟩:=hall a y z0 (by unfold dh; rw[cX]; exact g) O;simp only[iN e];exact⟨b1,b2,b3,b4,b5⟩
   have hsl2:kj E l w (B.set i (k,some rZ,M)) (J.modify i fun e=>{ e with key:=d }).toList:=by
    obtain⟨hs,k1,k2⟩:=h4;have I:∀(a:Nat) y,(B.set i (k,some rZ,M))[a]? = some y->∃ z,B[a]? = some z/\z.2.1=y.2.1:=fun a y g=>by
     by_cases ei:i=a
     ·subst ei
      rw[bK hlt]at g;cases g;exact⟨_,hes,rfl⟩
     ·rw [bc ei] at g
      exact⟨y,g,rfl⟩
    refine⟨hs,fun a c y z g A sy sz he=>?_,fun a y rws e g hr he=>?_⟩
    ·obtain ⟨y', hy', ey⟩ := I a y g
     obtain⟨z',hz',ez⟩:=I c z A;exact k1 a c y' z' hy' hz' (by rw[ey]; exact sy) (by rw[ez]; exact sz) he
    ·obtain ⟨y', hy', ey⟩ := I a y g
     simp only[ka,hY]at he;obtain⟨z0,O,rfl⟩:=eG.1 he;have:=k2 a y' rws z0 hy' (by rw[ey]; exact hr) O;split<;>exact this
   obtain⟨w1,p1,p2,p3,p4,p5⟩:=xQ (P:=P) HE (cl':=cl) hid h1 h2 hre hsl2;have hobj:=p2.obj id _ (hidE w1 _ _);simp only[aV]at hobj;obtain⟨b2,n2,ms2,o1,o2,o3,o4⟩:=hobj;rw[h1]at o1;simp only[a_,bk]at o1;obtain⟨rfl,rfl⟩:=o1;rw[p4]at o2;cases o2;obtain⟨loc',U,r1,r2,r3⟩:=Ux p2 (i:=i) (key:=k) (rZ:=rZ) (bn:=M) (e':={ W with key:=d }) (hidE w1 _ _) (by rw[bK hlt]) h1 p4 o3 o4 (by
    simp only[ka,hY,Y];simp)
   simp only[ly,jd]at r1 r2 r3;refine⟨.tuple #[W.val,goInt M],w1,?_,loc',U,?_,r1,p3.trans r2⟩
   ·have hst : (qI W.key d).run P E.w = .ok d E.w := by simp [qI, s2]
    subst q1;simp only[E6,cg,Sem.bH (gb ht),bY,e1,gA N,g1,q4',fk,uE,hst];rw[p1];simp only[bY,e_];rw[a3,hx,<-q5]
   ·simp only [ab]
    refine⟨_,rfl,?_⟩;simp only[ar,and_true];exact⟨r3,by simp[ab]⟩
 ·rename_i hf
  cases h;obtain⟨U,g1,V⟩:=h_ N E.w h3 hf;cases U with
  |some _=>simp[dA]at V
  | none =>
   obtain⟨zv,z1,z2⟩:=sP A E.w;have hzv:zv=.slice none 0 0:=by have:=z2 E; simpa[ab]using this
   have hml:J.toList.length=B.length:=by omega
   have hre:bO E (dh (B++[(k,none,cl)])) (J.push { key:=d,val:=zv,born:=cl }).toList:=by
    rw[fb];refine⟨by simp[dh,hlen],fun a y z g A=>?_⟩;unfold dh at g;rw[qJ]at g;simp only[nq,fy,fJ]at g A;rw[hml]at A;by_cases e:a<B.length
    ·simp only [iP e] at g A
     exact hall a y z (by unfold dh; exact g) A
    ·simp only [iN e] at g A
     cases hj2:a-B.length with
     | zero =>
      rw[hj2]at g A;simp at g A;subst g; subst A;exact⟨by simpa[F]using hk,by simp[F,ab],rfl,by simpa[F]using hcl,by simp[F,AV.closed]⟩
     |succ _=>rw[hj2]at g; simp at g
   have hsl2:kj E l w (B++[(k,none,cl)]) (J.push { key:=d,val:=zv,born:=cl }).toList:=by
    obtain⟨hs,k1,k2⟩:=h4;have I:∀(a:Nat) y,(B++[(k,(none:Option (List (List AV))),cl)])[a]? = some y->y.2.1.isSome=true->B[a]? = some y/\a<B.length:=fun a y g hsm=>by
     rw[fy]at g;split at g
     ·rename_i hh
      exact⟨g,hh⟩
     ·cases hk2 : a - B.length with
      | zero =>
       rw[hk2]at g;simp at g;subst g;cases hsm
      |succ _=>rw[hk2]at g; simp at g
    refine⟨hs,fun a c y z g A sy sz he=>k1 a c y z (I a y g sy).1 (I c z A sz).1 sy sz he,fun a y rws e g hr he=>?_⟩;obtain⟨o1,o2⟩:=I a y g (by rw[hr]; rfl);simp only[nq]at he;rw[dr (by omega)]at he;exact k2 a y rws e o1 hr he
   obtain⟨w1,p1,p2,p3,p4,p5⟩:=xQ (P:=P) HE (cl':=cl+1) hid h1 h2 hre hsl2;obtain⟨r1,r2,r3⟩:=Gc p2 w;simp only[jd]at r3;refine⟨.tuple #[zv,goInt cl],w1,?_,E.ad++[none],E.X.r,?_,r1,p3.trans r2⟩
   ·simp only [E6, cg, Sem.bH (gb ht), bY, e1, gA N, g1, z1]
    rw[p1];rfl
   ·simp only [ab]
    refine⟨_,rfl,?_⟩;simp only[ar,and_true];rw[hzv];exact⟨r3,by simp[ab]⟩
 ·cases h
def sT (a:List (AV × Option (List (List AV)) × Nat)) (st:Int):Option Nat:=a.findIdx? fun x=>(x.2.2:Int)==st
def plainKey:AV->Bool
 |.tuple _=>false
 |_=>true
def Uz{k:AV}(h:plainKey k=true):gJ k=(k,.undef):=by
 cases k<;>first|rfl|cases h
def mu(m s v:AV)(H:List ah):Option (List ah) :=
 match m,s,v with
 | .map id,.lit (.int .i64 st),.vQ w j al oF n=>match H[id]?,H[j]? with
  | some (.br l w' a cl),some (.vQ d b rZ)=>if (w=w'/\w=d)/\(al=b/\oF=0)/\n=rZ.length then
    match sT a st with
    | some i=>match a[i]? with
     | some (key,_,g)=>match plainKey (gJ key).1 with
      |true=>some ((H.set id (.br l w' (a.set i ((gJ key).1,some rZ,g)) cl)).set j .dead)
      |false=>none
     |none=>none
    |none=>none
   else none
  |_,_=>none
 |_,_,_=>none
def Lc{E:ae}{st:Int}:∀{a:List (AV × Option (List (List AV)) × Nat)} {b:List MapEntry},bO E (dh a) b->b.findIdx? (fun e=>(e.born:Int)==st)=sT a st
 | [],[],_=>rfl
 | [],_::_,h=>by simp[dh,bO]at h
 |_::_,[],h=>by simp[dh,bO]at h
 | x::a,e::b,h=>by
  have h':bO E (((gJ x.1).1,(gJ x.1).2,x.2.2)::dh a) (e::b):=h;simp only[bO]at h';obtain⟨_,_,g,_,_,k⟩:=h';have d:=Lc (st:=st) k;unfold sT at d|-;simp only[J2,g,d]
def UA{P:ai}{E:ae}(HE:aG E){t:aD}{m s v:AV}{c d u:ak}{H':List ah}(h:mu m s v E.H=some H')(hm:ab E m c)(V:ab E s d)(hv:ab E v u) :
  ∃ w',(A1 t c d u).run P E.w=.ok () w'/\∀ x,di E .undef H' x w':=by
 unfold mu at h;split at h
 case h_2=>cases h
 rename_i id st w j al oF n;split at h
 case h_2=>cases h
 rename_i l w' q cl w2 ver' rZ F W;split at h
 case isFalse=>cases h
 rename_i hc;obtain⟨⟨rfl,rfl⟩,⟨rfl,rfl⟩,rfl⟩:=hc;split at h
 case h_2=>cases h
 rename_i i hi;split at h
 case h_2=>cases h
 rename_i key0 I A hes;split at h
 case h_2=>cases h
 rename_i hpl;cases h;have B:=Uz hpl;obtain⟨key,O⟩:∃ key,key=(gJ key0).1:=⟨_,rfl⟩
 rw[<-O]at B|-;obtain⟨b,n,k,rfl,Y,h2,h3,h4⟩:=BH HE F hm;have hne:j≠id:=fun e=>by rw[e,F]at W; cases W
 have e1:(getObj b).run P E.w=.ok (.map k cl) E.w:=by simp[getObj,hO,h2]
 obtain⟨hlen,hall⟩:=fb.1 h3;rw[Fv]at hlen;have U:=aX hes;obtain⟨e',q4⟩:∃ e',k.toList[i]? = some e':=⟨k.toList[i]'(by omega),cn _⟩
 have hfind:k.findIdx? (fun e=>(e.born:Int)==st)=some i:=by
  have e0:k=k.toList.toArray:=by simp
  rw[e0,ajZ,Lc h3,hi]
 have hre:bO E (dh (q.set i (key,none,A))) (k.modify i fun e=>{ e with val:=u }).toList:=by
  rw[fb];refine⟨by simp[dh,hlen],fun a y z g M=>?_⟩;simp only[ka,hY]at M;obtain⟨N,J,rfl⟩:=eG.1 M;unfold dh at g;rw[cX,eU]at g;by_cases e:i=a
  ·subst e
   rw[iP rfl,iP U]at g;cases g;obtain⟨b1,b2,b3,b4,b5⟩:=hall i _ N (xP hes) J;simp only[if_true];exact⟨by simpa only[B,<-O]using b1,by simp[B,ab],b3,by simpa only[B,<-O]using b4,by simp[B,AV.closed]⟩
  ·rw [iN e] at g
   obtain⟨b1,b2,b3,b4,b5⟩:=hall a y N (by unfold dh; rw[cX]; exact g) J;simp only[iN e];exact⟨b1,b2,b3,b4,b5⟩
 have hsl2:kj E l w (q.set i (key,none,A)) (k.modify i fun e=>{ e with val:=u }).toList:=by
  obtain⟨V,k1,k2⟩:=h4;have I:∀(a:Nat) y,(q.set i (key,none,A))[a]? = some y->y.2.1.isSome=true->q[a]? = some y/\a≠i:=fun a y g hsm=>by
   by_cases ei:i=a
   ·subst ei
    rw[bK U]at g;cases g;cases hsm
   ·rw [bc ei] at g
    exact⟨g,Ne.symm ei⟩
  refine⟨V,fun a c y z g M sy sz he=>k1 a c y z (I a y g sy).1 (I c z M sz).1 sy sz he,fun a y rws e g hr he=>?_⟩;obtain⟨o1,o2⟩:=I a y g (by rw[hr]; rfl);simp only[ka,hY]at he;obtain⟨N,J,rfl⟩:=eG.1 he;rw[iN (Ne.symm o2)];exact k2 a y rws N o1 hr J
 obtain⟨w',p1,p2,p3,p4,p5⟩:=xQ (P:=P) HE (cl':=cl) F Y h2 hre hsl2;have hd:d=.int .i64 st:=by simpa[ab]using V
 have hrun:(A1 t (.map (some b)) d u).run P E.w=.ok () w':=by
  subst hd;simp only[A1,asInt,asIntOf,cg,bY,e1,e_,hfind];exact p1
 have hidE:({ w:=w',H:=E.H.set id (.br l w (q.set i (key,none,A)) cl),ad:=E.ad,X:=E.X }:ae).H[id]? = some (.br l w (q.set i (key,none,A)) cl):=by
  simp only[];rw[bK (aX F)]
 have hjE:({ w:=w',H:=E.H.set id (.br l w (q.set i (key,none,A)) cl),ad:=E.ad,X:=E.X }:ae).H[j]? = some (.vQ w al rZ):=by
  simp only[];rw[bc (Ne.symm hne)];exact W
 have hobj:=p2.obj id _ hidE;simp only[aV]at hobj;obtain⟨b2,n2,ms2,o1,o2,o3,o4⟩:=hobj;rw[Y]at o1;simp only[a_,bk]at o1;obtain⟨rfl,rfl⟩:=o1;rw[p4]at o2;cases o2;obtain⟨loc',r',r1,r2⟩:=Gb p2 (i:=i) (key:=key) (bn:=A) (e:={ e' with val:=u }) hidE hjE (by rw[bK U]) Y p4 (by
  simp only[ka,hY,q4];simp) o3 o4 (bG p3 _ hv)
 refine⟨w',hrun,fun xx=>⟨loc',r',by simp[ab],?_,p3.trans ?_⟩⟩
 ·simpa[ly]using r1
 ·simpa[ly]using r2
end Go.AL

namespace Go.AL
open Go
variable [Dr]
def Ld{r:List (Option (Option (Nat × Nat)))}(h:∀(i:Nat) q,r[i]? ≠ some (some q)):dI r=[]:=by
 unfold dI;rw[List.filterMap_eq_nil_iff];intro x a;obtain⟨i,hi,e⟩:=uz a;cases x with
 |none=>rfl
 |some q=>exact absurd (by rw[cn hi,e]) (h i q)
def Le{E:ae}(HE:aG E){id l cl:Nat}(d:E.H[id]? = some (.map [] cl))(g:km E.H l=true) :
  aG { w:=E.w,H:=E.H.set id (.mm l [] [] cl),ad:=E.ad,X:=E.X }/\E.le { w:=E.w,H:=E.H.set id (.mm l [] [] cl),ad:=E.ad,X:=E.X } :=
 aG.xR HE d rfl rfl rfl (pN g) fun k=>by
  have h:=HE.obj id _ d;simp only[aV]at h|-;obtain⟨b,n,q,t,v,y⟩:=h;have z:=Ld (HE.iD l (pN g));refine⟨b,n,q,t,v,fL (fun a _ A=>bG k a A) y,?_,fun i x e B=>by simp at B,fun j m b hm=>by simp at hm⟩;show (dI (E.X.r l)).length=0
  rw[z];rfl
def Gd{E:ae}(HE:aG E){id l cl:Nat}{d:List (AV × Option Nat × Nat)}{k:List (List (AV × AV × Nat) × Nat)}{c:ak}(h:E.H[id]? = some (.mm l d k cl))(q:ab E (.map id) c) :
  ∃ b n a,c=.map (some b)/\E.ad[id]? = some (some (b,n))/\E.w.heap[b]? = some (.map a cl)/\bO E (gK d) a.toList/\Be E l d k a.toList:=by
 have t:=HE.obj id _ h;simp only[aV]at t;obtain⟨b,n,a,v,y,z,A⟩:=t;simp only[ab]at q;obtain⟨_,_,B⟩:=q;obtain⟨I,J,g,F⟩:=B ⟨_,h,rfl⟩;rw[v]at g;simp only[a_,bk]at g;obtain⟨rfl,rfl⟩:=g;exact⟨b,n,a,F,v,y,z,A⟩
def Lf{E:ae}(HE:aG E){id l cl i:Nat}{v:List (AV × Option Nat × Nat)}{g:List (List (AV × AV × Nat) × Nat)}{m:List (AV × AV × Nat) × Nat}{c:ak}(d:E.H[id]? = some (.mm l v g cl))(hm:g[i]? = some m) (k:ab E (.sub id l (some i)) c) :
  ∃ b a,c=.map (some b)/\(dI (E.X.r l))[i]? = some b/\E.w.heap[b]? = some (.map a m.2)/\bO E m.1 a.toList:=by
 have q:=HE.obj id _ d;simp only[aV]at q;obtain⟨_,_,a,_,_,_,_,_,y⟩:=q;simp only[ab]at k;rcases k with⟨h,_⟩|⟨J,z,_,_,A⟩
 ·cases h
 cases z;obtain⟨_,b,t,B⟩:=A ⟨_,d,rfl⟩;obtain⟨mm,F,I⟩:=y i m b hm t;exact⟨b,mm,B,t,F,I⟩
def sU(P:ai)(t:aD)(m k:AV)(H:List ah):Option AV :=
 match dJ P t,m with
 | some (a,d),.map id=>match H[id]? with
  | some (.mm l b _ _)=>match iG P a k,iU P d with
   | some g,some (.lit (.map none))=>match eY P a g (gK b) 0 with
    |some (some (i,_))=>(b[i]?).map fun x=>.sub id l x.2.1
    |some none=>some (.sub id l none)
    |none=>none
   |_,_=>none
  |_=>none
 |_,_=>none
def UB{P:ai}{E:ae}(HE:aG E){t:aD}{m k v:AV}{c d:ak}(h:sU P t m k E.H=some v)(hm:ab E m c)(hk:ab E k d) :
  ∃ u,(kL t c d false).run P E.w=.ok u E.w/\ab E v u:=by
 unfold sU at h;split at h
 case h_2=>cases h
 rename_i kt et id J;split at h
 case h_2=>cases h
 rename_i l es ms cl y;split at h
 case h_2=>cases h
 rename_i kv V hz;obtain⟨b,n,W,rfl,h1,h2,M,_,X,_⟩:=Gd HE y hm;have g:=iT V hk;obtain⟨zv,z1,z2⟩:=sP hz E.w;have Y:zv=.map none:=by simpa[ab]using z2 E
 subst Y;have N:(getObj b).run P E.w=.ok (.map W cl) E.w:=by simp[getObj,hO,h2]
 split at h
 ·rename_i i v0 z
  obtain⟨A,B,a⟩:=h_ g E.w M z;cases A with
  |none=>simp[dA]at a
  | some q =>
   simp only[dA]at a;obtain⟨q1,_,_,e,q4,q5⟩:=a;obtain⟨x,hx,rfl⟩:=eG.1 h;refine⟨q.2,?_,?_⟩
   ·simp only [kL, cg, Sem.bH (gb J), bY, N, e_, gA g, B]
    rfl
   ·rw [<- q5]
    simp only[ab];rcases X i x e hx (by simpa using q4)with⟨F,I⟩|⟨j,O,F,I,U⟩
    ·exact .inl ⟨F,I⟩
    ·exact .inr ⟨j,F,⟨O,U⟩,⟨_,y,rfl,fun v _=>fO v⟩,fun _=>⟨⟨_,y,rfl⟩,O,I,U⟩⟩
 ·rename_i z
  obtain⟨A,B,a⟩:=h_ g E.w M z;cases h;cases A with
  |some _=>simp[dA]at a
  | none =>
   refine⟨.map none,?_,by simp[ab]⟩;simp only[kL,cg,Sem.bH (gb J),bY,N,e_,gA g,B,z1];rfl
 ·cases h
def vk(P:ai)(t:aD)(m k:AV)(ok:Bool)(H:List ah):Option AV :=
 match dJ P t,m with
 | some (a,b),.sub id l (some i)=>match H[id]? with
  | some (.mm l' _ d _)=>match aH l l',d[i]?,iG P a k,pP P b with
   | true,some mm,some g,some z=>match eY P a g mm.1 0 with
    | some r=>let v:=match r with
      |some (_,v)=>v
      |none=>z
     some (match ok with
      |true=>.tuple [v,.lit (.bool r.isSome)]
      |false=>v)
    |none=>none
   |_,_,_,_=>none
  |_=>none
 |_,_=>none
def UC{P:ai}{E:ae}(HE:aG E){t:aD}{m k v:AV}{ok:Bool}{c d:ak}(h:vk P t m k ok E.H=some v)(hm:ab E m c)(X:ab E k d) :
  ∃ u,(kL t c d ok).run P E.w=.ok u E.w/\ab E v u:=by
 unfold vk at h;split at h
 case h_2=>cases h
 rename_i kt et id l i A;split at h
 case h_2=>cases h
 rename_i l' es ms cl O;split at h
 case h_2=>cases h
 rename_i mm kv z y U V Y;have y:=bA y;subst y;split at h
 case h_2=>cases h
 rename_i r hr;obtain⟨b,W,rfl,_,h2,h3⟩:=Lf HE O U hm;have g:=iT V X;obtain⟨B,F,a⟩:=h_ g E.w h3 hr;obtain⟨I,z1,J⟩:=KZ Y E.w;have M:(getObj b).run P E.w=.ok (.map W mm.2) E.w:=by simp[getObj,hO,h2]
 cases h;cases r with
 | none =>
  cases B with
  |some _=>simp[dA]at a
  | none =>
   refine⟨if ok then .tuple #[I,.bool false] else I,?_,?_⟩
   ·simp only[kL,cg,Sem.bH (gb A),bY,M,e_,gA g,F,z1]
   ·cases ok with
    |true=>simp[ab,ar,J E]
    |false=>simpa using J E
 | some p =>
  cases B with
  |none=>simp[dA]at a
  | some q =>
   simp only[dA]at a;obtain⟨q1,N,_,_,_,_⟩:=a;refine⟨if ok then .tuple #[q.2,.bool true] else q.2,?_,?_⟩
   ·simp only[kL,cg,Sem.bH (gb A),bY,M,e_,gA g,F]
   ·cases ok with
    |true=>simp[ab,ar,N]
    |false=>simpa using N
def Lg:∀{r:List (Option (Option (Nat × Nat)))},(∀(h h' b m n:Nat),r[h]? = some (some (some (b,m)))->r[h']? = some (some (some (b,n)))->h=h')->(dI r).Nodup
 | [],_=>List.nodup_nil
 | x::r,H=>by
  have a:=Lg (r:=r) fun h h' b m n d g=>by
   have:=H (h+1) (h'+1) b m n (by simpa using d) (by simpa using g);omega
  match x,H with
  |none,_=>exact a
  |some none,_=>exact a
  | some (some (b,m)),H =>
   show (b::dI r).Nodup
   refine List.nodup_cons.2 ⟨fun hm=>?_,a⟩;obtain⟨i,n,hi⟩:=qO hm;have:=H 0 (i+1) b m n rfl (by simpa using hi);omega
def Lh{E:ae}(HE:aG E){l i j b:Nat} (a:(dI (E.X.r l))[i]? = some b) (d:(dI (E.X.r l))[j]? = some b):i=j :=
 (List.getElem?_inj (aX a) (Lg fun h h' b m n g k=>(HE.fC l h l h' b m n g k).2)).1 (by rw[a,d])
def lL(P:ai)(t:aD)(m k:AV)(ok:Bool)(H:List ah):Option AV :=
 match m with
 |.sub id l j=>vk P t (.sub id l j) k ok H
 | .map id=>match ok with
  |false=>sU P t (.map id) k H
  |true=>none
 |_=>none
def UD{P:ai}{E:ae}(HE:aG E){t:aD}{m k v:AV}{ok:Bool}{c d:ak}(h:lL P t m k ok E.H=some v)(hm:ab E m c)(a:ab E k d) :
  ∃ u,(kL t c d ok).run P E.w=.ok u E.w/\ab E v u:=by
 unfold lL at h;split at h
 ·exact UC HE h hm a
 ·split at h
  ·exact UB HE h hm a
  ·cases h
 ·cases h
def Li{P:ai}{t:aD}{m k v:AV}{ok:Bool}{H H2:List ah}(q:∀(i l:Nat) b d (cl:Nat),H[i]? = some (ah.mm l b d cl)->H2[i]? = some (ah.mm l b d cl))(h:lL P t m k ok H=some v):lL P t m k ok H2=some v/\gM P t m k ok H2=none:=by
 unfold lL at h|-;unfold gM;split at h
 ·rename_i id l j
  refine⟨?_,by split<;>first|rfl|(rename_i e; cases e)⟩;unfold vk at h|-;split at h
  case h_2=>cases h
  rename_i w y i z;split at h
  case h_2=>cases h
  rename_i l' b d cl a;simp only[q _ _ _ _ _ a];exact h
 ·rename_i id
  split at h
  case h_2=>cases h
  cases g:dJ P t with
  | none =>
   simp only[sU,g]at h;cases h
  | some p =>
   simp only[sU,g]at h|-;split at h
   case h_2=>cases h
   rename_i a;simp only[q _ _ _ _ _ a];exact⟨h,trivial⟩
 ·cases h
def UE{P:ai}{t:aD}{m k:AV}{ok:Bool}{H a:List ah}(b:∀ id,m=.map id->a[id]? = H[id]?)(d:∀ id l j,m=.sub id l j->a[id]? = H[id]?):lL P t m k ok a=lL P t m k ok H:=by
 unfold lL;cases m<;>try rfl
 ·rename_i id
  cases ok with
  |true=>rfl
  | false =>
   unfold sU;cases dJ P t with
   |none=>rfl
   |some p=>simp only[b id rfl]
 ·rename_i id l j
  unfold vk;cases dJ P t with
  |none=>rfl
  | some p =>
   cases j with
   |none=>rfl
   |some j=>simp only[d id l (some j) rfl]
def Lj{P:ai}{E:ae}(HE:aG E){id l cl i b:Nat}{q:List (AV × Option Nat × Nat)}{k:List (List (AV × AV × Nat) × Nat)}{m m':List (AV × AV × Nat) × Nat}{W mes':Array MapEntry}(N:E.H[id]? = some (.mm l q k cl))(hm:k[i]? = some m)
  (B:(dI (E.X.r l))[i]? = some b) (h2:E.w.heap[b]? = some (.map W m.2)) (d:bO E m'.1 mes'.toList) :
  ∃ w',(setObj b (.map mes' m'.2)).run P E.w=.ok () w'/\aG { w:=w',H:=E.H.set id (.mm l q (k.set i m') cl),ad:=E.ad,X:=E.X }/\E.le { w:=w',H:=E.H.set id (.mm l q (k.set i m') cl),ad:=E.ad,X:=E.X }:=by
 obtain⟨h,F,I⟩:=qO (eC B);have Y:=(HE.cS l h b F I).1;have hsz:({ E.w with heap:=E.w.heap.setIfInBounds b (.map mes' m'.2) }:a6).heap.size=E.w.heap.size:=by simp
 have z:∀ y,y≠b->({ E.w with heap:=E.w.heap.setIfInBounds b (.map mes' m'.2) }:a6).heap[y]? = E.w.heap[y]? := by
  intro y hy;simp only[AZ];rw[iN (fun e=>hy e.symm)]
 have key:=aG.qQ (w':={ E.w with heap:=E.w.heap.setIfInBounds b (.map mes' m'.2) }) (r':=E.X.r) (o':=.mm l q (k.set i m') cl) HE N rfl rfl rfl (A2 hsz.symm) (fun x _ _ hx=>z x fun e=>by
   subst e;exact hx h F I) (fun _ _=>rfl) (fun _ _ _ J=>.inl J) (fun _ J=>⟨J,fun _ hq=>hq⟩) (fun A=>?_) ⟨rfl,rfl,rfl,fun _=>aY _⟩ (.inr ⟨rfl,[],(fe _).symm⟩)
 ·exact⟨_,by simp[setObj,hO,h2],key.1,key.2⟩
 ·have O := HE.obj id _ N
  simp only[aV]at O|-;obtain⟨t,n,V,U,g2,g3,g4,g5,g6⟩:=O;have hne:t≠b:=fun e=>HE.dm id t n l h F U (by rw[e]; exact I);refine⟨t,n,V,U,?_,fL (fun a _ d=>bG A a d) g3,?_,g5,fun j mj M v g=>?_⟩
  ·rw [<- g2]
   exact z t hne
  ·show (dI (E.X.r l)).length = _
   rw[jd];exact g4
  ·have g : (dI (E.X.r l))[j]? = some M := g
   by_cases e:i=j
   ·subst e
    rw[bK (aX hm)]at v;cases v;rw[B]at g;cases g;exact⟨mes',by simp[Y],fL (fun a _ d=>bG A a d) d⟩
   ·rw [bc e] at v
    obtain⟨mm,k1,k2⟩:=g6 j mj M v g;refine⟨mm,?_,fL (fun a _ d=>bG A a d) k2⟩;rw[<-k1];exact z M fun e2=>e (Lh HE B (by rw[<-e2]; exact g))
def sW(P:ai)(t:aD)(m k v:AV)(H:List ah):Option (List ah) :=
 match dJ P t,m with
 | some (h,_),.sub id l (some b)=>match H[id]? with
  | some (.mm l' d a g)=>match aH l l',a[b]?,iG P h k with
   | true,some mm,some q=>if v.closed=true/\k.closed=true then
     match eY P h q mm.1 0 with
     |some (some (i,_))=>some (H.set id (.mm l d (a.set b (mm.1.modify i fun e=>(k,v,e.2.2),mm.2)) g))
     |some none=>some (H.set id (.mm l d (a.set b (mm.1++[(k,v,mm.2)],mm.2+1)) g))
     |none=>none
    else none
   |_,_,_=>none
  |_=>none
 |_,_=>none
def UF{P:ai}{E:ae}(HE:aG E){t:aD}{m k v:AV}{c d u:ak}{H':List ah}(h:sW P t m k v E.H=some H')(hm:ab E m c)(W:ab E k d)(hv:ab E v u) :
  ∃ w',(mg t c d u).run P E.w=.ok () w'/\aG { w:=w',H:=H',ad:=E.ad,X:=E.X }/\E.le { w:=w',H:=H',ad:=E.ad,X:=E.X }:=by
 unfold sW at h;split at h
 case h_2=>cases h
 rename_i kt et id l i0 ht;split at h
 case h_2=>cases h
 rename_i l' oes oms ocl O;split at h
 case h_2=>cases h
 rename_i mm kv U V hkv;have U:=bA U;subst U;obtain⟨es,cl⟩:=mm;split at h
 case isFalse=>cases h
 rename_i I;obtain⟨b,A,rfl,h1,Y,h3⟩:=Lf HE O V hm;have B:=iT hkv W;have e1:(getObj b).run P E.w=.ok (.map A cl) E.w:=by simp[getObj,hO,Y]
 obtain⟨M,N⟩:=fb.1 h3;split at h
 ·rename_i i v0 J
  cases h;obtain⟨r',g1,F⟩:=h_ B E.w h3 J;cases r' with
  |none=>simp[dA]at F
  | some q =>
   simp only[dA]at F;obtain⟨q1,q2,_,e',q4,q5⟩:=F;obtain⟨_,x,l,f1,f2,f3⟩:=vj J;simp only[ff]at q4 f1;obtain⟨a1,a2,a3,a4,a5⟩:=N i x e' f1 q4;obtain⟨s1,s2⟩:=xL B (iT f2 a1) f3;have q4':A[i]? = some e':=by simpa using q4
   obtain⟨w',r1,r2,r3⟩:=Lj (P:=P) HE (m':=(es.modify i fun e=>(k,v,e.2.2),cl)) (mes':=A.modify i fun e=>{ e with key:=d,val:=u }) O V h1 Y (by
    rw[fb];refine⟨by simp[M],fun j y z a g=>?_⟩;simp only[hY]at a;simp only[ka,hY]at g;obtain⟨y0,hy0,rfl⟩:=eG.1 a;obtain⟨z0,hz0,rfl⟩:=eG.1 g;obtain⟨b1,b2,b3,b4,b5⟩:=N j y0 z0 hy0 hz0;by_cases e:i=j
    ·subst e
     simp only[if_true];exact⟨W,hv,b3,I.2,I.1⟩
    ·simp only [iN e]
     exact⟨b1,b2,b3,b4,b5⟩)
   refine⟨w',?_,r2,r3⟩;subst q1;have hst:(qI e'.key d).run P E.w=.ok d E.w:=by simp[qI,s2]
   simp only[mg,cg,Sem.bH (gb ht),bY,e1,gA B,g1,q4',fk,uE,hst];exact r1
 ·rename_i J
  cases h;obtain⟨r',g1,F⟩:=h_ B E.w h3 J;cases r' with
  |some _=>simp[dA]at F
  | none =>
   obtain⟨w',r1,r2,r3⟩:=Lj (P:=P) HE (m':=(es++[(k,v,cl)],cl+1)) (mes':=A.push { key:=d,val:=u,born:=cl }) O V h1 Y (by
    rw[fb];refine⟨by simp[M],fun j y z a g=>?_⟩;simp only[nq,fy,M]at a g;by_cases e:j<A.toList.length
    ·simp only [iP e] at a g
     exact N j y z a g
    ·simp only [iN e] at a g
     cases hj:j-A.toList.length with
     | zero =>
      rw[hj]at a g;simp at a g;subst a; subst g;exact⟨W,hv,rfl,I.2,I.1⟩
     |succ _=>rw[hj]at a; simp at a)
   refine⟨w',?_,r2,r3⟩;simp only[mg,cg,Sem.bH (gb ht),bY,e1,gA B,g1];exact r1
 ·cases h
def Lk{P:ai}{E:ae}(HE:aG E){id l b n cl cl':Nat}{O es':List (AV × Option Nat × Nat)}{k:List (List (AV × AV × Nat) × Nat)}{I mes':Array MapEntry}(v:E.H[id]? = some (.mm l O k cl)) (g:E.ad[id]? = some (some (b,n)))
  (U:E.w.heap[b]? = some (.map I cl)) (d:bO E (gK es') mes'.toList)
  (J:∀(i:Nat) x e,es'[i]? = some x->mes'.toList[i]? = some e->(x.2.1=none/\e.val=.map none)\/∃ j b,x.2.1=some j/\(dI (E.X.r l))[j]? = some b/\e.val=.map (some b)) :
  ∃ w',(setObj b (.map mes' cl')).run P E.w=.ok () w'/\aG { w:=w',H:=E.H.set id (.mm l es' k cl'),ad:=E.ad,X:=E.X }/\E.le { w:=w',H:=E.H.set id (.mm l es' k cl'),ad:=E.ad,X:=E.X }:=by
 have M:=(HE.lt id b n g).1;have N:({ E.w with heap:=E.w.heap.setIfInBounds b (.map mes' cl') }:a6).heap.size=E.w.heap.size:=by simp
 have t:∀ y,y≠b->({ E.w with heap:=E.w.heap.setIfInBounds b (.map mes' cl') }:a6).heap[y]? = E.w.heap[y]? := by
  intro y V;simp only[AZ];rw[iN (fun e=>V e.symm)]
 have key:=aG.qQ (w':={ E.w with heap:=E.w.heap.setIfInBounds b (.map mes' cl') }) (r':=E.X.r) (o':=.mm l es' k cl') HE v rfl rfl rfl (A2 N.symm) (fun x _ W _=>t x fun e=>by
   subst e;exact W n g) (fun _ _=>rfl) (fun _ _ _ q=>.inl q) (fun _ q=>⟨q,fun _ Y=>Y⟩) (fun z=>?_) ⟨rfl,rfl,rfl,fun _=>aY _⟩ (.inr ⟨rfl,[],(fe _).symm⟩)
 ·exact⟨_,by simp[setObj,hO,U],key.1,key.2⟩
 ·have B := HE.obj id _ v
  simp only[aV]at B|-;obtain⟨b0,n0,mes0,g1,g2,g3,g4,g5,g6⟩:=B;refine⟨b,n,mes',g,by simp[M],fL (fun a _ d=>bG z a d) d,g4,J,fun j mj F hj A=>?_⟩;obtain⟨mm,k1,k2⟩:=g6 j mj F hj A;obtain⟨h,mc,hh⟩:=qO (eC A);refine⟨mm,?_,fL (fun a _ d=>bG z a d) k2⟩;rw[<-k1];exact t F fun e2=>HE.dm id b n l h mc g (by rw[<-e2]; exact hh)
def kR(P:ai)(t:aD)(m k:AV)(H:List ah):Option (AV × List ah) :=
 match dJ P t,m with
 | some (a,d),.map id=>match H[id]? with
  | some (.mm l b g cl)=>match iG P a k,iU P d,k.closed with
   | some h,some (.lit (.map none)),true=>match eY P a h (gK b) 0 with
    |some none=>some (.tuple [.sub id l none,.lit (goInt cl)],H.set id (.mm l (b++[(k,none,cl)]) g (cl+1)))
    |_=>none
   |_,_,_=>none
  |_=>none
 |_,_=>none
def UG{P:ai}{E:ae}(HE:aG E){t:aD}{m k v:AV}{c d:ak}{H':List ah}(h:kR P t m k E.H=some (v,H'))(hm:ab E m c)(U:ab E k d) :
  ∃ u w',(E6 t c d).run P E.w=.ok u w'/\di E v H' u w':=by
 unfold kR at h;split at h
 case h_2=>cases h
 rename_i kt et id ht;split at h
 case h_2=>cases h
 rename_i l F ms cl N;split at h
 case h_2=>cases h
 rename_i kv hkv q hcl;obtain⟨b,n,O,rfl,h1,V,W,h4,h5,h6⟩:=Gd HE N hm;have M:=iT hkv U;have J:(getObj b).run P E.w=.ok (.map O cl) E.w:=by simp[getObj,hO,V]
 obtain⟨I,Y⟩:=fb.1 W;rw[Kn]at I;split at h
 case h_2=>cases h
 rename_i hf;cases h;obtain⟨r',g1,g2⟩:=h_ M E.w W hf;cases r' with
 |some _=>simp[dA]at g2
 | none =>
  obtain⟨zv,z1,z2⟩:=sP q E.w;have hzv:zv=.map none:=by have:=z2 E; simpa[ab]using this
  subst hzv;have hre:bO E (gK (F++[(k,none,cl)])) (O.push { key:=d,val:=.map none,born:=cl }).toList:=by
   rw[fb];refine⟨by simp[gK,I],fun a y z g q=>?_⟩;unfold gK at g;rw[qJ]at g;simp only[nq,fy,fJ]at g q;rw[<-I]at q;by_cases e:a<F.length
   ·simp only [iP e] at g q
    exact Y a y z (by unfold gK; exact g) q
   ·simp only [iN e] at g q
    cases B:a-F.length with
    | zero =>
     rw[B]at g q;simp at g q;subst g; subst q;exact⟨U,by simp[ab],rfl,hcl,rfl⟩
    |succ _=>rw[B]at g; simp at g
  obtain⟨w1,p1,p2,p3⟩:=Lk (P:=P) HE (cl':=cl+1) N h1 V hre (fun i x e A he=>by
   simp only[nq,fy]at A he;rw[<-I]at he;by_cases J:i<F.length
   ·simp only [iP J] at A he
    exact h5 i x e A he
   ·simp only [iN J] at A he
    cases B:i-F.length with
    | zero =>
     rw[B]at A he;simp at A he;subst A; subst he;exact .inl ⟨rfl,rfl⟩
    |succ _=>rw[B]at A; simp at A)
  refine⟨.tuple #[.map none,goInt cl],w1,?_,E.ad,E.X.r,?_,p2,p3⟩
  ·simp only [E6, cg, Sem.bH (gb ht), bY, J, gA M, g1, z1]
   rw[p1];rfl
  ·simp only [ab]
   refine⟨_,rfl,?_⟩;simp[ar,ab]
def sX(a:List (AV × Option Nat × Nat))(st:Int):Option Nat:=a.findIdx? fun x=>(x.2.2:Int)==st
def Ll{E:ae}{st:Int}:∀{a:List (AV × Option Nat × Nat)} {b:List MapEntry},bO E (gK a) b->b.findIdx? (fun e=>(e.born:Int)==st)=sX a st
 | [],[],_=>rfl
 | [],_::_,h=>by simp[gK,bO]at h
 |_::_,[],h=>by simp[gK,bO]at h
 | x::a,e::b,h=>by
  have h':bO E ((x.1,.undef,x.2.2)::gK a) (e::b):=h;simp only[bO]at h';obtain⟨_,_,g,_,_,k⟩:=h';have d:=Ll (st:=st) k;unfold sX at d|-;simp only[J2,g,d]
def UH{E:ae}(HE:aG E){id j l cl v:Nat}{A:List (AV × Option Nat × Nat)}{k:List (List (AV × AV × Nat) × Nat)}{y:List (AV × AV × Nat)}{u:ak}(J:E.H[id]? = some (.mm l A k cl))(B:E.H[j]? = some (.map y v))(hu:ab E (.map j) u) :
  ∃ b I F,u=.map (some b)/\(∃ t,F l=E.X.r l++t)/\(dI (F l))[k.length]? = some b/\(∀ i,i≠j->I[i]? = E.ad[i]?) /\
   aG { w:=E.w,H:=(E.H.set id (.mm l A (k++[(y,v)]) cl)).set j .dead,ad:=I,X:=E.X.re F }/\E.le { w:=E.w,H:=(E.H.set id (.mm l A (k++[(y,v)]) cl)).set j .dead,ad:=I,X:=E.X.re F }:=by
 obtain⟨b,n,mes,rfl,h1,h2,h3⟩:=xK HE B hu;have U:=HE.obj id _ J;simp only[aV]at U;obtain⟨b0,n0,mes0,g1,g2,g3,N,g5,g6⟩:=U;have hne:j≠id:=fun e=>by rw[e,J]at B; cases B
 have O:eP E.X.r l (some (b,n)) l=E.X.r l++[some (some (b,n))]:=iP rfl;have z:dI (eP E.X.r l (some (b,n)) l)=dI (E.X.r l)++[b]:=by
  rw[O,xw];rfl
 have key:=aG.attach HE (o':=.mm l A (k++[(y,v)]) cl) J rfl rfl rfl B rfl h1 (fun M=>?_) (.inr rfl)
 ·refine ⟨b, E.ad.set j none, eP E.X.r l (some (b, n)), rfl, ⟨_, O⟩, ?_, fun i hi => bc (Ne.symm hi), key.1, key.2⟩
  rw[z,<-N];simp
 ·simp only [aV]
  refine⟨b0,n0,mes0,by rw[bc hne]; exact g1,g2,fL (fun a _ q=>bG M a q) g3,?_,fun i x e hx he=>?_,fun i mi V g d=>?_⟩
  ·show (dI (eP E.X.r l (some (b, n)) l)).length = _
   rw[z];simp[N]
  ·rcases g5 i x e hx he with h | ⟨W, b', a1, Y, a3⟩
   ·exact .inl h
   ·refine .inr ⟨W, b', a1, ?_, a3⟩
    show (dI (eP E.X.r l (some (b,n)) l))[W]? = _
    rw[z,dr (aX Y)];exact Y
  ·have d : (dI (eP E.X.r l (some (b, n)) l))[i]? = some V := d
   rw[z]at d;rw[fy]at g d;by_cases e:i<k.length
   ·rw [iP e] at g
    rw[iP (by omega)]at d;obtain⟨mm,k1,k2⟩:=g6 i mi V g d;exact⟨mm,k1,fL (fun a _ q=>bG M a q) k2⟩
   ·rw [iN e] at g
    rw[iN (by omega),N]at d;cases hk:i-k.length with
    | zero =>
     rw[hk]at g d;simp at g d;subst g d;exact⟨mes,h2,fL (fun a _ q=>bG M a q) h3⟩
    |succ _=>rw[hk]at g; simp at g
def nI(m s v:AV)(H:List ah):Option (List ah) :=
 match m,s,v with
 | .map id,.lit (.int .i64 st),.map j=>match H[id]?,H[j]? with
  | some (.mm l a b cl),some (.map d g)=>match sX a st with
   | some i=>match a[i]? with
    |some (key,none,h)=>some ((H.set id (.mm l (a.set i (key,some b.length,h)) (b++[(d,g)]) cl)).set j .dead)
    |_=>none
   |none=>none
  |_,_=>none
 |_,_,_=>none
def UI{P:ai}{E:ae}(HE:aG E){t:aD}{m s v:AV}{c d u:ak}{H':List ah}(h:nI m s v E.H=some H')(hm:ab E m c)(hs:ab E s d)(hv:ab E v u) :
  ∃ w',(A1 t c d u).run P E.w=.ok () w'/\∀ x,di E .undef H' x w':=by
 unfold nI at h;split at h
 case h_2=>cases h
 rename_i id st j;split at h
 case h_2=>cases h
 rename_i l q g cl A B N hj;split at h
 case h_2=>cases h
 rename_i i hi;split at h
 case h_2=>cases h
 rename_i key I hes;cases h;obtain⟨b,n,k,rfl,h1,h2,h3,h4,h5,h6⟩:=Gd HE N hm;have hne:j≠id:=fun e=>by rw[e,N]at hj; cases hj
 have e1:(getObj b).run P E.w=.ok (.map k cl) E.w:=by simp[getObj,hO,h2]
 obtain⟨hlen,hall⟩:=fb.1 h3;rw[Kn]at hlen;have hlt:=aX hes;obtain⟨e',q4⟩:∃ e',k.toList[i]? = some e':=⟨k.toList[i]'(by omega),cn _⟩
 have hfind:k.findIdx? (fun e=>(e.born:Int)==st)=some i:=by
  have e0:k=k.toList.toArray:=by simp
  rw[e0,ajZ,Ll h3,hi]
 obtain⟨U,J,V,rfl,⟨tt,ht⟩,hlv,hloc,HE1,M⟩:=UH HE N hj hv;have hd:d=.int .i64 st:=by simpa[ab]using hs
 have hidE:({ w:=E.w,H:=(E.H.set id (.mm l q (g++[(A,B)]) cl)).set j .dead,ad:=J,X:=E.X.re V }:ae).H[id]? = some (.mm l q (g++[(A,B)]) cl):=by
  simp only[];rw[bc hne,bK (aX N)]
 have hre:bO { w:=E.w,H:=(E.H.set id (.mm l q (g++[(A,B)]) cl)).set j .dead,ad:=J,X:=E.X.re V } (gK (q.set i (key,some g.length,I))) (k.modify i fun e=>{ e with val:=.map (some U) }).toList:=by
  rw[fb];refine⟨by simp[gK,hlen],fun a y z F hz=>?_⟩;simp only[ka,hY]at hz;obtain⟨W,O,rfl⟩:=eG.1 hz;unfold gK at F;rw[cX,eU]at F;by_cases e:i=a
  ·subst e
   rw[iP rfl,iP hlt]at F;cases F;obtain⟨b1,b2,b3,b4,b5⟩:=hall i (key,.undef,I) W (by unfold gK; rw[cX,hes]; rfl) O;simp only[if_true];exact⟨bG M _ b1,by simp[ab],b3,b4,rfl⟩
  ·rw [iN e] at F
   obtain⟨b1,b2,b3,b4,b5⟩:=hall a y W (by unfold gK; rw[cX]; exact F) O;simp only[iN e];exact⟨bG M _ b1,bG M _ b2,b3,b4,b5⟩
 obtain⟨w',p1,p2,p3⟩:=Lk (P:=P) HE1 (cl':=cl) (es':=q.set i (key,some g.length,I)) (mes':=k.modify i fun e=>{ e with val:=.map (some U) }) hidE (by
  show J[id]? = _
  rw[hloc id (Ne.symm hne)];exact h1) h2 hre (fun a x e Y he=>by
  simp only[ka,hY]at he;obtain⟨W,O,rfl⟩:=eG.1 he;by_cases e:i=a
  ·subst e
   rw[bK hlt]at Y;cases Y;exact .inr ⟨g.length,U,rfl,hlv,by simp⟩
  ·rw [bc e] at Y
   simp only[iN e];rcases h5 a x W Y O with h|⟨i',b',a1,a2,a3⟩
   ·exact .inl h
   ·refine .inr ⟨i', b', a1, ?_, a3⟩
    show (dI (V l))[i']? = _
    rw[ht,xw,dr (aX a2)];exact a2)
 have hH:((E.H.set id (.mm l q (g++[(A,B)]) cl)).set j .dead).set id (.mm l (q.set i (key,some g.length,I)) (g++[(A,B)]) cl)=(E.H.set id (.mm l (q.set i (key,some g.length,I)) (g++[(A,B)]) cl)).set j .dead:=by
  rw[nr _ _ hne,ly]
 rw[hH]at p2 p3;have hrun:(A1 t (.map (some b)) d (.map (some U))).run P E.w=.ok () w':=by
  subst hd;simp only[A1,asInt,asIntOf,cg,bY,e1,e_,hfind];exact p1
 exact⟨w',hrun,fun xx=>⟨J,V,by simp[ab],p2,M.trans p3⟩⟩
end Go.AL

namespace Go.AL
open Go
variable [Dr]
def UJ{E:ae}(HE:aG E){id l k:Nat}{rZ:List (List AV)}(g:E.H[id]? = some (.vQ 1 0 rZ))(t:rZ≠[])(h:km E.H l=true) :
  aG { w:=E.w,H:=E.H.set id (.cM l k rZ.length []),ad:=E.ad,X:=E.X }/\E.le { w:=E.w,H:=E.H.set id (.cM l k rZ.length []),ad:=E.ad,X:=E.X } :=
 aG.xR HE g rfl rfl rfl (pN h) fun A=>by
  have q:=HE.obj id _ g;simp only[aV]at q|-;rcases q with⟨_,a⟩|⟨b,m,v,⟨d,y,a,B⟩,F,_,_⟩
  ·exact(t a).elim
  ·have z := Ld (HE.iD l (pN h))
   refine⟨b,m,d,y,v,a,?_,fO _,by have:d.toList.length=d.size:=lx; omega,fun i rZ b hi=>by simp at hi⟩;show (dI (E.X.r l)).length=0
   rw[z];rfl
def sY(P:ai)(t:aD)(x v:AV)(H:List ah):Option (List ah) :=
 match eI P t,nE v,x with
 | some (n,_),some a,.sptr id l j w row b=>match H[id]? with
  | some (.cM l' k g d) =>
   if a.length=n/\l=l'/\k=w/\AV.cb a=true then
    match d[j]? with
    | some rZ=>match rZ[row]? with
     |some r=>if b+n<=r.length then some (H.set id (.cM l k g (d.set j (rZ.set row (putCells r a b))))) else none
     |none=>none
    |none=>none
   else none
  |_=>none
 |_,_,_=>none
def UK{P:ai}{E:ae}(HE:aG E){t:aD}{x v:AV}{c d:ak}{H':List ah}(h:sY P t x v E.H=some H')(A:ab E x c)(hv:ab E v d) :
  ∃ w',(uC t c d).run P E.w=.ok () w'/\aG { w:=w',H:=H',ad:=E.ad,X:=E.X }/\E.le { w:=w',H:=H',ad:=E.ad,X:=E.X }:=by
 unfold sY at h;split at h
 case h_2=>cases h
 rename_i n ag cs id l j w row g ht hcs;obtain⟨i,dd,hi,hd,hs,ha⟩:=kO ht;obtain⟨hrel,h1⟩:=Br hcs hv;split at h
 case h_2=>cases h
 rename_i l' k n' ms hid;split at h
 case isFalse=>cases h
 rename_i hc;obtain⟨hn,rfl,rfl,hclosed⟩:=hc;split at h
 case h_2=>cases h
 rename_i rZ hj;split at h
 case h_2=>cases h
 rename_i r hrow;split at h
 case isFalse=>cases h
 rename_i hcol;cases h;have hlen:=iC hrel;have hsz:d.cells.size=n:=by rw[<-hn,hlen]; simp
 simp only[ab]at A;obtain⟨_,hpast,hlive⟩:=A;obtain⟨_,b,V,rfl⟩:=hlive ⟨_,hid,rfl⟩;have ho:=HE.obj id _ hid;simp only[aV]at ho;obtain⟨I,m0,cs0,el0,W,e3,e4,e5,e6,e7⟩:=ho;obtain⟨m,q1,⟨y,Y,M,hsize⟩,q4,q5,q6⟩:=e7 j rZ b hj V;obtain⟨hh,mc,hhh⟩:=qO (eC V);have hrlt:=aX hrow;obtain⟨hrk,hrc⟩:=oA q6 hrow;rw[eo]at hrc;have hrow1:(row+1)*k<=m*k:=qF _ (by omega);rw[fZ,xk]at hrow1;have F:row*k+g+0+d.cells.toList.length<=y.size:=by rw[hsize]; simp; omega
 have hst:=run_storeCells_at P b (row*k+g) Y d.cells.toList 0 y E.w M F (fun v hv=>by rw[ve]; exact h1 v hv);simp only[np]at hst F;generalize N:E.w.setRow b (y.toList.take (row*k+g)++d.cells.toList++y.toList.drop (row*k+g+d.cells.toList.length)).toArray=w' at hst;have hsize':w'.heap.size=E.w.heap.size:=by rw[<-N]; exact setRow_size _ _ _
 have henv:eO E.w w':=by rw[<-N]; exact⟨rfl,rfl,rfl,by first|exact fun _=>aY _|exact fun _=>gv _ _⟩
 have J:∀ x,x≠b->w'.heap[x]? = E.w.heap[x]? := by intro x A; rw[<-N]; exact setRow_other _ _ _ _ A
 have hb':w'.heap[b]? = some (.cells (y.toList.take (row*k+g)++d.cells.toList++y.toList.drop (row*k+g+d.cells.toList.length)).toArray Y (0,0)):=by
  rw[<-N]; exact setRow_heap E.w b y _ Y (0,0) M
 have key:=aG.qQ (w':=w') (r':=E.X.r) (o':=.cM l k n' (ms.set j (rZ.set row (putCells r cs g)))) HE hid rfl rfl rfl (A2 hsize'.symm) (fun x _ _ A=>J x fun e=>by
   subst e;exact A hh mc hhh) (fun _ _=>rfl) (fun _ _ _ hk=>.inl hk) (fun _ hk=>⟨hk,fun _ hq=>hq⟩) (fun hle=>?_) henv (.inr ⟨rfl,[],(fe _).symm⟩)
 ·refine ⟨w', ?_, key.1, key.2⟩
  simp only[uC,mf,cg,e_,bY,storeVar,Sem.run_sizeOf hi,hs];rw[iN (by omega)];exact hst
 ·simp only [aV]
  have hne:I≠b:=fun e=>HE.dm id I m0 l hh mc W (by rw[e]; exact hhh);refine⟨I,m0,cs0,el0,W,?_,?_,by simpa using e5,e6,fun i2 rws B O z=>?_⟩
  ·show w'.heap[I]? = _
   rw[J I hne];exact e3
  ·show (dI (E.X.r l)).length = _
   rw[jd];exact e4
  ·have z : (dI (E.X.r l))[i2]? = some B := z
   by_cases e:j=i2
   ·subst e
    rw[V]at z;cases z;rw[bK (aX hj)]at O;cases O;refine⟨m,by rw[jd]; exact q1,⟨_,Y,hb',?_⟩,by simpa using q4,?_,?_⟩
    ·simp only [AW, dG, iy, qG, lx, hsize] at F |-
     omega
    ·intro r' hr'
     rcases List.mem_or_eq_of_mem_set hr' with h'|h'
     ·exact q5 r' h'
     ·rw [h', putCells, xF, xF]
      have:=q5 r (eC hrow);simp[xA _ _ this,uV _ _ this,hclosed]
    ·rw [ox] at q6 |-
     intro j2 r' U;rw[eU]at U;split at U
     ·rename_i ej
      subst ej;cases U;refine⟨by rw[F0 (by omega)]; exact hrk,?_⟩;rw[eo];exact Bw (fun a c hr=>bG hle a hr) M hb' F hrc hrel h1 (by omega)
     ·rename_i ej
      obtain⟨g1',g2⟩:=q6 j2 r' U;refine⟨g1',?_⟩;rw[kg]at g2|-;intro q a hq;obtain⟨vv,p1,p2,p3⟩:=g2 q a hq;refine⟨vv,?_,p2,bG hle a p3⟩;have hql:=aX hq;rw[FZ M hb' F,iN]
      ·exact p1
      ·rcases Nat.lt_or_gt_of_ne ej with hlt | hgt
       ·have : (row + 1) * k <= j2 * k := qF _ (by omega)
        rw[fZ,xk]at this;simp only[lx];omega
       ·have : (j2 + 1) * k <= row * k := qF _ (by omega)
        rw[fZ,xk]at this;omega
   ·rw [bc e] at O
    obtain⟨m2,p1,⟨c2,el2,p2,p3⟩,p4,p5,p6⟩:=e7 i2 rws B O z;have hbne:B≠b:=fun W=>e (Lh HE V (by rw[<-W]; exact z));exact⟨m2,p1,⟨c2,el2,by show w'.heap[B]? = _; rw[J B hbne]; exact p2,p3⟩,p4,p5,ga (fun a _ hr=>bG hle a hr) (J B hbne) p6⟩
def xS(P:ai)(t:aD)(x v:AV)(H:List ah):Option (List ah) :=
 match eI P t,x,v with
 | some (sz,_),.ptr id h pw row g,.vQ k j al oF n=>match H[id]?,H[j]? with
  | some (.cM l q a b),some (.vQ w d rZ) =>
   if (sz=1/\h=0/\pw=1/\g=0)/\(k=q/\k=w/\al=d/\oF=0)/\(n=rZ.length/\0<n)/\(row=b.length/\row<a) then some ((H.set id (.cM l k a (b++[rZ]))).set j .dead) else none
  |_,_=>none
 |_,_,_=>none
def UL{P:ai}{E:ae}(HE:aG E){t:aD}{x v:AV}{c d:ak}{H':List ah}(h:xS P t x v E.H=some H')(M:ab E x c)(hv:ab E v d) :
  ∃ w',(uC t c d).run P E.w=.ok () w'/\∀ x,di E .undef H' x w':=by
 unfold xS at h;split at h
 case h_2=>cases h
 rename_i sz ag id pv pw row col k j al oF n ht;split at h
 case h_2=>cases h
 rename_i l k' n' g k2 ver' rZ F W;split at h
 case isFalse=>cases h
 rename_i hc;obtain⟨⟨rfl,rfl,rfl,rfl⟩,⟨rfl,rfl,rfl,rfl⟩,⟨rfl,hpos⟩,rfl,hlt⟩:=hc;cases h;have hne:j≠id:=fun e=>by rw[e,F]at W; cases W
 obtain⟨i,dd,hi,hd,hs,ha⟩:=kO ht;simp only[ab]at M;obtain⟨_,_,hlive⟩:=M;obtain⟨b,m,N,rfl⟩:=hlive ⟨_,F,rfl⟩;have ho:=HE.obj id _ F;simp only[aV]at ho;obtain⟨b0,m0,y,Y,e2,hblk,e4,e5,e6,e7⟩:=ho;rw[N]at e2;cases e2;have hv0:=hv;simp only[ab]at hv0;obtain⟨⟨aN,cap,rfl,_,_⟩,_,hv3⟩:=hv0;have hcells:(Value.slice aN rZ.length cap).cells=#[.slice aN rZ.length cap]:=rfl;have hfit:g.length+0+[Value.slice aN rZ.length cap].length<=y.size:=by
  have:y.toList.length=y.size:=lx;simp;omega
 have hst:=run_storeCells_at P b g.length Y [Value.slice aN rZ.length cap] 0 y E.w hblk hfit (fun v hv=>by simp at hv; subst hv; rw[ve]; rfl);simp only[np]at hst hfit;generalize hw':E.w.setRow b (y.toList.take g.length++[Value.slice aN rZ.length cap]++y.toList.drop (g.length+[Value.slice aN rZ.length cap].length)).toArray=w' at hst;have hsize':w'.heap.size=E.w.heap.size:=by rw[<-hw']; exact setRow_size _ _ _
 have henv:eO E.w w':=by rw[<-hw']; exact⟨rfl,rfl,rfl,by first|exact fun _=>aY _|exact fun _=>gv _ _⟩
 have U:∀ x,x≠b->w'.heap[x]? = E.w.heap[x]? := by intro x M; rw[<-hw']; exact setRow_other _ _ _ _ M
 have hb':w'.heap[b]? = some (.cells (y.toList.take g.length++[Value.slice aN rZ.length cap]++y.toList.drop (g.length+[Value.slice aN rZ.length cap].length)).toArray Y (0,0)):=by
  rw[<-hw']; exact setRow_heap E.w b y _ Y (0,0) hblk
 have hcell:∀ i,i<g.length->(y.toList.take g.length++[Value.slice aN rZ.length cap]++y.toList.drop (g.length+[Value.slice aN rZ.length cap].length))[i]? = y.toList[i]? := fun i hi=>by
  rw[iO,dr (by simp at e6|-; omega),List.getElem?_take,iP hi]
 have hat:(y.toList.take g.length++[Value.slice aN rZ.length cap]++y.toList.drop (g.length+[Value.slice aN rZ.length cap].length))[g.length]? = some (.slice aN rZ.length cap):=by
  have hl:(y.toList.take g.length).length=g.length:=by
   rw[iy];omega
  rw[iO,jz (by omega),hl,pt];rfl
 have key:=aG.qQ (w':=w') (r':=E.X.r) (o':=.cM l k n' g) HE F rfl rfl rfl (A2 hsize'.symm) (fun x _ M _=>U x fun e=>by
   subst e;exact M m N) (fun _ _=>rfl) (fun _ _ _ O=>.inl O) (fun _ O=>⟨O,fun _ hq=>hq⟩) (fun hle=>by
  simp only[aV];refine⟨b,m,_,Y,N,hb',e4,e5,?_,fun B rws z A q=>?_⟩
  ·simp
   simp at e6;omega
  ·have q : (dI (E.X.r l))[B]? = some z := q
   obtain⟨m2,p1,⟨c2,el2,p2,p3⟩,p4,p5,p6⟩:=e7 B rws z A q;obtain⟨hh,mc,hhh⟩:=qO (eC q);have V:z≠b:=fun e=>HE.dm id b m l hh mc N (by rw[<-e]; exact hhh);exact⟨m2,by simp only[]; rw[hcell B (aX A)]; exact p1,⟨c2,el2,by show w'.heap[z]? = _; rw[U z V]; exact p2,p3⟩,p4,p5,ga (fun a _ hr=>bG hle a hr) (U z V) p6⟩) henv (.inr ⟨rfl,[],(fe _).symm⟩)
 rw[XS.Fs]at key;obtain⟨HE1,hle1⟩:=key;have hset:E.H.set id (.cM l k n' g)=E.H:=by
  apply ou;intro a;rw[eU];split
  ·rename_i e
   subst e;rw[iP (aX F),F]
  ·rfl
 rw[hset]at HE1 hle1;have hoj:=HE1.obj j _ W;simp only[aV]at hoj;rcases hoj with⟨_,e⟩|⟨I,J,f1,f2,f3,f4,f5⟩
 ·rw [e] at hpos
  simp at hpos
 obtain⟨_,v5⟩:=hv3 ⟨_,W,rfl⟩;obtain⟨_,o,v7,v8⟩:=v5 I J f1;have:=v7 (by omega);rw[pr]at this;subst this;rw[ff]at v8;have hra:eP E.X.r l (some (I,J)) l=E.X.r l++[some (some (I,J))]:=iP rfl;have hlv:dI (eP E.X.r l (some (I,J)) l)=dI (E.X.r l)++[I]:=by
  rw[hra,xw];rfl
 have ho1:=HE1.obj id _ F;simp only[aV]at ho1;have key2:=aG.attach HE1 (o':=.cM l k n' (g++[rZ])) F rfl rfl rfl W rfl f1 (fun hle=>?_) (.inr rfl)
 ·refine ⟨w', ?_, fun x => ⟨_, _, by simp [ab], key2.1, hle1.trans key2.2⟩⟩
  simp only[uC,mf,cg,e_,bY,storeVar,Sem.run_sizeOf hi,hs,hcells];rw[iN (by simp)];simpa using hst
 ·simp only [aV]
  refine⟨b,m,_,Y,by rw[bc hne]; exact N,hb',?_,by simp; omega,?_,fun B rws z A q=>?_⟩
  ·show (dI (eP E.X.r l (some (I, J)) l)).length = _
   rw[hlv];simp[e4]
  ·simp
   simp at e6;omega
  ·have q : (dI (eP E.X.r l (some (I, J)) l))[B]? = some z := q
   rw[hlv]at q;rw[fy]at A q;by_cases e:B<g.length
   ·rw [iP e] at A
    rw[iP (by omega)]at q;obtain⟨m2,p1,⟨c2,el2,p2,p3⟩,p4,p5,p6⟩:=e7 B rws z A q;obtain⟨hh,mc,hhh⟩:=qO (eC q);have V:z≠b:=fun e=>HE.dm id b m l hh mc N (by rw[<-e]; exact hhh);exact⟨m2,by simp only[]; rw[hcell B e]; exact p1,⟨c2,el2,by show w'.heap[z]? = _; rw[U z V]; exact p2,p3⟩,p4,p5,ga (fun a _ hr=>bG (hle1.trans hle) a hr) (U z V) p6⟩
   ·rw [iN e] at A
    rw[iN (by omega),e4]at q;cases O:B-g.length with
    | zero =>
     rw[O]at A q;simp at A q;subst A q;have hi3:B=g.length:=by omega
     subst hi3;exact⟨J,by simp only[]; rw[hat,v8],f2,f3,f4,ga (fun a _ hr=>bG hle a hr) rfl f5⟩
    |succ _=>rw[O]at A; simp at A
end Go.AL

namespace Go.AL
open Go
variable [Dr]
abbrev kn:=AV × (Option (List (List AV)) × Option (List (List AV))) × Nat
def UM{E:ae}(HE:aG E){id l w cl:Nat}(d:E.H[id]? = some (.map [] cl))(q:km E.H l=true) :
  aG { w:=E.w,H:=E.H.set id (.bM l w [] cl),ad:=E.ad,X:=E.X }/\E.le { w:=E.w,H:=E.H.set id (.bM l w [] cl),ad:=E.ad,X:=E.X } :=
 aG.xR HE d rfl rfl rfl (pN q) fun t=>by
  have g:=HE.obj id _ d;simp only[aV]at g|-;obtain⟨b,n,h,z,A,k⟩:=g;have v:h.toList=[]:=by
   have:=(fb.1 k).1;exact ot this.symm
  refine⟨b,n,h,z,A,fL (fun a _ B=>bG t a B) k,fun e he=>(by rw[v]at he; cases he),fun _ _=>0,fun s s' i j x y hi=>by simp at hi,fun s i x rZ e hi=>by simp at hi⟩
def Lm{E:ae}(HE:aG E){id l w cl:Nat}{d:List kn}{c:ak}(h:E.H[id]? = some (.bM l w d cl))(k:ab E (.map id) c) :
  ∃ b n a,c=.map (some b)/\E.ad[id]? = some (some (b,n))/\E.w.heap[b]? = some (.map a cl)/\bO E (fK d) a.toList/\oy E l w d a.toList:=by
 have q:=HE.obj id _ h;simp only[aV]at q;obtain⟨b,n,a,t,v,y,z⟩:=q;simp only[ab]at k;obtain⟨_,_,A⟩:=k;obtain⟨F,I,g,B⟩:=A ⟨_,h,rfl⟩;rw[t]at g;simp only[a_,bk]at g;obtain⟨rfl,rfl⟩:=g;exact⟨b,n,a,B,t,v,y,z⟩
def Ln{a:List kn}{i:Nat}{x:kn}(h:a[i]? = some x):(fK a)[i]? = some (x.1,.undef,x.2.2):=by
 unfold fK;rw[cX,h];rfl
def Lo{a:List kn}{i:Nat}{x y:kn}(hi:a[i]? = some x)(b:y.1=x.1)(d:y.2.2=x.2.2):fK (a.set i y)=fK a:=by
 apply ou;intro j;unfold fK;rw[cX,cX,eU];split
 ·rename_i e
  subst e;rw[iP (aX hi),hi];simp[b,d]
 ·rfl
def fh(s:Bool)(x:kn) (r:Option (List (List AV))):kn:=(x.1,(bif s then (x.2.1.1,r) else (r,x.2.1.2)),x.2.2)
def Lp(s:Bool)(x:kn) (r:Option (List (List AV))):(gz s (fh s x r)).2.1=r:=by cases s<;>rfl
def Lq{s s':Bool}(h:s'≠s)(x:kn) (r:Option (List (List AV))):(gz s' (fh s x r)).2.1=(gz s' x).2.1:=by
 cases s<;>cases s'<;>first|rfl|exact absurd rfl h
def Lr{E:ae}(HE:aG E){id l w cl i:Nat}{d:List kn}{x:kn}{s:Bool}{rZ:List (List AV)}{b n:Nat}{N:Array MapEntry}{O:MapEntry}(hid:E.H[id]? = some (.bM l w d cl))(M:d[i]? = some x)(hsome:(gz s x).2.1=some rZ)
  (Y:E.ad[id]? = some (some (b,n))) (h2:E.w.heap[b]? = some (.map N cl)) (h3:bO E (fK d) N.toList) (h4:oy E l w d N.toList) (q4:N.toList[i]? = some O) :
  ∃ W r',aG { w:=E.w,H:=E.H.set id (.bM l w (d.set i (fh s x none)) cl)++[.vQ w 0 rZ],ad:=W,X:=E.X.re r' }/\E.le { w:=E.w,H:=E.H.set id (.bM l w (d.set i (fh s x none)) cl)++[.vQ w 0 rZ],ad:=W,X:=E.X.re r' } /\
   ab { w:=E.w,H:=E.H.set id (.bM l w (d.set i (fh s x none)) cl)++[.vQ w 0 rZ],ad:=W,X:=E.X.re r' } (.vQ w E.H.length 0 0 rZ.length) (qP s O.val)/\W[id]? = some (some (b,n)):=by
 have hlenH:E.H.length=E.ad.length:=HE.len.symm;obtain⟨k00,U,k1,k2⟩:=h4;have hsl:=k2 s i x rZ O M hsome q4;have hls:(gz s x).2.1.isSome=true:=by rw[hsome]; rfl
 obtain⟨g,J,z1,z2,z3⟩:∃(g:Option (Nat × Nat)) (J:Nat),(∀ b m,g=some (b,m)->(E.X.r l)[J]? = some (some (some (b,m)))) /\
   (∀ s' (j:Nat) y,d[j]? = some y->(gz s' y).2.1.isSome=true->¬ (s'=s/\j=i)->∀ b m,(E.X.r l)[U s' j]? = some (some (some (b,m)))->U s' j≠J) /\
   ((g=none/\rZ=[]/\∃ aN,qP s O.val=.slice aN 0 0)\/∃ b m,g=some (b,m)/\qP s O.val=.slice (some ⟨b,0,none⟩) rZ.length m/\isRow E.w b (m*w)/\rZ.length<=m/\fg rZ/\da E w rZ b 0):=by
  rcases hsl with⟨s1,s2⟩|⟨t,mm,s1,s2,s3,V,s5,s6⟩
  ·exact⟨none,(E.X.r l).length,fun _ _ e=>(by cases e),fun s' j y _ _ _ b m hb e=>(by rw[e]at hb; have:=aX hb; omega),.inl ⟨rfl,s1,s2⟩⟩
  ·exact⟨some (t,mm),U s i,fun _ _ e=>(by cases e; exact s1),fun s' j y k hsy hne _ _ _ e=>hne (k1 s' s j i _ _ k M hsy hls e),.inr ⟨t,mm,rfl,s2,s3,V,s5,s6⟩⟩
 have old:∀ s' (j:Nat) y,(d.set i (fh s x none))[j]? = some y->(gz s' y).2.1.isSome=true->∃ I,d[j]? = some I/\(gz s' I).2.1=(gz s' y).2.1/\¬ (s'=s/\j=i):=fun s' j y k hsm=>by
  by_cases e:i=j
  ·subst e
   rw[bK (aX M)]at k;cases k;by_cases e2:s'=s
   ·subst e2
    rw[Lp]at hsm;cases hsm
   ·exact⟨x,M,(Lq e2 x none).symm,fun h=>e2 h.1⟩
  ·rw [bc e] at k
   exact⟨y,k,rfl,fun h=>e h.2.symm⟩
 obtain⟨r1,r2⟩:=aG.BG HE (id:=id) (l0:=l) (h0:=J) (o':=.bM l w (d.set i (fh s x none)) cl) (ov:=.vQ w 0 rZ) (q:=g) hid rfl rfl rfl rfl z1 fun hle=>by
  refine⟨?_,?_⟩
  ·simp only [aV]
   refine⟨b,n,N,?_,h2,?_,k00,U,fun s1 s2 a c y z k hz sy sz he=>?_,fun s1 a y rws e k A he=>?_⟩
   ·rw [dr (aX Y)]
    exact Y
   ·rw [Lo (y := fh s x none) M rfl rfl]
    exact fL (fun a _ A=>bG hle a A) h3
   ·obtain ⟨I, o1, o2, _⟩ := old s1 a y k sy
    obtain⟨z0,o3,o4,_⟩:=old s2 c z hz sz;exact k1 s1 s2 a c I z0 o1 o3 (by rw[o2]; exact sy) (by rw[o4]; exact sz) he
   ·obtain ⟨I, o1, o2, o3⟩ := old s1 a y k (by rw [A]; rfl)
    rcases k2 s1 a I rws e o1 (by rw[o2]; exact A) he with F|⟨t,mm,t1,t2,t3,t4,t5,t6⟩
    ·exact .inl F
    ·refine .inr ⟨t, mm, ?_, t2, t3, t4, t5, ga (fun a _ A => bG hle a A) rfl t6⟩
     have hne:=z2 s1 a I o1 (by rw[o2,A]; rfl) o3 t mm t1;show (gN E.X.r l J l)[U s1 a]? = _
     rw[BF fun e=>hne e.2];exact t1
  ·simp only [aV]
   have F:(E.ad++[g])[E.H.length]? = some g:=by rw[hlenH]; simp
   rcases z3 with⟨rfl,s1,_⟩|⟨t,mm,rfl,_,s3,V,s5,s6⟩
   ·exact .inl ⟨F,s1⟩
   ·exact .inr ⟨t,mm,F,s3,V,s5,ga (fun a _ A=>bG hle a A) rfl s6⟩
 refine⟨E.ad++[g],gN E.X.r l J,r1,r2,?_,by rw[dr (aX Y)]; exact Y⟩;have hnew:(E.H.set id (.bM l w (d.set i (fh s x none)) cl)++[.vQ w 0 rZ])[E.H.length]? = some (.vQ w 0 rZ):=by
  rw[jz (by simp)];simp
 have F:(E.ad++[g])[E.H.length]? = some g:=by rw[hlenH]; simp
 simp only[ab];rcases z3 with⟨rfl,s1,aN,s2⟩|⟨t,mm,rfl,s2,s3,V,s5,s6⟩
 ·subst s1
  refine⟨⟨aN,0,by rw[s2]; rfl,aY _,fun h=>by simp at h⟩,⟨_,hnew,rfl,fun v hv=>by cases hv; exact aY _⟩,fun _=>⟨fun _=>⟨by first|rfl|trivial,by first|rfl|trivial,aN,s2⟩,fun b' m' B=>?_⟩⟩;rw[F]at B;cases B
 ·refine ⟨⟨_, mm, s2, V, fun _ => ⟨t, 0, rfl⟩⟩, ⟨_, hnew, rfl, fun v hv => by cases hv; exact aY _⟩, fun _ => ⟨fun B => ?_, fun b' m' B => ?_⟩⟩
  ·rw [F] at B
   cases B
  ·rw [F] at B
   cases B;exact⟨by omega,0,fun _=>by simp,by rw[s2,ff]⟩
def xT(P:ai)(t:aD)(m k:AV)(H:List ah):Option (AV × List ah) :=
 match dJ P t,m with
 | some (b,d),.map id=>match H[id]? with
  | some (.bM l w a cl)=>match iG P b k,iU P d with
   | some g,some (.agg [.lit (.slice none 0 0),.lit (.slice none 0 0)])=>match eY P b g (fK a) 0 with
    | some (some (i,_))=>match a[i]? with
     |some (key,(some r0,some r1),n)=>some (.agg [.vQ w H.length 0 0 r0.length,.vQ w (H.length+1) 0 0 r1.length],H.set id (.bM l w (a.set i (key,(none,none),n)) cl)++[.vQ w 0 r0]++[.vQ w 0 r1])
     |_=>none
    |some none=>some (.agg [.vQ w H.length 0 0 0,.vQ w (H.length+1) 0 0 0],H++[.vQ w 0 []]++[.vQ w 0 []])
    |none=>none
   |_,_=>none
  |_=>none
 |_,_=>none
def UN{P:ai}{E:ae}(HE:aG E){t:aD}{m k v:AV}{c d:ak}{H':List ah}(h:xT P t m k E.H=some (v,H'))(hm:ab E m c)(hk:ab E k d) :
  ∃ u w',(kL t c d false).run P E.w=.ok u w'/\di E v H' u w':=by
 unfold xT at h;split at h
 case h_2=>cases h
 rename_i kt et id ht;split at h
 case h_2=>cases h
 rename_i l w A cl F;split at h
 case h_2=>cases h
 rename_i kv hkv hz;obtain⟨b,n,ms,rfl,h1,V,h3,h4⟩:=Lm HE F hm;have N:=iT hkv hk;have e1:(getObj b).run P E.w=.ok (.map ms cl) E.w:=by simp[getObj,hO,V]
 split at h
 ·rename_i i v0 hf
  split at h
  case h_2=>cases h
  rename_i key r0 r1 z hes;cases h;obtain⟨r',g1,J⟩:=h_ N E.w h3 hf;cases r' with
  |none=>simp[dA]at J
  | some q =>
   simp only[dA]at J;obtain⟨q1,q2,_,e',W,q5⟩:=J;simp only[ff]at W;have hval:q.2=e'.val:=q5.symm;obtain⟨va,vb,hab,ha1,hb1⟩:=h4.1 e' (eC W);obtain⟨loc1,rr1,O,Y,I,hl1⟩:=Lr (s:=false) (rZ:=r0) HE F hes rfl h1 V h3 h4 W;have hid1:({ w:=E.w,H:=E.H.set id (.bM l w (A.set i (fh false (key,(some r0,some r1),z) none)) cl)++[.vQ w 0 r0],ad:=loc1,X:=E.X.re rr1 }:ae).H[id]? = some (.bM l w (A.set i (fh false (key,(some r0,some r1),z) none)) cl):=by
    simp only[];rw[dr (by rw[jd]; exact aX F),bK (aX F)]
   have ho1:=O.obj id _ hid1;simp only[aV]at ho1;obtain⟨b2,n2,ms2,o1,o2,o3,o4⟩:=ho1;rw[hl1]at o1;simp only[a_,bk]at o1;obtain⟨rfl,rfl⟩:=o1;rw[V]at o2;cases o2;obtain⟨loc2,rr2,U,B,g,_⟩:=Lr (s:=true) (rZ:=r1) O hid1 (bK (aX hes)) rfl hl1 V o3 o4 W;have hH:(E.H.set id (ah.bM l w (A.set i (fh false (key,(some r0,some r1),z) none)) cl)++[ah.vQ w 0 r0]).set id (ah.bM l w ((A.set i (fh false (key,(some r0,some r1),z) none)).set i (fh true (fh false (key,(some r0,some r1),z) none) none)) cl)++[ah.vQ w 0 r1] =
     E.H.set id (ah.bM l w (A.set i (key,(none,none),z)) cl)++[ah.vQ w 0 r0]++[ah.vQ w 0 r1]:=by
    rw[List.set_append_left _ _ (by rw[jd]; exact aX F),ly,ly];rfl
   have hHl:(E.H.set id (ah.bM l w (A.set i (fh false (key,(some r0,some r1),z) none)) cl)++[ah.vQ w 0 r0]).length=E.H.length+1:=by simp
   refine⟨q.2,E.w,?_,loc2,rr2,?_,?_,?_⟩
   ·simp only [kL, cg, Sem.bH (gb ht), bY, e1, e_, gA N, g1]
    rfl
   ·rw [hval, hab]
    simp only[ab];rw[hab]at I g;have hva:qP false (.agg #[va,vb])=va:=rfl;have hvb:qP true (.agg #[va,vb])=vb:=rfl;rw[hva]at I;rw[hvb]at g;have hv1':=bG B _ I;simp only[hHl]at g;refine⟨_,rfl,fun y M=>?_,?_⟩
    ·simp at M
     rcases M with rfl|rfl
     ·exact ha1
     ·exact hb1
    ·simp only [ar, and_true]
     rw[hH]at hv1' g;exact⟨hv1',g⟩
   ·rw [hH] at U
    exact U
   ·have := Y.trans B
    rw[hH]at this;exact this
 ·rename_i hf
  cases h;obtain⟨r',g1,J⟩:=h_ N E.w h3 hf;cases r' with
  |some _=>simp[dA]at J
  | none =>
   obtain⟨zv,z1,z2⟩:=sP hz E.w;have hzv:zv=.agg #[.slice none 0 0,.slice none 0 0]:=by
    have:=z2 E;simp only[ab]at this;obtain⟨cs,rfl,_,h⟩:=this;obtain⟨cl⟩:=cs
    match cl,h with
    | [a,c],h =>
     simp only[ar,ab,and_true]at h;rw[h.1,h.2]
    | [],h=>simp[ar]at h
    | [_],h=>simp[ar]at h
    |_::_::_::_,h=>simp[ar]at h
   obtain⟨O,Y,I⟩:=Gc HE w;obtain⟨U,B,g⟩:=Gc O w;refine⟨zv,E.w,?_,E.ad++[none]++[none],E.X.r,?_,U,Y.trans B⟩
   ·simp only [kL, cg, Sem.bH (gb ht), bY, e1, e_, gA N, g1, z1]
    rfl
   ·rw [hzv]
    simp only[ab];refine⟨_,rfl,fun y M=>by simp at M; subst M; rfl,?_⟩;simp only[ar,and_true];have hl:(E.H++[ah.vQ w 0 []]).length=E.H.length+1:=by simp
    simp only[hl]at g;exact⟨bG B _ I,g⟩
 ·cases h
def xU(P:ai)(t:aD)(m k v:AV)(H:List ah):Option (List ah) :=
 match dJ P t,m,v with
 | some (h,_),.map id,.agg [.vQ B a F o0 I,.vQ J b M o1 N]=>match H[id]?,H[a]?,H[b]? with
  | some (.bM l w g cl),some (.vQ q y d),some (.vQ z A Ad)=>match iG P h k with
   | some O=>if ((B=w/\q=w)/\(J=w/\z=w))/\((F=y/\M=A)/\(o0=0/\o1=0))/\(I=d.length/\N=Ad.length)/\(a≠b/\k.closed=true) then
     match eY P h O (fK g) 0 with
     |some (some (i,_))=>some (((H.set id (.bM l w (g.modify i fun e=>(k,(some d,some Ad),e.2.2)) cl)).set a .dead).set b .dead)
     |some none=>some (((H.set id (.bM l w (g++[(k,(some d,some Ad),cl)]) (cl+1))).set a .dead).set b .dead)
     |none=>none
    else none
   |none=>none
  |_,_,_=>none
 |_,_,_=>none
def UO{P:ai}{E:ae}(HE:aG E){id l w b n cl cl':Nat}{O q:List kn}{U d:Array MapEntry}(F:E.H[id]? = some (.bM l w O cl)) (t:E.ad[id]? = some (some (b,n)))
  (V:E.w.heap[b]? = some (.map U cl)) (k:bO E (fK q) d.toList) (I:oy E l w q d.toList) :
  ∃ w',(setObj b (.map d cl')).run P E.w=.ok () w'/\aG { w:=w',H:=E.H.set id (.bM l w q cl'),ad:=E.ad,X:=E.X }/\E.le { w:=w',H:=E.H.set id (.bM l w q cl'),ad:=E.ad,X:=E.X } /\
   w'.heap[b]? = some (.map d cl')/\∀ y,y≠b->w'.heap[y]? = E.w.heap[y]? := by
 have z:=(HE.lt id b n t).1;have J:({ E.w with heap:=E.w.heap.setIfInBounds b (.map d cl') }:a6).heap.size=E.w.heap.size:=by simp
 have v:∀ y,y≠b->({ E.w with heap:=E.w.heap.setIfInBounds b (.map d cl') }:a6).heap[y]? = E.w.heap[y]? := by
  intro y W;simp only[AZ];rw[iN (fun e=>W e.symm)]
 have key:=aG.qQ (E:=E) (w':={ E.w with heap:=E.w.heap.setIfInBounds b (.map d cl') }) (o':=.bM l w q cl') (r':=E.X.r) HE F rfl rfl rfl (by rw[J]; exact aY _) (fun x _ M _=>v x fun e=>M n (by rw[e]; exact t)) (fun _ _=>rfl) (fun _ _ _ h=>.inl h) (fun h Y=>⟨Y,fun _ hq=>hq⟩) (fun A=>by
  simp only[aV];refine⟨b,n,d,t,by simp[z],fL (fun a _ k=>bG A a k) k,Bf (E:=E) (fun h g m B=>⟨B,v g fun e=>HE.dm _ _ _ _ _ _ t (by rw[<-e]; exact B)⟩) (fun _ _ _ _ _ _ b' N _ k=>ga (fun a _ k=>bG A a k) N k) I⟩) ⟨rfl,rfl,rfl,by first|exact fun _=>aY _|exact fun _=>gv _ _⟩
 rw[XS.Fs]at key;exact⟨_,by simp[setObj,hO,V],key.1,key.2,by simp[z],v⟩
def Ls{E:ae}(HE:aG E){id j l w cl i al:Nat}{k:List kn}{rZ:List (List AV)}{x:kn}{s:Bool}{b n:Nat}{I:Array MapEntry}{e:MapEntry}(hid:E.H[id]? = some (.bM l w k cl))(J:E.H[j]? = some (.vQ w al rZ))
  (hi:k[i]? = some x) (hnone:(gz s x).2.1=none) (hloc:E.ad[id]? = some (some (b,n))) (hb:E.w.heap[b]? = some (.map I cl)) (he:I.toList[i]? = some e) (A:bO E (fK k) I.toList) (hsl:oy E l w k I.toList) (hv:ab E (.vQ w j al 0 rZ.length) (qP s e.val)) :
  ∃ O r',aG { w:=E.w,H:=(E.H.set id (.bM l w (k.set i (fh s x (some rZ))) cl)).set j .dead,ad:=O,X:=E.X.re r' }/\E.le { w:=E.w,H:=(E.H.set id (.bM l w (k.set i (fh s x (some rZ))) cl)).set j .dead,ad:=O,X:=E.X.re r' }/\O[id]? = some (some (b,n)):=by
 have U:j≠id:=fun e=>by rw[e,hid]at J; cases J
 have V:=HE.obj j _ J;simp only[ab]at hv;obtain⟨_,_,v3⟩:=hv;obtain⟨v4,v5⟩:=v3 ⟨_,J,rfl⟩;simp only[aV]at V;obtain⟨q,hq⟩:∃ q,E.ad[j]? = some q:=by
  rcases V with⟨v,_⟩|⟨b',m',v,_⟩
  ·exact⟨_,v⟩
  ·exact⟨_,v⟩
 obtain⟨k00,N,k1,k2⟩:=hsl;have htl:∀ h,h<(E.X.r l).length->(eP E.X.r l q l)[h]? = (E.X.r l)[h]? := fun h d=>(F8 d).2;have hnew:(eP E.X.r l q l)[(E.X.r l).length]? = some (some q):=by
  unfold eP;rw[iP rfl];simp
 have hlocid:(E.ad.set j none)[id]? = some (some (b,n)):=by rw[bc U]; exact hloc
 obtain⟨r1,r2⟩:=aG.attach HE (id:=id) (j:=j) (o':=.bM l w (k.set i (fh s x (some rZ))) cl) (q:=q) hid rfl rfl rfl J rfl hq fun W=>by
  simp only[aV];refine⟨b,n,I,hlocid,hb,by rw[Lo (y:=fh s x (some rZ)) hi rfl rfl]; exact fL (fun a _ A=>bG W a A) A,k00,?_⟩;have Y:∀ s' (a:Nat) y,(k.set i (fh s x (some rZ)))[a]? = some y->(gz s' y).2.1.isSome=true->¬ (s'=s/\a=i)->∃ F,k[a]? = some F/\(gz s' F).2.1=(gz s' y).2.1:=fun s' a y g hsm U=>by
   by_cases e:i=a
   ·subst e
    rw[bK (aX hi)]at g;cases g;by_cases e2:s'=s
    ·exact(U ⟨e2,rfl⟩).elim
    ·exact⟨x,hi,(Lq e2 x _).symm⟩
   ·rw [bc e] at g
    exact⟨y,g,rfl⟩
  have at_i:∀ y,(k.set i (fh s x (some rZ)))[i]? = some y->y=fh s x (some rZ):=fun y g=>by
   rw[bK (aX hi)]at g;cases g;rfl
  refine⟨fun s' a=>if s'=s/\a=i then (E.X.r l).length else if N s' a<(E.X.r l).length then N s' a else (E.X.r l).length+1+N s' a,fun s1 s2 a c y z g hz sy sz d=>?_,fun s1 a y rws e' g M he'=>?_⟩
  ·by_cases t : s1 = s /\ a = i
   ·by_cases B : s2 = s /\ c = i
    ·exact⟨by rw[t.1,B.1],by rw[t.2,B.2]⟩
    ·simp only [iP t, iN B] at d
     split at d<;>omega
   ·by_cases B : s2 = s /\ c = i
    ·simp only [iN t, iP B] at d
     split at d<;>omega
    ·simp only [iN t, iN B] at d
     obtain⟨F,o1,o2⟩:=Y s1 a y g sy t;obtain⟨z0,o3,o4⟩:=Y s2 c z hz sz B;refine k1 s1 s2 a c F z0 o1 o3 (by rw[o2]; exact sy) (by rw[o4]; exact sz) ?_;split at d<;>split at d<;>omega
  ·by_cases t : s1 = s /\ a = i
   ·obtain ⟨rfl, rfl⟩ := t
    have:=at_i y g;subst this;rw[Lp]at M;cases M;rw[he]at he';cases he';rcases V with⟨v,h2⟩|⟨b',m',v,h2,h3,h4,h5⟩
    ·obtain ⟨_, _, aN, h3⟩ := v4 v
     subst h2;exact .inl ⟨rfl,aN,h3⟩
    ·obtain ⟨h6, o, h7, h8⟩ := v5 b' m' v
     rw[hq]at v;cases v;simp only[eo,pr,ff]at h6 h7 h8;by_cases hm:0<m'
     ·have := h7 hm
      subst this;refine .inr ⟨b',m',?_,h8,h2,h3,h4,ga (fun a _ A=>bG W a A) rfl h5⟩;simp only[and_self,if_true];exact hnew
     ·have hr0 : rZ = [] := ot (by omega)
      have hm0:m'=0:=by omega
      subst hr0;subst hm0;exact .inl ⟨rfl,_,h8⟩
   ·obtain ⟨F, o1, o2⟩ := Y s1 a y g (by rw [M]; rfl) t
    rcases k2 s1 a F rws e' o1 (by rw[o2]; exact M) he' with hl|⟨bb,mm,s1',s2,s3,s4,s5,s6⟩
    ·exact .inl hl
    ·refine .inr ⟨bb, mm, ?_, s2, s3, s4, s5, ga (fun a _ A => bG W a A) rfl s6⟩
     have d:=aX s1';simp only[iN t,iP d];show (eP E.X.r l q l)[N s1 a]? = _
     rw[htl _ d];exact s1'
 exact⟨_,_,r1,r2,hlocid⟩
def Lt{P:ai}{E:ae}(HE:aG E){id l w cl cl' i g h B F:Nat}{es a:List kn}{d Ad:List (List AV)}{key:AV}{bn b n:Nat}{ms q:Array MapEntry}{e:MapEntry}{W Y:ak}
  (k:E.H[id]? = some (.bM l w es cl)) (y:E.H[g]? = some (.vQ w B d)) (z:E.H[h]? = some (.vQ w F Ad)) (hne:g≠h) (v:E.ad[id]? = some (some (b,n)))
  (hb:E.w.heap[b]? = some (.map ms cl)) (hr:bO E (fK a) q.toList) (hsl:oy E l w a q.toList) (hi:a[i]? = some (key,(none,none),bn)) (he:q.toList[i]? = some e) (N:e.val=.agg #[W,Y])
  (hv0:ab E (.vQ w g B 0 d.length) W) (hv1:ab E (.vQ w h F 0 Ad.length) Y) :
  ∃ w',(setObj b (.map q cl')).run P E.w=.ok () w'/\∀ x,di E .undef (((E.H.set id (.bM l w (a.set i (key,(some d,some Ad),bn)) cl')).set g .dead).set h .dead) x w':=by
 have A:g≠id:=fun e=>by rw[e,k]at y; cases y
 have V:h≠id:=fun e=>by rw[e,k]at z; cases z
 obtain⟨w',p1,p2,I,t,p5⟩:=UO (P:=P) HE (cl':=cl') k v hb hr hsl;have O:({ w:=w',H:=E.H.set id (.bM l w a cl'),ad:=E.ad,X:=E.X }:ae).H[id]? = some (.bM l w a cl'):=by
  simp only[];rw[bK (aX k)]
 have U:=p2.obj id _ O;simp only[aV]at U;obtain⟨b2,n2,ms2,o1,o2,o3,o4⟩:=U;rw[v]at o1;simp only[a_,bk]at o1;obtain⟨rfl,rfl⟩:=o1;rw[t]at o2;cases o2;obtain⟨loc1,r1,q1,q2,q3⟩:=Ls (s:=false) (rZ:=d) (j:=g) (al:=B) p2 O (by simp only[]; rw[bc (Ne.symm A)]; exact y) hi rfl v t he o3 o4 (by rw[N]; exact bG I _ hv0);have J:({ w:=w',H:=((E.H.set id (.bM l w a cl')).set id (.bM l w (a.set i (fh false (key,(none,none),bn) (some d))) cl')).set g .dead,ad:=loc1,X:=E.X.re r1 }:ae).H[id]? = some (.bM l w (a.set i (fh false (key,(none,none),bn) (some d))) cl'):=by
  simp only[];rw[bc A,bK (by rw[jd]; exact aX k)]
 have M:=q1.obj id _ J;simp only[aV]at M;obtain⟨b3,n3,ms3,o5,o6,o7,o8⟩:=M;rw[q3]at o5;simp only[a_,bk]at o5;obtain⟨rfl,rfl⟩:=o5;rw[t]at o6;cases o6;obtain⟨loc2,r2,q4,q5,_⟩:=Ls (s:=true) (rZ:=Ad) (j:=h) (al:=F) q1 J (by
   simp only[];rw[bc hne,bc (Ne.symm V),bc (Ne.symm V)];exact z) (bK (aX hi)) rfl q3 t he o7 o8 (by rw[N]; exact bG (I.trans q2) _ hv1)
 refine⟨w',p1,fun x=>⟨loc2,r2,by simp[ab],?_,I.trans (q2.trans ?_)⟩⟩
 all_goals
  have hH:((((E.H.set id (.bM l w a cl')).set id (.bM l w (a.set i (fh false (key,(none,none),bn) (some d))) cl')).set g .dead).set id (.bM l w ((a.set i (fh false (key,(none,none),bn) (some d))).set i (fh true (fh false (key,(none,none),bn) (some d)) (some Ad))) cl')).set h .dead =
    ((E.H.set id (.bM l w (a.set i (key,(some d,some Ad),bn)) cl')).set g .dead).set h .dead:=by
   rw[ly,nr _ _ A,ly,ly];rfl
 ·rw [hH] at q4
  exact q4
 ·rw [hH] at q5
  exact q5
def UP{P:ai}{E:ae}(HE:aG E){t:aD}{m k v:AV}{c d u:ak}{H':List ah}(h:xU P t m k v E.H=some H')(hm:ab E m c)(hk:ab E k d)(hv:ab E v u) :
  ∃ w',(mg t c d u).run P E.w=.ok () w'/\∀ x,di E .undef H' x w':=by
 unfold xU at h;split at h
 case h_2=>cases h
 rename_i kt et id w0 j0 v0 o0 n0 w1 j1 v1 o1 n1 ht;split at h
 case h_2=>cases h
 rename_i l w A cl w0' v0' V w1' v1' Ad hid hj0 hj1;split at h
 case h_2=>cases h
 rename_i kv hkv;split at h
 case isFalse=>cases h
 rename_i hc;obtain⟨⟨⟨rfl,rfl⟩,⟨rfl,rfl⟩⟩,⟨⟨rfl,rfl⟩,⟨rfl,rfl⟩⟩,⟨rfl,rfl⟩,hne,hcl⟩:=hc;obtain⟨b,n,M,rfl,h1,h2,h3,h4⟩:=Lm HE hid hm;have W:=iT hkv hk;have e1:(getObj b).run P E.w=.ok (.map M cl) E.w:=by simp[getObj,hO,h2]
 obtain⟨hlen,hall⟩:=fb.1 h3;rw[Tv]at hlen;obtain⟨F,I,rfl,hu0,hu1,ho0,ho1⟩:∃ F I,u=.agg #[F,I]/\ab E (.vQ w1' j0 v0 0 V.length) F/\ab E (.vQ w1' j1 v1 0 Ad.length) I/\dU F=true/\dU I=true:=by
  rw[ab]at hv;obtain⟨cs,rfl,ho,h⟩:=hv;obtain⟨cl⟩:=cs
  match cl,h,ho with
  | [a,c],h,ho =>
   simp only[ar,and_true]at h;exact⟨a,c,rfl,h.1,h.2,ho a (by simp),ho c (by simp)⟩
  | [],h,_=>simp[ar]at h
  | [_],h,_=>simp[ar]at h
  |_::_::_::_,h,_=>simp[ar]at h
 split at h
 ·rename_i i v0 hf
  cases h;obtain⟨r',g1,Y⟩:=h_ W E.w h3 hf;cases r' with
  |none=>simp[dA]at Y
  | some q =>
   simp only[dA]at Y;obtain⟨q1,q2,_,e',U,q5⟩:=Y;obtain⟨_,x,y,f1,f2,f3⟩:=vj hf;simp only[ff]at U f1;obtain⟨a1,a2,a3,a4,a5⟩:=hall i x e' f1 U;obtain⟨s1,s2⟩:=xL W (iT f2 a1) f3;have q4':M[i]? = some e':=by simpa using U
   have X:i<A.length:=by have:=aX U; omega
   obtain⟨J,hx0⟩:∃ J,A[i]? = some J:=⟨A[i],cn X⟩
   have hx:x=(J.1,.undef,J.2.2):=by rw[Ln hx0]at f1; cases f1; rfl
   have hre:bO E (fK (A.set i (k,(none,none),J.2.2))) (M.modify i fun e=>{ e with key:=d,val:=.agg #[F,I] }).toList:=by
    rw[fb];refine⟨by simp[fK,hlen],fun a y z g B=>?_⟩;simp only[ka,hY]at B;obtain⟨z0,N,rfl⟩:=eG.1 B;unfold fK at g;rw[cX,eU]at g;by_cases e:i=a
    ·subst e
     rw[iP rfl,iP X]at g;cases g;rw[U]at N;cases N;simp only[if_true];refine⟨hk,by simp[ab],?_,hcl,rfl⟩;rw[a3,hx]
    ·rw [iN e] at g
     obtain⟨b1,b2,b3,b4,b5⟩:=hall a y z0 (by unfold fK; rw[cX]; exact g) N;simp only[iN e];exact⟨b1,b2,b3,b4,b5⟩
   have hsl2:oy E l w1' (A.set i (k,(none,none),J.2.2)) (M.modify i fun e=>{ e with key:=d,val:=.agg #[F,I] }).toList:=by
    obtain⟨k00,hs,k1,k2⟩:=h4;have O:∀ s (a:Nat) y,(A.set i (k,((none:Option (List (List AV))),(none:Option (List (List AV)))),J.2.2))[a]? = some y->(gz s y).2.1.isSome=true->A[a]? = some y/\a≠i:=fun s a y g hsm=>by
     by_cases ei:i=a
     ·subst ei
      rw[bK X]at g;cases g;cases s<;>cases hsm
     ·rw [bc ei] at g
      exact⟨g,Ne.symm ei⟩
    refine⟨fun e he=>?_,hs,fun s s' a c y z g B sy sz he=>k1 s s' a c y z (O s a y g sy).1 (O s' c z B sz).1 sy sz he,fun s a y rws e g hr he=>?_⟩
    ·obtain ⟨a, ha, hea⟩ := uz he
     have B:(M.modify i fun e=>{ e with key:=d,val:=.agg #[F,I] }).toList[a]? = some e:=by rw[cn ha,hea]
     simp only[ka,hY]at B;obtain⟨z0,N,rfl⟩:=eG.1 B;by_cases e:i=a
     ·subst e
      simp only[if_true];exact⟨F,I,rfl,ho0,ho1⟩
     ·simp only [iN e]
      exact k00 z0 (eC N)
    ·obtain ⟨o1, o2⟩ := O s a y g (by rw [hr]; rfl)
     simp only[ka,hY]at he;obtain⟨z0,N,rfl⟩:=eG.1 he;rw[iN (Ne.symm o2)];exact k2 s a y rws z0 o1 hr N
   have hst:(qI e'.key d).run P E.w=.ok d E.w:=by simp[qI,s2]
   obtain⟨w',p1,p2⟩:=Lt (P:=P) HE (cl':=cl) (i:=i) (key:=k) (bn:=J.2.2) (e:={ e' with key:=d,val:=.agg #[F,I] }) hid hj0 hj1 hne h1 h2 hre hsl2 (bK X) (by
    simp only[ka,hY,U];simp) rfl hu0 hu1
   refine⟨w',?_,fun xx=>?_⟩
   ·subst q1
    simp only[mg,cg,Sem.bH (gb ht),bY,e1,gA W,g1,q4',fk,uE,hst];exact p1
   ·have hm:A.modify i (fun e=>(k,(some V,some Ad),e.2.2))=(A.set i (k,(none,none),J.2.2)).set i (k,(some V,some Ad),J.2.2):=by
     rw[ly];apply ou;intro j;rw[hY,eU];by_cases e:i=j
     ·subst e
      rw[iP rfl,iP X,hx0];simp
     ·rw [iN e]
      simp[e]
    rw[hm];exact p2 xx
 ·rename_i hf
  cases h;obtain⟨r',g1,Y⟩:=h_ W E.w h3 hf;cases r' with
  |some _=>simp[dA]at Y
  | none =>
   have hml:M.toList.length=A.length:=by omega
   have hre:bO E (fK (A++[(k,(none,none),cl)])) (M.push { key:=d,val:=.agg #[F,I],born:=cl }).toList:=by
    rw[fb];refine⟨by simp[fK,hlen],fun a y z g B=>?_⟩;unfold fK at g;rw[qJ]at g;simp only[nq,fy,fJ]at g B;rw[hml]at B;by_cases e:a<A.length
    ·simp only [iP e] at g B
     exact hall a y z (by unfold fK; exact g) B
    ·simp only [iN e] at g B
     cases hj2:a-A.length with
     | zero =>
      rw[hj2]at g B;simp at g B;subst g; subst B;exact⟨hk,by simp[ab],rfl,hcl,rfl⟩
     |succ _=>rw[hj2]at g; simp at g
   have hsl2:oy E l w1' (A++[(k,(none,none),cl)]) (M.push { key:=d,val:=.agg #[F,I],born:=cl }).toList:=by
    obtain⟨k00,hs,k1,k2⟩:=h4;have O:∀ s (a:Nat) y,(A++[(k,((none:Option (List (List AV))),(none:Option (List (List AV)))),cl)])[a]? = some y->(gz s y).2.1.isSome=true->A[a]? = some y/\a<A.length:=fun s a y g hsm=>by
     rw[fy]at g;split at g
     ·rename_i hh
      exact⟨g,hh⟩
     ·cases hk2 : a - A.length with
      | zero =>
       rw[hk2]at g;simp at g;subst g;cases s<;>cases hsm
      |succ _=>rw[hk2]at g; simp at g
    refine⟨fun e he=>?_,hs,fun s s' a c y z g B sy sz he=>k1 s s' a c y z (O s a y g sy).1 (O s' c z B sz).1 sy sz he,fun s a y rws e g hr he=>?_⟩
    ·simp only [nq, cN, List.mem_singleton] at he
     rcases he with he|rfl
     ·exact k00 e he
     ·exact⟨F,I,rfl,ho0,ho1⟩
    ·obtain ⟨o1, o2⟩ := O s a y g (by rw [hr]; rfl)
     simp only[nq]at he;rw[dr (by omega)]at he;exact k2 s a y rws e o1 hr he
   obtain⟨w',p1,p2⟩:=Lt (P:=P) HE (cl':=cl+1) (i:=A.length) (key:=k) (bn:=cl) (e:={ key:=d,val:=.agg #[F,I],born:=cl }) hid hj0 hj1 hne h1 h2 hre hsl2 (by simp) (by
    simp only[nq];rw[jz (by omega)];simp[hml]) rfl hu0 hu1
   refine⟨w',?_,fun xx=>?_⟩
   ·simp only [mg, cg, Sem.bH (gb ht), bY, e1, gA W, g1]
    exact p1
   ·have e2:(A++[(k,((none:Option (List (List AV))),(none:Option (List (List AV)))),cl)]).set A.length (k,(some V,some Ad),cl)=A++[(k,(some V,some Ad),cl)]:=by
     rw[ajY _ _ (aY _),pt];rfl
    have:=p2 xx;rw[e2]at this;exact this
 ·cases h
end Go.AL
