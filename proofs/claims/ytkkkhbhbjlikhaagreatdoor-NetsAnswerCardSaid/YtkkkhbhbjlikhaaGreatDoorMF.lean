/-
 What is proved here: what the methods of the stream give on data. No condition.
-/
import Derived.Test.YtkkkhbhbjlikhaaGreatDoorML5
import Derived.Test.YtkkkhbhbjlikhaaGreatDoorME
import Derived.Test.YtkkkhbhbjlikhaaGreatDoorMI
set_option linter.all false
set_option backward.dsimp.instances true
open Bool renaming and_true->fJ,and_eq_true->aR,true_and->lP,or_eq_true->lQ,false_or->jR,eq_iff_iff->jB,and_self->qs
open Go.ByteArray renaming toList_eq->Eo
open Go.Lib renaming compareBytes->iR
open Int renaming toNat_natCast->aZ,tmod->Em,tdiv->Jt,tmod_lt_of_pos->at2,tmod_eq_emod_of_nonneg->at3,mul_nonneg->at4
open List renaming length_cons->cJ,getElem?_eq_getElem->bT,getD_eq_getElem?_getD->dj,map_cons->eU,mem_of_mem_take->D3,cons_append->qk,length_take->gA,length_append->eL,all_eq_true->eX,mem_cons->cy,nil_append->rF,append_nil->kL,mem_cons_self->dG,mem_cons_of_mem->cO,any_eq_true->qo,mem_singleton->ij,length_nil->fU,drop_eq_getElem_cons->Jo,not_mem_nil->ke,any_cons->xV,nodup_append->Ep,getElem?_take_of_lt->at6,length_reverse->aub,reverse_cons->auc,drop_length->Jv,filter_append->tn
open Nat renaming le_refl->bl,zero_add->fC,beq->aA,ble->bW,ble_eq->fh,lt_succ_of_lt->rH
open UInt8 renaming le_antisymm->aam,not_lt->En,lt_irrefl->at5
namespace Go.Proofs.h_
open Go Go.AL Go.Proofs
attribute [-go_sem] ByteArray.size_mk' ByteArray.size_append'
variable {r:LG} {s:BY}
noncomputable section
theorem NP(x n:Int)(d:1<=n)(q:n<=1099511627776):aa (zu [.i x,.i n]) fun g=>∃v,g=[.i v]/\0<=v/\v<n:=by
 unfold zu
 (dsimp only[go_sem])
 have A:=at2 x (by omega:0<n);have B:=Int.lt_tmod_of_pos x (by omega:0<n);(repeat first|refine aa.p ?_|refine aa.n ?_);refine aa.test (fun h=>?_) fun h=>?_
 ·simp only[dX,dT]at h
  (repeat first|refine aa.p ?_|refine aa.n ?_);exact aa.some ⟨_,rfl,ab,ab⟩
 simp_all[dX,aa.some]
theorem z_(l:LL)(a n:Int)(d:0<=a)(U:a<=1000000)(A:1<=n)(B:n<=1099511627776) :
  aa (sC [.l l,.i a,.i n]) fun g=>∃v,g=[.l l,.i (a+1),.i v]/\0<=v/\v<n:=by
 unfold sC
 (dsimp only[go_sem])
 have F:a+1-1=a:=ab;simp only[F];by_cases W:l.length=0
 ·(repeat first|refine aa.p ?_|refine aa.n ?_)
  refine aa.call (NP _ n A B) ?_;rintro _ ⟨v,rfl,I,J⟩
  (dsimp only[go_sem])
  grind[aa.some]
 ·have M:(0:Int)<(l.length:Int) :=ab
  have N:0<=Jt a l.length:=Int.tdiv_nonneg d ab;have Y:Jt a l.length<=a:=by
   rw[Int.tdiv_eq_ediv_of_nonneg d]
   simp_all[Int.ediv_le_self]
  have m0:0<=Em a l.length:=by
   rw[at3 d];exact Int.emod_nonneg _ ab
  have m1:Em a l.length<l.length:=at2 a M;have m2:Em a l.length<=a:=by
   rw[at3 d];have:=Int.mul_ediv_add_emod a l.length;have O:0<=(l.length:Int)*(a / l.length):=at4 ab (Int.ediv_nonneg d ab);omega
  generalize hq:Jt a l.length=q at *;generalize hr:Em a l.length=r at *;have p0:0<=q*(7919+r):=at4 N ab;have p1:q*(7919+r)<=1000000*2000000:=Int.mul_le_mul ab ab ab ab;generalize hz:q*(7919+r)=z at *;(repeat first|refine aa.p ?_|refine aa.n ?_);refine aa.call (NP _ 1073741824 ab ab) ?_;rintro _ ⟨u,rfl,I,J⟩
  (dsimp only[go_sem])
  (repeat first|refine aa.p ?_|refine aa.n ?_);refine aa.call (NP _ n A B) ?_;rintro _ ⟨v,rfl,O,h5⟩
  (dsimp only[go_sem])
  grind[aa.some]
theorem Ah(l:LL)(a lo hi:Int)(q:0<=a)(d:a<=1000000)(A:lo<=hi)(B : -1000000000<=lo)(F:hi<=1000000000) :
  aa (sD [.l l,.i a,.i lo,.i hi]) fun g=>∃v,g=[.l l,.i (a+1),.i v]/\lo<=v/\v<=hi:=by
 unfold sD
 (dsimp only[go_sem])
 (repeat first|refine aa.p ?_|refine aa.n ?_);refine aa.call (z_ l a _ q d ab ab) ?_;rintro _ ⟨v,rfl,I,J⟩
 (dsimp only[go_sem])
 (repeat first|refine aa.p ?_|refine aa.n ?_);exact aa.some ⟨_,rfl,ab,ab⟩
theorem auH{l:LL}{v:Int}(d:0<=v)(g:v<l.length):l.getD v.toNat []∈l:=by
 have:v.toNat<l.length:=ab;rw[dj,bT this];exact List.getElem_mem this
theorem Xu(P:Int->Prop)(l:LL)(a:Int)(d:LL)(A:0<=a)(q:a<=1000000)(B:1<=d.length)(F:d.length<=1000000)(I:∀ x∈d,P (gi x 0).iV) :
  aa (qW [.l l,.i a,.l d]) fun g=>∃v,g=[.l l,.i (a+1),.i v]/\P v:=by
 unfold qW
 (dsimp only[go_sem])
 refine aa.call (z_ l a _ A q ab ab) ?_;rintro _ ⟨v,rfl,J,M⟩
 (dsimp only[go_sem])
 (repeat first|refine aa.p ?_|refine aa.n ?_)
 grind[aa.some]
theorem aps(P:BY->Prop)(l:LL)(a:Int)(d:LL)(A:0<=a)(q:a<=1000000)(B:1<=d.length)(F:d.length<=1000000)(I:∀ x∈d,P (gi x 0).sV) :
  aa (jM [.l l,.i a,.l d]) fun g=>∃v,g=[.l l,.i (a+1),.s v]/\P v:=by
 unfold jM
 (dsimp only[go_sem])
 refine aa.call (z_ l a _ A q ab ab) ?_;rintro _ ⟨v,rfl,J,M⟩
 (dsimp only[go_sem])
 (repeat first|refine aa.p ?_|refine aa.n ?_)
 grind[aa.some]
theorem Dy(l:LL)(a n:Int)(q:0<=a)(d:a<=1000000)(A:1<=n)(B:n<=1000000) :
  aa (uJ [.l l,.i a,.i n]) fun g=>∃b,g=[.l l,.i (a+1),.t b]:=by
 unfold uJ
 (dsimp only[go_sem])
 refine aa.call (z_ l a _ q d ab ab) ?_;rintro _ ⟨v,rfl,F,I⟩;exact aa.some ⟨_,rfl⟩
theorem uS(l:LL)(a lo hi:Int)(q:0<=a)(N:a<=900000)(A:lo<=hi)(B : -1000000000<=lo)(F:hi<=1000000000) :
  aa (pU [.l l,.i a,.i lo,.i hi]) fun g=>∃v,g=[.l l,.i (a+2),.i v]/\-1099511627776<=v/\(v<=1000000001\/v=1099511627776):=by
 unfold pU
 (dsimp only[go_sem])
 have I:a+1+1=a+2:=ab;refine aa.call (Dy l a 12 q ab ab ab) ?_;rintro _ ⟨b,rfl⟩
 (dsimp only[go_sem])
 cases b with
 |true=>
  (repeat first|refine aa.p ?_|refine aa.n ?_);refine aa.call (Xu (fun v=>-1099511627776<=v/\(v<=1000000001\/v=1099511627776)) l (a+1) _ ab ab ai ai ?_) ?_
  ·intro x d
   simp only[cy,ke,or_false]at d;rcases d with rfl|rfl|rfl|rfl|rfl|rfl<;>(dsimp only[go_sem])<;>omega
  ·rintro _ ⟨v,rfl,J,M⟩
   (dsimp only[go_sem])
   grind[aa.some]
 |false=>
  (repeat first|refine aa.p ?_|refine aa.n ?_);refine aa.call (Ah l (a+1) lo hi ab ab A B F) ?_;rintro _ ⟨v,rfl,J,M⟩
  (dsimp only[go_sem])
  exact aa.some ⟨v,by rw[I],ab,ab⟩
def sN(L:List BY)(s:BY):Bool:=L.any fun x=>zg x s
theorem apt{L:List BY}(h:sN L s=true):s∈L:=by
 obtain⟨x,d,he⟩:=qo.1 h
 grind[TW]
theorem Dz(lo hi:Int)(l:LL)(a:Int)(d:LL)(B:0<=a)(A:a<=1000000)(q:(bW 1 d.length&&bW d.length 1000000)=true) (F:(d.all fun x=>cw lo (gi x 0).iV&&cw (gi x 0).iV hi)=true) :
  aa (qW [.l l,.i a,.l d]) fun g=>∃v,g=[.l l,.i (a+1),.i v]/\lo<=v/\v<=hi:=by
 simp only[aR,fh]at q;refine Xu (fun v=>lo<=v/\v<=hi) l a d B A q.1 q.2 fun x I=>?_;have:=eX.1 F x I;simpa only[eh,aR,dT]using this
theorem lH(L:List BY)(l:LL)(a:Int)(d:LL)(B:0<=a)(A:a<=1000000)(q:(bW 1 d.length&&bW d.length 1000000)=true) (F:(d.all fun x=>sN L (gi x 0).sV)=true) :
  aa (jM [.l l,.i a,.l d]) fun g=>∃v,g=[.l l,.i (a+1),.s v]/\v∈L:=by
 simp only[aR,fh]at q;exact aps (fun v=>v∈L) l a d B A q.1 q.2 fun x I=>apt (eX.1 F x I)
def calls:List BY:=[⟨#[]⟩,⟨#[107,49]⟩,⟨#[75,49,65,66]⟩,⟨#[107,49,97,98,47]⟩,⟨#[49,97]⟩,⟨#[107,49,97,98,47,109,109,47,112]⟩,⟨#[107,49,97,98]⟩,⟨#[107,49,97,97]⟩,⟨#[107,49,97,98,47,52]⟩,
 ⟨#[111,104,50,97,98,99]⟩,⟨#[111,104,50,97,98,100]⟩,⟨#[119,49,97,119]⟩,⟨#[110,49,109,109]⟩,⟨#[103,51,120,121,122,47,112]⟩]
def kH:List BY:=[⟨#[]⟩,⟨#[66]⟩,⟨#[98,50,48]⟩,⟨#[98,52,48]⟩]
def names:List BY:=[⟨#[]⟩,⟨#[65]⟩,⟨#[49]⟩,⟨#[102,105,110]⟩,⟨#[117,115,97]⟩]
def small(n:Int):Prop:=-2000000000000<=n/\n<=2000000000000
def fp(r:LG):Prop:=∃(t m:Int) (b c:BY) (s h:Int) (x y:BY),r=[.i t,.i m,.s b,.s c,.i s,.i h,.s x,.s y]/\small t/\small m/\small s/\small h/\b∈kH/\c∈calls/\x∈names/\y∈names
def tight(n:Int):Prop:=-1900000000000<=n/\n<=1900000000000
def xk(n:Int):Prop:=-1900000000000<=n/\(n<=345000000000\/(345686399999<n/\n<=1900000000000))
def NQ(r:LG):Prop:=∃(t m:Int) (b c:BY) (s h:Int) (x y:BY),r=[.i t,.i m,.s b,.s c,.i s,.i h,.s x,.s y]/\xk t/\tight m/\tight s/\tight h/\b∈kH/\c∈calls/\x∈names/\y∈names
theorem tight.to{n:Int}(h:tight n):small n:=⟨by have:=h.1; omega,by have:=h.2; omega⟩
theorem xk.to{n:Int}(h:xk n):small n:=by
 unfold xk at h;exact⟨ab,ab⟩
theorem NQ.to{r:LG}(h:NQ r):fp r:=by
 obtain⟨t,m,b,c,s,h,x,y,e,d,g,q,A,B⟩:=h;exact⟨t,m,b,c,s,h,x,y,e,d.to,g.to,q.to,A.to,B⟩
theorem fp.eta(h:fp r):bu [.I,.I,.str,.str,.I,.I,.str,.str] r=r:=by
 obtain⟨t,m,b,c,s,h,x,y,rfl,_⟩:=h;rfl
theorem apu(l:LL)(a:Int)(q:0<=a)(A:a<=900000):aa (G3 [.l l,.i a]) fun g=>∃v,g=[.l l,.i (a+2),.s v]/\v∈calls:=by
 unfold G3
 (dsimp only[go_sem])
 have d:a+1+1=a+2:=ab;refine aa.call (Dy l a 60 q ab ab ab) ?_;rintro _ ⟨b,rfl⟩
 (dsimp only[go_sem])
 cases b with
 |true=>
  (repeat first|refine aa.p ?_|refine aa.n ?_);refine aa.call (lH calls l (a+1) _ ab ab aj aj) ?_;rintro _ ⟨v,rfl,h⟩;exact aa.some ⟨v,by(dsimp only[go_sem]); rw[d],h⟩
 |false=>
  (repeat first|refine aa.p ?_|refine aa.n ?_);refine aa.call (lH calls l (a+1) _ ab ab aj aj) ?_;rintro _ ⟨v,rfl,h⟩;exact aa.some ⟨v,by(dsimp only[go_sem]); rw[d],h⟩
theorem apv(l:LL)(a t:Int)(U:0<=a)(ha1:a<=800000)(d:xk t) :
  aa (G4 [.l l,.i a,.i t]) fun g=>∃b r,g=[.l l,.i b,.l [r]]/\a<=b/\b<=a+20/\NQ r:=by
 unfold xk at d;unfold G4
 (dsimp only[go_sem])
 refine aa.call (Dz 1 3 l a _ U ab aj aj) ?_;rintro _ ⟨m,rfl,hm⟩
 (dsimp only[go_sem])
 refine aa.call (lH kH l _ _ ab ab aj aj) ?_;rintro _ ⟨bd,rfl,q⟩
 (dsimp only[go_sem])
 refine aa.call (apu l _ ab ab) ?_;rintro _ ⟨c,rfl,hc⟩
 (dsimp only[go_sem])
 refine aa.call (Dz 0 7 l _ _ ab ab aj aj) ?_;rintro _ ⟨s,rfl,hs⟩
 (dsimp only[go_sem])
 refine aa.call (Dz 0 9 l _ _ ab ab aj aj) ?_;rintro _ ⟨h,rfl,hh⟩
 (dsimp only[go_sem])
 refine aa.call (lH names l _ _ ab ab aj aj) ?_;rintro _ ⟨x,rfl,A⟩
 (dsimp only[go_sem])
 refine aa.call (lH names l _ _ ab ab aj aj) ?_;rintro _ ⟨y,rfl,B⟩
 (dsimp only[go_sem])
 refine aa.call (Dy l _ 100 ab ab ab ab) ?_;rintro _ ⟨f,rfl⟩
 (dsimp only[go_sem])
 cases f with
 |false=>
  (repeat first|refine aa.p ?_|refine aa.n ?_);exact aa.some ⟨_,_,rfl,ab,ab,t,m,bd,c,s,h,x,y,rfl,d,⟨ab,ab⟩,⟨ab,ab⟩,⟨ab,ab⟩,q,hc,A,B⟩
 |true=>
  (repeat first|refine aa.p ?_|refine aa.n ?_);refine aa.call (z_ l _ 4 ab ab ab ab) ?_;rintro _ ⟨k,rfl,hk⟩
  (dsimp only[go_sem])
  by_cases F:k=0
  ·subst F
   (repeat first|refine aa.p ?_|refine aa.n ?_);refine aa.call (uS l _ 0 500 ab ab ab ab ab) ?_;rintro _ ⟨t',rfl,ht'⟩
   (dsimp only[go_sem])
   refine aa.call (uS l _ 1 3 ab ab ab ab ab) ?_;rintro _ ⟨m',rfl,hm'⟩
   (dsimp only[go_sem])
   exact aa.some ⟨_,_,rfl,ab,ab,t',m',bd,c,s,h,x,y,rfl,⟨ab,ab⟩,⟨ab,ab⟩,⟨ab,ab⟩,⟨ab,ab⟩,q,hc,A,B⟩
  ·refine aa.neg (by simpa using F) ?_
   by_cases I:k=1
   ·subst I
    (repeat first|refine aa.p ?_|refine aa.n ?_);refine aa.call (lH kH l _ _ ab ab aj aj) ?_;rintro _ ⟨W,rfl,M⟩
    (dsimp only[go_sem])
    exact aa.some ⟨_,_,rfl,ab,ab,t,m,W,c,s,h,x,y,rfl,d,⟨ab,ab⟩,⟨ab,ab⟩,⟨ab,ab⟩,M,hc,A,B⟩
   ·refine aa.neg (by simpa using I) ?_
    by_cases J:k=2
    ·subst J
     (repeat first|refine aa.p ?_|refine aa.n ?_);refine aa.call (uS l _ 0 99999 ab ab ab ab ab) ?_;rintro _ ⟨s',rfl,hs'⟩
     (dsimp only[go_sem])
     refine aa.call (uS l _ 0 99999 ab ab ab ab ab) ?_;rintro _ ⟨h',rfl,hh'⟩
     (dsimp only[go_sem])
     exact aa.some ⟨_,_,rfl,ab,ab,t,m,bd,c,s',h',x,y,rfl,d,⟨ab,ab⟩,⟨ab,ab⟩,⟨ab,ab⟩,q,hc,A,B⟩
    ·refine aa.neg (by simpa using J) ?_
     refine aa.call (lH names l _ _ ab ab aj aj) ?_;rintro _ ⟨Y,rfl,N⟩
     (dsimp only[go_sem])
     refine aa.call (lH names l _ _ ab ab aj aj) ?_;rintro _ ⟨y',rfl,O⟩
     (dsimp only[go_sem])
     exact aa.some ⟨_,_,rfl,ab,ab,t,m,bd,c,s,h,Y,y',rfl,d,⟨ab,ab⟩,⟨ab,ab⟩,⟨ab,ab⟩,q,hc,N,O⟩
def gh(a b:Int):Int:=if a<b then -1 else if b<a then 1 else 0
theorem Xv:∀{a b:List UInt8},iR a b=0->a=b
 |[],[],_=>rfl
 |[],_::_,h=>by simp[iR]at h
 |_::_,[],h=>by simp[iR]at h
 |x::a,y::b,h=>by
  unfold iR at h;split at h
  ·cases h
  ·split at h
   ·cases h
   ·rename_i d g
    rw[Xv h,aam (En.1 g) (En.1 d)]
theorem Xw:∀ a:List UInt8,iR a a=0
 |[]=>rfl
 |x::a=>by simp[iR,Xw a]
theorem xl(a b:BY):(a.toList==b.toList)=decide (eP a b=0):=by
 rw[Eo,Eo,jB,dT,beq_iff_eq];constructor
 grind[eP,Xw]
 ·exact fun h=>Xv h
def DA(a b c d:Int):Int:=if a≠0 then a else if b≠0 then b else if c≠0 then c else d
def fy(r s:LG):Int:=DA (gh (gi r 0).iV (gi s 0).iV) (eP (gi r 3).sV (gi s 3).sV) (eP (gi r 2).sV (gi s 2).sV) (gh (gi r 1).iV (gi s 1).iV)
theorem sign_eq(a b:Int):qX [.i (a-b)]=some [.i (gh a b)]:=by
 refine aa.toEq ?_;unfold qX gh
 (dsimp only[go_sem])
 by_cases d:a<b
 ·(repeat first|refine aa.p ?_|refine aa.n ?_)
  grind[aa.some]
 ·by_cases g:b<a
  ·(repeat first|refine aa.p ?_|refine aa.n ?_)
   grind[aa.some]
  ·(repeat first|refine aa.p ?_|refine aa.n ?_)
   grind[aa.some]
theorem Xx{s:LG}(hr:fp r)(hs:fp s):CZ [.l [r],.l [s]]=some [.i (fy r s)]:=by
 obtain⟨t,m,b,c,_,_,_,_,rfl,J,hm,_⟩:=hr;obtain⟨t',m',d,g,_,_,_,_,rfl,F,I,_⟩:=hs;unfold small at *;refine aa.toEq ?_;unfold CZ fy DA
 (dsimp only[go_sem])
 simp only[xl];by_cases B:t=t'
 ·subst B
  have z:gh t t=0:=by simp[gh]
  simp only[z];(repeat first|refine aa.p ?_|refine aa.n ?_);by_cases q:eP c g=0
  ·simp only[q]
   (repeat first|refine aa.p ?_|refine aa.n ?_);by_cases A:eP b d=0
   ·simp only[A]
    (repeat first|refine aa.p ?_|refine aa.n ?_);refine aa.cE (sign_eq m m') ?_
    (dsimp only[go_sem])
    exact aa.some ai
   ·refine aa.pos (by simpa using A) (aa.call (aa.eq (rfl:kF [.s b,.s d]=some [.i (eP b d)])) ?_)
    rintro _ rfl
    (dsimp only[go_sem])
    grind[aa.some]
  ·refine aa.pos (by simpa using q) (aa.call (aa.eq (rfl:kF [.s c,.s g]=some [.i (eP c g)])) ?_)
   rintro _ rfl
   (dsimp only[go_sem])
   grind[aa.some]
 ·(repeat first|refine aa.p ?_|refine aa.n ?_)
  refine aa.cE (sign_eq t t') ?_
  (dsimp only[go_sem])
  grind[gh,aa.some]
theorem DB(a b:Int):uM [.i a,.i b]=some [.i (gh a b)]:=by
 refine aa.toEq ?_;unfold uM Ha gh
 (dsimp only[go_sem])
 simp only[bne_self_eq_false];refine aa.call ⟨_,rfl,rfl⟩ ?_;rintro _ rfl;refine aa.call ⟨_,rfl,rfl⟩ ?_;rintro _ rfl
 (dsimp only[go_sem])
 (repeat first|refine aa.p ?_|refine aa.n ?_);by_cases d:a<b
 ·(repeat first|refine aa.p ?_|refine aa.n ?_)
  grind[aa.some]
 ·by_cases g:b<a
  ·(repeat first|refine aa.p ?_|refine aa.n ?_)
   grind[aa.some]
  ·(repeat first|refine aa.p ?_|refine aa.n ?_)
   grind[aa.some]
def oJ:LL->Int
 |[]=>0
 |x::q=>if (gi x 0).iV≠0 then (gi x 0).iV else oJ q
theorem II:∀(q p:LL),p.length+q.length<100000 ->
  dU zy [.i 0,.l (p++q),.i ((p.length+q.length:Nat):Int),.i (p.length:Int)] (q.length+1) fun c g=>c<=1/\g=[.i (oJ q)]
 |[],p,A=>by
  refine dU.stop (x:=1) (aa.toEq ?_) ⟨ab,rfl⟩;unfold zy
  (dsimp only[go_sem])
  (repeat first|refine aa.p ?_|refine aa.n ?_);exact aa.some rfl
 |y::q,p,A=>by
  simp only[cJ]at A;have B:(p++y::q).getD (p.length:Int).toNat []=y:=sw _ _ _ _ _ ai;have d:(p++y::q).length=p.length+q.length+1:=du;by_cases he:(gi y 0).iV=0
  ·have F:=II q (p++[y]) du
   have e:oJ (y::q)=oJ q:=by simp[oJ,he]
   rw[e];refine dU.next (aa.toEq ?_) F
   unfold zy
   (dsimp only[go_sem])
   simp only[B,d,cJ];(repeat first|refine aa.p ?_|refine aa.n ?_)
   grind[aa.some]
  ·refine dU.stop (x:=0) (aa.toEq ?_) ⟨ab,rfl⟩
   unfold zy
   (dsimp only[go_sem])
   simp only[B,d,cJ];(repeat first|refine aa.p ?_|refine aa.n ?_)
   grind[aa.some,oJ]
theorem or_eq(a b c d:Int):qZ [.l [[.i a],[.i b],[.i c],[.i d]]]=some [.i (DA a b c d)]:=by
 refine aa.toEq ?_;unfold qZ
 (dsimp only[go_sem])
 have h:=II [[.i a],[.i b],[.i c],[.i d]] [] ai;refine aa.loop (h.to ai) i_ ?_;rintro x g ⟨q,rfl⟩;have e:oJ [[.i a],[.i b],[.i c],[.i d]]=DA a b c d:=by
  simp only[oJ,DA]
  (dsimp only[go_sem])
  omega
 rw[e]
 (dsimp only[go_sem])
 simp_all[aa.some]
theorem Xy{s:LG}(hr:fp r)(hs:fp s):uN [.l [r],.l [s]]=some [.i (fy r s)]:=by
 obtain⟨t,m,b,c,_,_,_,_,rfl,B,hm,_⟩:=hr;obtain⟨t',m',d,g,_,_,_,_,rfl,q,A,_⟩:=hs;refine aa.toEq ?_;unfold uN
 (dsimp only[go_sem])
 refine aa.cE (DB t t') ?_;refine aa.cE (rfl:kF [.s c,.s g]=some [.i (eP c g)]) ?_;refine aa.cE (rfl:kF [.s b,.s d]=some [.i (eP b d)]) ?_;refine aa.cE (DB m m') ?_
 (dsimp only[go_sem])
 refine aa.cE (or_eq _ _ _ _) ?_;exact aa.some rfl
theorem apw:ox [.I,.I,.str,.str,.I,.I,.str,.str] uN fp fy:=⟨fun _ _ hr hs=>Xy hr hs,fun _ h=>h.eta⟩
def cC(v lo hi:Int):Bool:=cw lo v&&cw v hi
theorem NR(v lo hi:Int):oH [.i v,.i lo,.i hi]=some [.t (cC v lo hi)]:=by
 unfold oH cC
 (dsimp only[go_sem])
 grind
theorem rh(v lo hi:Int):pV [.i v,.i lo,.i hi]=some [.t (!cC v lo hi)]:=by
 unfold pV cC
 (dsimp only[go_sem])
 have d:ba v lo = !cw lo v:=by rw[dX,eh,jB]; simp
 have g:ba hi v = !cw v hi:=by rw[dX,eh,jB]; simp
 grind
def kI(s:BY):Bool:=sN [⟨#[98,50,48]⟩,⟨#[98,52,48]⟩,⟨#[102,105,110]⟩,⟨#[117,115,97]⟩] s
def oK(s:BY):Bool:=sN [⟨#[]⟩] s||kI s
def rj(s:BY):Bool:=(gi ((G8 [.s s]).getD []) 0).bV
theorem Xz(h:s∈kH\/s∈names):uL [.s s]=some [.t (kI s)]:=by
 simp only[kH,names,cy,ke,or_false]at h;rcases h with(rfl|rfl|rfl|rfl)|(rfl|rfl|rfl|rfl|rfl)<;>kernel_rfl
theorem IJ(h:s∈kH\/s∈names):sJ [.s s]=some [.t (kI s)]:=by
 simp only[kH,names,cy,ke,or_false]at h;rcases h with(rfl|rfl|rfl|rfl)|(rfl|rfl|rfl|rfl|rfl)<;>kernel_rfl
theorem XA(h:s∈names):G9 [.s s]=some [.t (oK s)]:=by
 simp only[names,cy,ke,or_false]at h;rcases h with(rfl|rfl|rfl|rfl|rfl)<;>kernel_rfl
theorem apx(h:s∈calls):G8 [.s s]=some [.t (rj s)]:=by
 simp only[calls,cy,ke,or_false]at h;rcases h with(rfl|rfl|rfl|rfl|rfl|rfl|rfl|rfl|rfl|rfl|rfl|rfl|rfl|rfl)<;>kernel_rfl
theorem apy(h:s∈calls):Na [.s s]=some [.t (rj s)]:=by
 simp only[calls,cy,ke,or_false]at h;rcases h with(rfl|rfl|rfl|rfl|rfl|rfl|rfl|rfl|rfl|rfl|rfl|rfl|rfl|rfl)<;>kernel_rfl
def fQ(r:LG):Int:=
 bif !cC (gi r 0).iV 0 345686399999 then 1 else bif !cC (gi r 1).iV 1 3 then 4 else bif !kI (gi r 2).sV then 5 else bif !rj (gi r 3).sV then 3 else
 bif !cC (gi r 4).iV 0 99999 then 1 else bif !cC (gi r 5).iV 0 99999 then 1 else bif !oK (gi r 6).sV then 5 else bif !oK (gi r 7).sV then 5 else 0
theorem XB(hr:fp r):wW [.l [r]]=some [.i (fQ r)]:=by
 obtain⟨t,m,b,c,s,h,x,y,rfl,_,_,_,_,d,hc,g,q⟩:=hr;unfold wW sF MO fQ
 (dsimp only[go_sem])
 have A:=Xz (.inl d);have B:=XA g;have ky:=XA q;have F:=apx hc;rw[rh t,rh m];rw[A,F,rh s,rh h,B,ky];generalize cC t 0 345686399999=I;generalize cC m 1 3=J;generalize kI b=M;generalize rj c=N;generalize cC s 0 99999=O;generalize cC h 0 99999=U;generalize oK x=W;generalize oK y=Y;cases I<;>cases J<;>cases M<;>cases N<;>cases O<;>cases U<;>cases W<;>cases Y<;>rfl
theorem empty_eq(s:BY):(s.toList==(⟨#[]⟩:BY).toList)=sN [⟨#[]⟩] s:=by
 rw[Eo,Eo];simp only[sN,zg,xV,List.any_nil,Bool.or_false];rw[jB];simp only[beq_iff_eq];exact eq_comm
theorem apz(hr:fp r):CU [.l [r]]=some [.i (fQ r)]:=by
 obtain⟨t,m,b,c,s,h,x,y,rfl,_,_,_,_,A,hc,B,F⟩:=hr;unfold CU uO fQ oK
 (dsimp only[go_sem])
 have I:=IJ (.inl A);have J:=IJ (.inr B);have ky:=IJ (.inr F);have M:=apy hc;have d:=empty_eq x;have g:=empty_eq y;generalize (⟨#[]⟩:BY)=z at d g|-;simp only[NR,B1 rfl,I,M,J,ky]
 (dsimp only[go_sem])
 rw[d,g];generalize cC t 0 345686399999=N;generalize cC m 1 3=O;generalize kI b=U;generalize rj c=W;generalize cC s 0 99999=Y;generalize cC h 0 99999=b6;generalize kI x=b7;generalize kI y=b8;generalize sN [z] x=b9;generalize sN [z] y=q;cases N<;>cases O<;>cases U<;>cases W<;>cases Y<;>cases b6<;>cases b7<;>cases b8<;>cases b9<;>cases q<;>rfl
def xm(K:List Kd)(C D:LG->Option LG)(d:LG):bk:=
 (bif (ba (gi d 3).iV (gi d 2).iV) then (bif ((eg (gi d 3).iV)&&(ba (gi d 3).iV (((gi d 1).rZ.length:Nat):Int))) then (az (C [.l [(bu K ((gi d 1).rZ.getD (((gi d 3).iV).toNat) []))]]) fun g=>(bif ((gi g 0).iV != 0) then some (some 0,[.i (gi g 0).iV]) else (bif (ba 0 (gi d 3).iV) then (bif (aM ((gi d 3).iV-1)) then (bif ((eg ((gi d 3).iV-1))&&(ba ((gi d 3).iV-1) (((gi d 0).rZ.length:Nat):Int))) then (az (D [.l [(bu K ((gi d 0).rZ.getD (((gi d 3).iV-1).toNat) []))],.l [(bu K ((gi d 1).rZ.getD (((gi d 3).iV).toNat) []))]]) fun q=>(bif (cw 0 (gi q 0).iV) then some (some 0,[.i 7]) else (bif (aM ((gi d 3).iV+1)) then some (none,[.l (gi d 0).rZ,.l (gi d 1).rZ,.i (gi d 2).iV,.i ((gi d 3).iV+1)]) else none))) else none) else none) else (bif (aM ((gi d 3).iV+1)) then some (none,[.l (gi d 0).rZ,.l (gi d 1).rZ,.i (gi d 2).iV,.i ((gi d 3).iV+1)]) else none)))) else none) else some (some 1,[]))
def XC(K:List Kd)(C D:LG->Option LG)(d:LG):Option LG:=
 (bif (ba 2000 (((gi d 0).rZ.length:Nat):Int)) then some [.i 2] else (bp true (bR (xm K C D) [.l (gi d 0).rZ,.l (gi d 0).rZ,.i (((gi d 0).rZ.length:Nat):Int),.i 0]) fun g q=>(bif aA g 0 then some [.i (gi q 0).iV] else some [.i 0])))
def ja:Option LG->LL->Int
 |_,[]=>0
 |none,x::q=>if fQ x≠0 then fQ x else ja (some x) q
 |some y,x::q=>if fQ x≠0 then fQ x else if 0<=fy y x then 7 else ja (some x) q
def uT(l:LL):Int:=if 2000<l.length then 2 else ja none l
section
variable {C D:LG->Option LG} (hC:∀r,fp r->C [.l [r]]=some [.i (fQ r)]) (hD:∀r s,fp r->fp s->D [.l [r],.l [s]]=some [.i (fy r s)])
include hC hD
theorem XD:∀(q p:LL),(∀z∈p++q,fp z)->p.length+q.length<100000 ->
  dU (xm [.I,.I,.str,.str,.I,.I,.str,.str] C D) [.l (p++q),.l (p++q),.i ((p.length+q.length:Nat):Int),.i (p.length:Int)] (q.length+1) fun c g=>(c=0/\g=[.i (ja p.getLast? q)])\/c=1/\ja p.getLast? q=0
 |[],p,J,U=>by
  refine dU.stop (x:=1) (d':=[]) (aa.toEq ?_) (.inr ⟨rfl,by unfold ja; rfl⟩);unfold xm
  (dsimp only[go_sem])
  (repeat first|refine aa.p ?_|refine aa.n ?_)
  grind[aa.some]
 |x::q,p,J,U=>by
  simp only[cJ]at U;have d:fp x:=J x ai;have M:(p++x::q).getD (p.length:Int).toNat []=x:=sw _ _ _ _ _ ai;have F:(p++x::q).length=p.length+q.length+1:=du;by_cases B:fQ x=0
  ·have O:=XD q (p++[x]) (by simpa using J) du
   rw[List.getLast?_concat]at O;rcases List.eq_nil_or_concat p with rfl|⟨A,y,rfl⟩
   ·have e:ja ([]:LL).getLast? (x::q)=ja (some x) q:=by simp[ja,B]
    rw[e];refine dU.next (aa.toEq ?_) O
    unfold xm
    (dsimp only[go_sem])
    simp only[M,F,cJ,d.eta];(repeat first|refine aa.p ?_|refine aa.n ?_);refine aa.cE (hC x d) ?_
    (dsimp only[go_sem])
    simp only[B];(repeat first|refine aa.p ?_|refine aa.n ?_)
    grind[aa.some]
   ·rw[List.concat_eq_append]at *
    have N:fp y:=J y ai;have W:((A++[y])++x::q).getD (((A++[y]).length:Int)-1).toNat []=y:=by
     have e:(A++[y])++x::q=A++y::x::q:=ai;rw[e]; simp
    have hp:(A++[y]).length=A.length+1:=ai;have Y:(A++[y]).getLast?=some y:=ai;rw[Y];by_cases ho:0<=fy y x
    ·refine dU.stop (x:=0) (d':=[.i 7]) (aa.toEq ?_) (.inl ⟨rfl,by simp[ja,B,ho]⟩)
     unfold xm
     (dsimp only[go_sem])
     simp only[M,W,F,cJ,d.eta,N.eta];(repeat first|refine aa.p ?_|refine aa.n ?_);refine aa.cE (hC x d) ?_
     (dsimp only[go_sem])
     simp only[B];(repeat first|refine aa.p ?_|refine aa.n ?_);refine aa.cE (hD y x N d) ?_
     (dsimp only[go_sem])
     (repeat first|refine aa.p ?_|refine aa.n ?_)
     grind[aa.some]
    ·have e:ja (some y) (x::q)=ja (some x) q:=by grind[ja]
     rw[e];refine dU.next (aa.toEq ?_) O
     unfold xm
     (dsimp only[go_sem])
     simp only[M,W,F,cJ,d.eta,N.eta];(repeat first|refine aa.p ?_|refine aa.n ?_);refine aa.cE (hC x d) ?_
     (dsimp only[go_sem])
     simp only[B];(repeat first|refine aa.p ?_|refine aa.n ?_);refine aa.cE (hD y x N d) ?_
     (dsimp only[go_sem])
     (repeat first|refine aa.p ?_|refine aa.n ?_);refine aa.some ?_;simp;omega
  ·refine dU.stop (x:=0) (d':=[.i (fQ x)]) (aa.toEq ?_) (.inl ⟨rfl,by cases hg:p.getLast?<;>simp[ja,B]⟩)
   unfold xm
   (dsimp only[go_sem])
   simp only[M,F,cJ,d.eta];(repeat first|refine aa.p ?_|refine aa.n ?_);refine aa.cE (hC x d) ?_
   (dsimp only[go_sem])
   simp_all[aa.pos,aa.some]
theorem apC(l:LL)(q:∀z∈l,fp z)(hn:l.length<100000):XC [.I,.I,.str,.str,.I,.I,.str,.str] C D [.l l]=some [.i (uT l)]:=by
 refine aa.toEq ?_;unfold XC uT
 (dsimp only[go_sem])
 by_cases h:2000<l.length
 ·(repeat first|refine aa.p ?_|refine aa.n ?_)
  grind[aa.some]
 ·(repeat first|refine aa.p ?_|refine aa.n ?_)
  have d:=XD hC hD l [] (by simpa using q) (by simpa using hn);have A:((0:Nat):Int)=0:=rfl;simp only[rF,fU,fC,A]at d;refine aa.loop (d.to ab) i_ ?_;rintro c g (⟨rfl,rfl⟩|⟨rfl,B⟩)
  ·(dsimp only[go_sem])
   (repeat first|refine aa.p ?_|refine aa.n ?_)
   grind[aa.some]
  ·(repeat first|refine aa.p ?_|refine aa.n ?_)
   simp_all[aa.some]
end
theorem apD(l:LL)(d:∀z∈l,fp z)(hn:l.length<100000):M9 [.l l]=some [.i (uT l)]:=
 apC (fun _ h=>XB h) (fun _ _ h h'=>Xy h h') l d hn
def zC:LG:=[.i 0,.i 0,.s (⟨#[]⟩:BY),.s (⟨#[]⟩:BY),.i 0,.i 0,.s (⟨#[]⟩:BY),.s (⟨#[]⟩:BY)]
def uU:LL->Bool
 |[]=>false
 |[_]=>false
 |x::y::q=>fy x y==0||uU (y::q)
def auI(m:LL):LG:=bif uU m then [.l [],.i 13] else bif Nat.blt 2000 m.length then [.l [],.i 2] else [.l m,.i 0]
end
end Go.Proofs.h_

namespace Go.Proofs.h_
open Go Go.AL Go.Proofs
variable {a b v:Int} {c r s:LG} {i:Nat} {m rZ:LL}
noncomputable section
theorem NS:∀{l:LL} {o:Option LG},ja o l=0->∀ x∈l,fQ x=0
 |[],_,_,x,d=>by cases d
 |y::l,none,h,x,d=>by
  simp only[ja]at h;by_cases g:fQ y=0
  ·rw[iN (by simpa using g)]at h
   rcases cy.1 d with rfl|d
   ·exact g
   ·exact NS h x d
  ·rw[iP g]at h
   exact(g h).elim
 |y::l,some z,h,x,d=>by
  simp only[ja]at h;by_cases g:fQ y=0
  ·rw[iN (by simpa using g)]at h
   split at h
   ·cases h
   ·rcases cy.1 d with rfl | d
    ·exact g
    ·exact NS h x d
  ·rw[iP g]at h
   exact(g h).elim
theorem apE{l:LL}(h:uT l=0):∀x∈l,fQ x=0:=by
 unfold uT at h;split at h
 ·cases h
 ·exact NS h
structure auJ (s:LL × LL) (i:Nat):Prop where
 l1:s.1.length<=i
 l2:s.2.length<=i
 r1:∀r∈s.1,∃a b,r=[.i a,.i b]/\0<=b/\b<=i+1
 r2:∀r∈s.2,∃a,r=[.i a]
def Ai(r:LG):Prop:=∃(t m:Int) (b c:BY) (s h:Int) (x y:BY),r=[.i t,.i m,.s b,.s c,.i s,.i h,.s x,.s y]
theorem fp.row(h:fp r):Ai r:=by
 obtain⟨t,m,b,c,s,h,x,y,e,_⟩:=h;exact⟨t,m,b,c,s,h,x,y,e⟩
theorem Ai.eta(h:Ai r):bu [.I,.I,.str,.str,.I,.I,.str,.str] r=r:=by
 obtain⟨t,m,b,c,s,h,x,y,rfl⟩:=h;rfl
theorem Ai.put(h:Ai r)(n:Int):Ai (iW [.I,.I,.str,.str,.I,.I,.str,.str] r 4 [.i n]):=by
 obtain⟨t,m,b,c,s,h,x,y,rfl⟩:=h;exact⟨t,m,b,c,n,h,x,y,rfl⟩
def uV(s:BY):BY:=(gi ((HF [.s s]).getD []) 0).sV
theorem apF{s:BY}(h:s∈calls):HF [.s s]=some [.s (uV s)]:=by
 simp only[calls,cy,ke,or_false]at h;rcases h with(rfl|rfl|rfl|rfl|rfl|rfl|rfl|rfl|rfl|rfl|rfl|rfl|rfl|rfl)<;>kernel_rfl
theorem XE{s:BY}(h:s∈calls):Ih [.s s]=some [.s (uV s)]:=by
 simp only[calls,cy,ke,or_false]at h;rcases h with(rfl|rfl|rfl|rfl|rfl|rfl|rfl|rfl|rfl|rfl|rfl|rfl|rfl|rfl)<;>kernel_rfl
abbrev K3:List Kd:=[.str,.str,.I]
def wk(y:LG):LG:=[.s (uV (gi y 3).sV),.s (gi y 2).sV,.i (gi y 1).iV]
def pZ(l:LL)(i:Nat):Bool:=(l.take i).any fun y=>aK K3 (wk (l.getD i [])) (wk y)
def l_(l:LL):Nat->LL
 |0=>[]
 |i+1=>l_ l i++bif pZ l i then [[.i (i:Int)]] else []
theorem IK(l:LL):∀ i,(l_ l i).length<=i
 |0=>bl _
 |i+1=>by
  have:=IK l i;simp only[l_,eL];cases pZ l i<;>simp<;>omega
theorem apG(l:LL)(hC:∀z∈l,fp z)(hn:l.length<90000):HG [.l l]=some [.l (l_ l l.length)]:=by
 refine aa.toEq ?_;unfold HG
 (dsimp only[go_sem])
 have r:=ga (st:=CT) (σ:=LL × Nat × LL) (fun s i=>[.l s.1,.i (s.2.1:Int),.l s.2.2,.l l,.i (l.length:Int),.i (i:Int)]) l (fun s=>(0,[.l s.2.2]))
  (fun s i=>(∀key,(gi (da K3 s.1 key [.t false]) 0).bV=(l.take i).any fun y=>aK K3 key (wk y))/\s.2.2=l_ l i) ([],0,[]) ab ⟨fun key=>by simp[y8]; rfl,rfl⟩
  (fun s i x F hi I hm J=>by
   obtain⟨hs,q⟩:=F;have hc:(gi x 3).sV∈calls:=by
    obtain⟨t,m,b,c,s,h,N,O,rfl,_,_,_,_,_,hc,_⟩:=hC x hm;exact hc
   have M:=IK l i;rw[<-q]at M;have d:(gi (da K3 s.1 [.s (uV (gi x 3).sV),.s (gi x 2).sV,.i (gi x 1).iV] [.t false]) 0).bV=pZ l i:=by
    rw[hs];unfold pZ;rw[I];rfl
   unfold CT
   (dsimp only[go_sem])
   simp only[aZ,I];refine aa.p (aa.p ?_);refine aa.cE (apF hc) ?_
   (dsimp only[go_sem])
   have B:∀key,(gi (da K3 (cH K3 s.1 (wk x) [.t true] s.2.1) key [.t false]) 0).bV=(l.take (i+1)).any fun y=>aK K3 key (wk y):=fun key=>by
    rw[pR,J,List.any_append,<-hs key];cases d:aK K3 key (wk x)<;>simp[d,Aa,Ag]
   refine aa.test (fun h=>?_) fun h=>?_
   ·have A:pZ l i=true:=d ▸ h
    (repeat first|refine aa.p ?_|refine aa.n ?_);exact aa.some ⟨(cH K3 s.1 (wk x) [.t true] s.2.1,dI K3 s.1 (wk x) s.2.1,s.2.2++[[.i (i:Int)]]),rfl,B,by simp only[l_,A,q,cT]⟩
   ·have A:pZ l i=false:=d ▸ h
    (repeat first|refine aa.p ?_|refine aa.n ?_);exact aa.some ⟨(cH K3 s.1 (wk x) [.t true] s.2.1,dI K3 s.1 (wk x) s.2.1,s.2.2),rfl,B,by simp only[l_,A,q,cF,kL]⟩)
  (fun s F=>by
   unfold CT
   (dsimp only[go_sem])
   (repeat first|refine aa.p ?_|refine aa.n ?_);exact aa.some rfl)
 refine aa.loop r rfl ?_;rintro c g ⟨⟨m,k,out⟩,⟨_,rfl⟩,rfl,rfl⟩
 (dsimp only[go_sem])
 (repeat first|refine aa.p ?_|refine aa.n ?_);exact aa.some rfl
theorem apH{o:LG}(d:fp o)(hc:fp c):C7 [.l [o],.l [c]]=some [.t (aK K3 (wk c) (wk o))]:=by
 have g:(gi o 3).sV∈calls:=by
  obtain⟨t,m,b,c,s,h,q,A,rfl,_,_,_,_,_,hc,_⟩:=d;exact hc
 have B:(gi c 3).sV∈calls:=by
  obtain⟨t,m,b,c,s,h,q,A,rfl,_,_,_,_,_,hc,_⟩:=hc;exact hc
 have e:aK K3 (wk c) (wk o)=((uV (gi o 3).sV).toList==(uV (gi c 3).sV).toList&&((gi o 2).sV.toList==(gi c 2).sV.toList&&((gi o 1).iV==(gi c 1).iV&&true))):=by
  rw[l7];rfl
 unfold C7
 (dsimp only[go_sem])
 rw[XE g,XE B,e];simp only[B1 rfl]
 (dsimp only[go_sem])
 cases (uV (gi o 3).sV).toList==(uV (gi c 3).sV).toList<;>cases (gi o 2).sV.toList==(gi c 2).sV.toList<;>cases (gi o 1).iV==(gi c 1).iV<;>rfl
theorem apI(hc:fp c):GB [.I,.I,.str,.str,.I,.I,.str,.str] C7 (fun g=>.l [bu [.I,.I,.str,.str,.I,.I,.str,.str] g.rV]) (.l [c]) fp (fun o=>aK K3 (wk c) (wk o)):=
 ⟨fun _ d=>apH d hc,fun _ h=>h.eta,by rw[Ac,hc.eta]⟩
theorem apJ(l:LL)(d:∀z∈l,fp z)(hc:fp c)(hn:l.length<100000):Ii [.l l,.l [c]]=some [.t (l.any fun o=>aK K3 (wk c) (wk o))]:=by
 refine aa.toEq ?_;unfold Ii
 (dsimp only[go_sem])
 rw[hc.eta];refine aa.call (P:=fun g=>g=[.i (gi g 0).iV]/\cw 0 (gi g 0).iV=l.any fun o=>aK K3 (wk c) (wk o)) ?_ ?_
 ·refine aa.mono (Tw (Z:=zC) (apI hc) l d hn:aa (Nr [.l l,.l [c]]) _) ?_
  rintro g (⟨F,x,I,q,J,A,rfl⟩|⟨h,rfl⟩)
  ·refine⟨rfl,?_⟩
   rw[q];simp[eh,A,Aa,Ae]
  ·refine⟨rfl,?_⟩
   have:(l.any fun o=>aK K3 (wk c) (wk o))=false:=by
    rw[List.any_eq_false];intro y B;rw[h y B];simp
   rw[this];rfl
 ·rintro g ⟨_,h⟩
  rw[<-h];exact aa.some rfl
theorem apK(l:LL)(hC:∀z∈l,fp z)(hn:l.length<90000):C9 [.l l]=some [.l (l_ l l.length)]:=by
 refine aa.toEq ?_;unfold C9
 (dsimp only[go_sem])
 have r:=ga (st:=C8) (σ:=LL) (fun s i=>[.l s,.l l,.l l,.i (l.length:Int),.i (i:Int)]) l (fun s=>(0,[.l s]))
  (fun s i=>s=l_ l i) [] ab rfl
  (fun s i x d hi q hm I=>by
   have B:=IK l i;rw[<-d]at B;have hc:=hC x hm;unfold C8
   (dsimp only[go_sem])
   simp only[aZ,q,hc.eta];refine aa.p (aa.p (aa.p ?_));refine aa.cE (apJ (l.take i) (fun z F=>hC z (D3 F)) hc du) ?_
   (dsimp only[go_sem])
   refine aa.test (fun h=>?_) fun h=>?_
   ·have A:pZ l i=true:=by unfold pZ; rw[q]; exact h
    (repeat first|refine aa.p ?_|refine aa.n ?_);exact aa.some ⟨s++[[.i (i:Int)]],rfl,by simp only[l_,A,d,cT]⟩
   ·have A:pZ l i=false:=by unfold pZ; rw[q]; exact h
    (repeat first|refine aa.p ?_|refine aa.n ?_);exact aa.some ⟨s,rfl,by simp only[l_,A,d,cF,kL]⟩)
  (fun s J=>by
   unfold C8
   (dsimp only[go_sem])
   (repeat first|refine aa.p ?_|refine aa.n ?_);exact aa.some rfl)
 refine aa.loop r rfl ?_;rintro c g ⟨s,rfl,rfl,rfl⟩
 (dsimp only[go_sem])
 (repeat first|refine aa.p ?_|refine aa.n ?_);exact aa.some rfl
def has(a b t:Int):Bool:=cw a t&&ba t b
structure auK (s:LL × Int) (i:Nat):Prop where
 len:s.1.length<=i
 rZ:∀r∈s.1,∃a b,r=[.i a,.i b]
 at0:0<=s.2
 at1:s.2<=345686400000
structure auN (s:LL) (n i:Nat):Prop where
 len:s.length=n
 rZ:∀r∈s,∃v,r=[.i v]/\0<=v/\v<=i
theorem XF:∀ a b:List UInt8,iR b a = - iR a b
 |[],[]=>rfl
 |[],_::_=>rfl
 |_::_,[]=>rfl
 |a::d,b::g=>by
  simp only[iR];have q:=XF d g
  grind
theorem XG:∀{a b c:List UInt8},iR a b<0->iR b c<0->iR a c<0
 |[],[],_,h,_=>by simp[iR]at h
 |[],_::_,[],_,h=>by simp[iR]at h
 |[],_::_,_::_,_,_=>by simp[iR]
 |_::_,[],_,h,_=>by simp[iR]at h
 |_::_,_::_,[],_,h=>by simp[iR]at h
 |a::I,b::J,c::M,d,g=>by
  simp only[iR]at d g|-;by_cases q:a<b
  grind
  ·by_cases A:b<a
   grind
   ·have e:a=b:=aam (En.1 A) (En.1 q)
    subst e;rw[iN (at5 a),iN (at5 a)]at d;by_cases B:a<c
    grind
    ·by_cases F:c<a
     grind
     ·rw[iN B,iN F]at g |-
      exact XG d g
theorem apL{a b:BY}(h:(a.toList==b.toList)=true):a=b:=by
 rw[Eo,Eo,beq_iff_eq]at h;exact ByteArray.ext (Array.toList_inj.1 h)
theorem DC{a b:BY}:eP a b=0↔a=b:=by
 have h:=xl a b;constructor
 grind[apL]
 grind
theorem apM:gh a b=0↔a=b:=by
 unfold gh;constructor
 ·intro h
  split at h
  ·omega
  ·split at h<;>omega
 ·rintro rfl
  simp
theorem NT:gh a b<0↔a<b:=by
 unfold gh;constructor
 ·intro h
  split at h
  ·assumption
  ·split at h<;>omega
 ·intro h
  rw[iP h];omega
theorem IL(a b:BY):(a.toList==b.toList)=decide (a=b):=by
 rw[xl,jB,dT,dT];exact DC
structure xn {α:Type} (c:α->α->Int):Prop where
 flip:∀a b,c b a=- c a b
 eq:∀a b,c a b=0->a=b
 tr:∀a b d,c a b<0->c b d<0->c a d<0
theorem mP:xn gh:=⟨fun a b=>by unfold gh; split<;>split<;>first|omega|(split<;>omega)|skip,fun a b h=>apM.1 h,fun a b d g q=>NT.2 (Int.lt_trans (NT.1 g) (NT.1 q))⟩
theorem jb:xn eP:=⟨fun a b=>XF _ _,fun a b h=>DC.1 h,fun a b d g q=>XG g q⟩
theorem xn.le{α:Type}{c:α->α->Int}(h:xn c)(a b d:α)(g:c a b<=0)(q:c b d<=0):c a d<=0:=by
 by_cases A:c a b=0
 ·rw[h.eq a b A]
  exact q
 ·by_cases B:c b d=0
  ·rw[<- h.eq b d B]
   exact g
  ·have:=h.tr a b d ab ab
   omega
theorem xn.refl{α:Type}{c:α->α->Int}(h:xn c)(a:α):c a a=0:=by
 have:=h.flip a a;omega
def iL(a b:Int):Int:=if a≠0 then a else b
theorem IM{α:Type}{c:α->α->Int}(h:xn c)(a b d:α)(x y z:Int)(A:iL (c a b) x<=0)(g:iL (c b d) y<=0)(F:x<=0->y<=0->z<=0):iL (c a d) z<=0:=by
 unfold iL at *;by_cases B:c a b=0
 ·have e:=h.eq a b B
  subst e;rw[iN (by simpa using B)]at A;by_cases q:c a d=0
  ·rw[iN (by simpa using q)]at g |-
   exact F A g
  ·rw[iP q]at g |-
   exact g
 ·rw[iP B]at A
  by_cases q:c b d=0
  ·have e:=h.eq b d q
   subst e;rw[iP B];exact A
  ·rw[iP q]at g
   have:=h.tr a b d ab ab;rw[iP ab];omega
theorem Aj{d g:Int}(q:d=- a)(A:g=- b):iL d g=- iL a b:=by
 unfold iL;subst q A;by_cases e:a=0
 ·subst e
  simp
 ·rw[iP e,iP ab]
theorem NU{c:LG->LG->Int}(g:∀a b,c b a=- c a b)(q:∀a b d,c a b<=0->c b d<=0->c a d<=0):ir (cR c) (fun _=>True):=by
 have lt:∀r s,cR c r s=decide (c r s<0):=fun r s=>by unfold cR; rw[dX]
 refine⟨fun a b d _ _ _ A B=>?_,fun a b _ _ h=>?_⟩<;>grind
def NV:List BY:=[⟨#[97,108,108]⟩,⟨#[99,111,100,101]⟩,⟨#[65]⟩]
def apO:List BY:=[⟨#[]⟩,⟨#[107,112,50,48,108,102]⟩,⟨#[107,112,50,48]⟩]
def XH(r:LG):Prop:=∃(c k:BY) (p:Int) (q:BY),r=[.s c,.s k,.i p,.s q]/\c∈calls/\k∈NV/\-1099511627776<=p/\p<=1099511627776/\q∈apO
theorem XH.eta(h:XH r):bu [.str,.str,.I,.str] r=r:=by
 obtain⟨c,k,p,q,rfl,_⟩:=h;rfl
def two:LL:=[[.s (⟨#[97,108,108]⟩:BY)],[.s (⟨#[99,111,100,101]⟩:BY)]]
def XI(r:LG):Prop:=∃(t:Int) (c k:BY) (p:Int),r=[.i t,.s c,.s k,.i p]/\small t/\c∈calls/\k∈NV/\-1099511627776<=p/\p<=1099511627776
theorem XI.eta(h:XI r):bu [.I,.str,.str,.I] r=r:=by
 obtain⟨t,c,k,p,rfl,_⟩:=h;rfl
def Rec(v:LG):Prop:=∃(c s:BY) (p d:Int),v=[.s c,.s s,.i p,.i d]/\c∈NV
theorem Rec.eta{v:LG}(h:Rec v):bu [.str,.str,.I,.I] v=[.s (gi v 0).sV,.s (gi v 1).sV,.i (gi v 2).iV,.i (gi v 3).iV]\/True:=.inr trivial
theorem XJ(s:BY)(r:LG):aK [.str] [.s s] (gi r 0).rV=decide (s=jH r):=by
 simp only[aK,nV,List.headD_cons,fJ,G.sV];exact IL s _
theorem IN(s:BY):∀ m:LL,b_ [.str] m [.s s]=true↔s∈m.map jH
 |[]=>by simp[pP]
 |r::rs=>by
  rw[pQ,XJ,lQ,IN s rs,dT,eU,cy]
theorem NW(s:BY)(v:LG)(k:Nat):∀m:LL,
  (cH [.str] m [.s s] v k).map jH=(bif b_ [.str] m [.s s] then m.map jH else m.map jH++[s]) /\
  (cH [.str] m [.s s] v k).map cP=(bif b_ [.str] m [.s s] then m.map cP else m.map cP++[k]) /\
  ∀e∈cH [.str] m [.s s] v k,e∈m\/∃z:Int,e=[.l [[.s s]],.l [v],.i z]/\((∃r∈m,z=(gi r 2).iV)\/(z=k/\b_ [.str] m [.s s]=false))
 |[]=>by
  rw[y_,pP];refine⟨rfl,by simp[cP,gi,G.iV],fun e he=>.inr ⟨k,ij.1 he,.inr ⟨rfl,rfl⟩⟩⟩
 |r::rs=>by
  obtain⟨g,A,B⟩:=NW s v k rs;rw[za,pQ,XJ];by_cases hs:s=jH r
  ·rw[dE hs,cT,Bool.true_or,cT,cT]
   refine⟨?_,?_,fun e he=>?_⟩
   ·simp only[eU]
    rw[<-hs];rfl
   ·rfl
   ·rcases cy.1 he with rfl | he
    ·exact .inr ⟨_,rfl,.inl ⟨r,dG,rfl⟩⟩
    ·exact .inl (cO _ he)
  ·rw[decide_eq_false hs,cF,jR]
   refine⟨?_,?_,fun e he=>?_⟩
   ·rw[eU,g]
    cases b_ [.str] rs [.s s]<;>rfl
   ·rw[eU,A]
    cases b_ [.str] rs [.s s]<;>rfl
   ·rcases cy.1 he with rfl | he
    ·exact .inl dG
    ·rcases B e he with h | ⟨z,rfl,⟨q,d,rfl⟩ | ⟨rfl,d⟩⟩
     ·exact .inl (cO _ h)
     ·exact .inr ⟨_,rfl,.inl ⟨q,cO _ d,rfl⟩⟩
     ·exact .inr ⟨_,rfl,.inr ⟨rfl,d⟩⟩
structure NX (m:LL) (k:Nat):Prop where
 form:∀e∈m,∃(v:LG) (n:Nat),e=[.l [[.s (gi v 0).sV]],.l [v],.i (n:Int)]/\n<k/\Rec v
 born:(m.map cP).Nodup
 keys:(m.map jH).Nodup
theorem NX.put{k:Nat}(h:NX m k){v:LG}(q:Rec v):NX (cH [.str] m [.s (gi v 0).sV] v k) (dI [.str] m [.s (gi v 0).sV] k):=by
 obtain⟨B,F,I⟩:=NW (gi v 0).sV v k m;have A:∀n∈m.map cP,n<k:=fun n hn=>by
  obtain⟨e,he,rfl⟩:=List.mem_map.1 hn;obtain⟨w,n,rfl,hn,_⟩:=h.form e he;exact hn
 refine⟨fun e he=>?_,?_,?_⟩
 ·unfold dI
  rcases I e he with he|⟨z,rfl,⟨r,hr,rfl⟩|⟨rfl,J⟩⟩
  ·obtain⟨w,n,M,hn,N⟩:=h.form e he
   refine⟨w,n,M,?_,N⟩;cases b_ [.str] m [.s (gi v 0).sV]
   ·exact rH hn
   ·exact hn
  ·obtain⟨w,n,rfl,hn,_⟩:=h.form r hr
   refine⟨v,n,rfl,?_,q⟩;cases b_ [.str] m [.s (gi v 0).sV]
   ·exact rH hn
   ·exact hn
  ·rw[J]
   exact⟨v,k,rfl,Nat.lt_succ_self k,q⟩
 ·rw[F]
  cases b_ [.str] m [.s (gi v 0).sV]with
  |true=>exact h.born
  |false=>
   rw[cF,Ep];refine⟨h.born,ai,fun a g b d e=>?_⟩;rw[ij]at d;have:=A a g;omega
 ·rw[B]
  cases O:b_ [.str] m [.s (gi v 0).sV]with
  |true=>exact h.keys
  |false=>
   rw[cF,Ep];refine⟨h.keys,ai,fun a g b d e=>?_⟩;rw[ij]at d;have:b_ [.str] m [.s (gi v 0).sV]=true:=(IN _ m).2 (by rw[<-d,<-e]; exact g);rw[O]at this;cases this
theorem XK(key v:LG)(c:Nat):∀ rZ:LL,(cH [.str] rZ key v c).length<=rZ.length+1
 |[]=>by rw[y_]; simp
 |r::rs=>by
  rw[za];have:=XK key v c rs;cases aK [.str] key (gi r 0).rV<;>simp<;>omega
theorem NY:∀ l:List Nat,l.Nodup->nodupB l=true
 |[],_=>rfl
 |a::l,g=>by
  obtain⟨d,q⟩:=List.nodup_cons.1 g;simp only[nodupB,NY l q,fJ,Bool.not_eq_true'];cases hc:l.any (aA a)with
  |false=>rfl
  |true=>
   obtain⟨x,A,e⟩:=qo.1 hc;rw[Nat.eq_of_beq_eq_true e]at d;exact(d A).elim
theorem IP(m:LL):(pL m).Perm (m.map fun r=>[.s (jH r)]):=by
 unfold pL;have h:=((List.mergeSort_perm (m.map fun r=>(jH r).data.toList) leB).map fun d=>[G.s ⟨d.toArray⟩])
 rw[List.map_map]at h;exact h
theorem NZ:∀{a b:List UInt8},iR a b<0->a<b
 |[],[],h=>by simp[iR]at h
 |[],b::q,_=>List.nil_lt_cons b q
 |a::A,[],h=>by simp[iR]at h
 |a::A,b::q,h=>by
  simp only[iR]at h;rw[List.cons_lt_cons_iff];by_cases d:a<b
  ·exact .inl d
  ·rw[iN d]at h
   by_cases g:b<a
   ·rw[iP g]at h
    omega
   ·rw[iN g]at h
    exact .inr ⟨aam (En.1 g) (En.1 d),NZ h⟩
theorem apP(m:LL):(pL m).Pairwise fun a b=>¬ eP (gi b 0).sV (gi a 0).sV<0:=by
 have tr:∀a b c:List UInt8,leB a b=true->leB b c=true->leB a c=true:=fun a b c g d=>by simp only[leB,dT]at *; exact List.le_trans g d
 have to:∀a b:List UInt8,(leB a b||leB b a)=true:=fun a b=>by simp only[leB,lQ,dT]; exact List.le_total a b
 unfold pL;rw[List.pairwise_map];refine(List.pairwise_mergeSort tr to _).imp fun {a b} h d=>?_;simp only[leB,dT]at h;have q:iR b a<0:=d;exact List.not_lt.2 h (NZ q)
def gP:List BY:=[⟨#[]⟩,⟨#[115,97]⟩,⟨#[115,98]⟩,⟨#[115,99]⟩]
def mQ(si:BY)(no at_ kd t m:Int)(b c:BY)(s h:Int)(x y bd bP:BY)(ot:Int):LG:=
 [.s si,.i no,.i at_,.i kd,.i t,.i m,.s b,.s c,.i s,.i h,.s x,.s y,.s bd,.s bP,.i ot]
def uW(si:BY)(no at_ kd t m:Int)(b c:BY)(s h:Int)(x y bd bP:BY)(ot:Int):Prop:=
 si∈gP/\small no/\small at_/\small kd/\(small t/\small m/\b∈kH/\c∈calls/\small s/\small h/\x∈names/\y∈names)/\bd∈kH/\bP∈gP/\small ot
def bG(r:LG):Prop:=∃si no at_ kd t m b c s h x y bd bP ot,r=mQ si no at_ kd t m b c s h x y bd bP ot/\uW si no at_ kd t m b c s h x y bd bP ot
theorem bG.eta(h:bG r):bu aY r=r:=by
 obtain⟨_,_,_,_,_,_,_,_,_,_,_,_,_,_,_,rfl,_⟩:=h;rfl
section
variable {l out mm:LL} {a no at_ kd t m s h ot u v w:Int} {ck:Nat} {si b c x y bd bP:BY}
theorem apQ(hn:out.length<=1000) :
  sE [.l l,.i a,.l out,.l mm,.i (ck:Int),.s si,.i no,.i at_,.i kd,.i t,.i m,.s b,.s c,.i s,.i h,.s x,.s y,.s bd,.s bP,.i ot,.i u,.i v,.i w] =
   some (some 0,[.l l,.i a,.l (out++[mQ si no at_ kd t m b c s h x y bd bP ot]),.l mm,.i (ck:Int),.i u,.i v,.i w]):=by
 refine aa.toEq ?_;unfold sE
 (dsimp only[go_sem])
 simp only[aZ];(repeat first|refine aa.p ?_|refine aa.n ?_);exact aa.some rfl
theorem IQ{n:Int}(h:-1099511627776<=n/\(n<=1000000001\/n=1099511627776)):small n:=by
 unfold small;omega
theorem apR(ha:0<=a)(ha1:a<=800000)(hn:out.length<=1000)(W:uW si no at_ kd t m b c s h x y bd bP ot) :
  aa (uK [.l l,.i a,.l out,.l mm,.i (ck:Int),.s si,.i no,.i at_,.i kd,.i t,.i m,.s b,.s c,.i s,.i h,.s x,.s y,.s bd,.s bP,.i ot,.i u,.i v,.i w]) fun o=>
   ∃k,o.1=some k/\∃d r,o.2=[.l l,.i d,.l (out++[r]),.l mm,.i (ck:Int),.i u,.i v,.i w]/\a<=d/\d<=a+20/\bG r/\(gi r 2).iV=at_:=by
 obtain⟨I,J,F,M,A,N,O,U⟩:=W;have B:∀(d:Int) (si:BY) (no kd s:Int) (bd bP:BY) (ot:Int),a<=d->d<=a+20->uW si no at_ kd t m b c s h x y bd bP ot ->
   aa (bp ((aA out.length out.length)&&true) (fa (sE [.l l,.i d,.l out,.l mm,.i (ck:Int),.s si,.i no,.i at_,.i kd,.i t,.i m,.s b,.s c,.i s,.i h,.s x,.s y,.s bd,.s bP,.i ot,.i u,.i v,.i w])) fun cg10 q=>
    (bif ((aA (gi q 2).rZ.length (gi q 2).rZ.length)&&true) then (some (some 0,[G.l (gi q 0).rZ,G.i (gi q 1).iV,G.l (gi q 2).rZ,G.l (gi q 3).rZ,G.i (((gi q 4).iV.toNat:Nat):Int),G.i (gi q 5).iV,G.i (gi q 6).iV,G.i (gi q 7).iV]):bk) else none)) fun o=>
   ∃k,o.1=some k/\∃d r,o.2=[.l l,.i d,.l (out++[r]),.l mm,.i (ck:Int),.i u,.i v,.i w]/\a<=d/\d<=a+20/\bG r/\(gi r 2).iV=at_:=by
  intro d si no kd s bd bP ot h1 h2 W;refine aa.tail (P:=fun _ g=>g=[.l l,.i d,.l (out++[mQ si no at_ kd t m b c s h x y bd bP ot]),.l mm,.i (ck:Int),.i u,.i v,.i w]) ⟨_,apQ hn,0,rfl,rfl⟩ ai ?_;rintro _ _ rfl
  (dsimp only[go_sem])
  simp only[aZ];refine aa.pos ai (aa.some ⟨0,rfl,d,_,rfl,h1,h2,⟨_,_,_,_,_,_,_,_,_,_,_,_,_,_,_,rfl,W⟩,rfl⟩)
 unfold uK
 (dsimp only[go_sem])
 simp only[aZ];refine aa.call (Dy l a 100 ha ab ab ab) ?_;rintro _ ⟨f,rfl⟩
 (dsimp only[go_sem])
 refine aa.test (fun _=>?_) fun _=>B (a+1) _ _ _ _ _ _ _ ab ab ⟨I,J,F,M,A,N,O,U⟩;refine aa.call (z_ l _ 4 ab ab ab ab) ?_;rintro _ ⟨n,rfl,hn0,hn1⟩
 (dsimp only[go_sem])
 refine aa.test (fun _=>?_) fun _=>aa.test (fun _=>?_) fun _=>aa.test (fun _=>?_) fun _=>?_
 ·refine aa.call (lH gP l _ _ ab ab aj aj) ?_
  rintro _ ⟨si',rfl,Y⟩
  (dsimp only[go_sem])
  refine aa.call (uS l _ 1 9 ab ab ab ab ab) ?_;rintro _ ⟨no',rfl,hno⟩
  (dsimp only[go_sem])
  exact B (a+1+1+1+2) _ _ _ _ _ _ _ ab ab ⟨Y,IQ hno,F,M,A,N,O,U⟩
 ·refine aa.call (uS l _ 1 5 ab ab ab ab ab) ?_
  rintro _ ⟨kd',rfl,hkd⟩
  (dsimp only[go_sem])
  exact B (a+1+1+2) _ _ _ _ _ _ _ ab ab ⟨I,J,F,IQ hkd,A,N,O,U⟩
 ·refine aa.call (lH kH l _ _ ab ab aj aj) ?_
  rintro _ ⟨bd',rfl,hbd⟩
  (dsimp only[go_sem])
  refine aa.call (lH gP l _ _ ab ab aj aj) ?_;rintro _ ⟨of',rfl,hof⟩
  (dsimp only[go_sem])
  exact B (a+1+1+1+1) _ _ _ _ _ _ _ ab ab ⟨I,J,F,M,A,hbd,hof,U⟩
 ·refine aa.call (uS l _ 1 99999 ab ab ab ab ab) ?_
  rintro _ ⟨s',rfl,hs⟩
  (dsimp only[go_sem])
  refine aa.call (uS l _ 0 5 ab ab ab ab ab) ?_;rintro _ ⟨ot',rfl,hot⟩
  (dsimp only[go_sem])
  exact B (a+1+1+2+2) _ _ _ _ _ _ _ ab ab ⟨I,J,F,M,⟨A.1,A.2.1,A.2.2.1,A.2.2.2.1,IQ hs,A.2.2.2.2.2⟩,N,O,IQ hot⟩
end
def p9(mm:LL)(i:Int):Prop:=∀k,0<=(gi (da [Kd.str] mm k [.i 0]) 0).iV/\(gi (da [Kd.str] mm k [.i 0]) 0).iV<=i
theorem p9.nil:p9 [] 0:=fun k=>by
 rw[y8];simp[gi,G.iV]
theorem p9.put{mm:LL}{i:Int}(h:p9 mm i)(k:LG)(d:0<=v)(g:v<=i+1)(c:Nat):p9 (cH [Kd.str] mm k [.i v] c) (i+1):=fun x=>by
 rw[pR];cases aK [Kd.str] x k with
 |true=>exact⟨d,g⟩
 |false=>
  have:=h x;simp only[cF];omega
theorem XL(l out mm:LL)(a no at_ kd t m s h ot u v w i:Int)(ck:Nat)(si b c x y bd bP:BY)(f:Bool)(B:0<=a)(ha1:a<=800000)(hi0:0<=i)(hi:i<=1000)(W:p9 mm i)(Y:uW si no at_ kd t m b c s h x y bd bP ot) :
  aa (CM [.l l,.i a,.l out,.l mm,.i (ck:Int),.s si,.i no,.i at_,.i kd,.i t,.i m,.s b,.s c,.i s,.i h,.s x,.s y,.s bd,.s bP,.i ot,.i u,.i v,.i w,.t f]) fun o=>
   ∃k,o.1=some k/\∃A s' q g,o.2=[.l l,.i A,.l out,.l mm,.i (ck:Int),.s si,.i no,.i at_,.i kd,.i t,.i m,.s b,.s c,.i s',.i h,.s x,.s y,.s bd,.s q,.i g,.i u,.i v,.i w]/\a<=A/\A<=a+5/\uW si no at_ kd t m b c s' h x y bd q g:=by
 obtain⟨F,I,J,M,d,N,d7,d8⟩:=Y;have hsa:=W [.s (⟨#[115,97]⟩:BY)];unfold CM
 (dsimp only[go_sem])
 simp only[aZ];cases f with
 |true=>
  refine aa.pos rfl ?_;refine aa.call (Ah l a 1 7 B ab ab ab ab) ?_;rintro _ ⟨s',rfl,hs0,hs1⟩
  (dsimp only[go_sem])
  refine aa.pos ai (aa.some ⟨0,rfl,a+1,s',bP,ot,rfl,ab,ab,⟨F,I,J,M,⟨d.1,d.2.1,d.2.2.1,d.2.2.2.1,by unfold small; omega,d.2.2.2.2.2⟩,N,d7,d8⟩⟩)
 |false=>
  refine aa.neg rfl ?_;refine aa.call (lH gP l _ _ B ab aj aj) ?_;rintro _ ⟨q,rfl,U⟩
  (dsimp only[go_sem])
  refine aa.call (Ah l _ 1 _ ab ab (by split<;>omega) ab (by split<;>omega)) ?_;rintro _ ⟨g,rfl,hot0,O⟩
  (dsimp only[go_sem])
  have hot2:g<=1001:=by
   revert O
   split<;>intro _<;>omega
  refine aa.pos ai (aa.some ⟨0,rfl,a+1+1,s,q,g,rfl,ab,ab,⟨F,I,J,M,d,N,U,by unfold small; omega⟩⟩)
theorem apS:(⟨#[]⟩:BY)∈kH/\(⟨#[]⟩:BY)∈calls/\(⟨#[]⟩:BY)∈names/\(⟨#[]⟩:BY)∈gP:=by
 refine⟨?_,?_,?_,?_⟩<;>simp[kH,calls,names,gP]
theorem lJ:small 0:=by unfold small; omega
theorem apT(l out mm:LL)(a at_:Int)(ck n i:Nat)(ha:0<=a)(ha1:a<=700000)(hn:n<=20)(hi:i<n)(ho:out.length<=100)(ht0:0<=at_)(ht1:at_<=5*(i:Int))(hM:p9 mm i) :
  aa (zx [.l l,.i a,.l out,.l mm,.i (ck:Int),.i at_,.i (n:Int),.i (i:Int)]) fun o=>∃A r q B v,o=(none,[.l l,.i A,.l (out++[r]),.l q,.i ((B:Nat):Int),.i (at_+v),.i (n:Int),.i ((i:Int)+1)])/\a<=A/\A<=a+100/\bG r/\(gi r 2).iV=at_+v/\0<=v/\v<=5/\p9 q ((i:Int)+1):=by
 unfold zx
 (dsimp only[go_sem])
 simp only[aZ];refine aa.p ?_;refine aa.call (Dz 0 5 l a _ ha ab aj aj) ?_;rintro _ ⟨v,rfl,hv0,hv1⟩
 (dsimp only[go_sem])
 refine aa.p ?_;refine aa.call (lH gP l _ _ ab ab aj aj) ?_;rintro _ ⟨si,rfl,W⟩
 (dsimp only[go_sem])
 refine aa.call (Dz 1 5 l _ _ ab ab aj aj) ?_;rintro _ ⟨kd,rfl,hk0,hk1⟩
 (dsimp only[go_sem])
 have hs:=hM [.s si];have U:=hM.put [.s si] (v:=(gi (da [Kd.str] mm [.s si] [.i 0]) 0).iV+1) ab ab ck;generalize hmm:cH [Kd.str] mm [.s si] [.i ((gi (da [Kd.str] mm [.s si] [.i 0]) 0).iV+1)] ck=q at U|-;generalize dI [Kd.str] mm [.s si] ck=B;have hno:=U [.s si];generalize (gi (da [Kd.str] q [.s si] [.i 0]) 0).iV=no at hno|-;have Y:small no:=by unfold small; omega
 have sat:small (at_+v):=by unfold small; omega
 have skd:small kd:=by unfold small; omega
 obtain⟨N,ec,O,es⟩:=apS;refine aa.p ?_;have fin:∀(A t m s h ot:Int) (b c x y bd bP:BY),a<=A->A<=a+50->uW si no (at_+v) kd t m b c s h x y bd bP ot ->
   aa (bp ((aA out.length out.length)&&true) (fa (uK [.l l,.i A,.l out,.l q,.i (B:Int),.s si,.i no,.i (at_+v),.i kd,.i t,.i m,.s b,.s c,.i s,.i h,.s x,.s y,.s bd,.s bP,.i ot,.i (at_+v),.i (n:Int),.i (i:Int)])) fun cg20 F=>
    (bif (aM ((gi F 7).iV+1)) then (bif ((aA (gi F 2).rZ.length (gi F 2).rZ.length)&&true) then (some (none,[G.l (gi F 0).rZ,G.i (gi F 1).iV,G.l (gi F 2).rZ,G.l (gi F 3).rZ,G.i (((gi F 4).iV.toNat:Nat):Int),G.i (gi F 5).iV,G.i (gi F 6).iV,G.i ((gi F 7).iV+1)]):bk) else none) else none)) fun o=>
   ∃A r q B w,o=(none,[.l l,.i A,.l (out++[r]),.l q,.i ((B:Nat):Int),.i (at_+w),.i (n:Int),.i ((i:Int)+1)])/\a<=A/\A<=a+100/\bG r/\(gi r 2).iV=at_+w/\0<=w/\w<=5/\p9 q ((i:Int)+1):=by
  intro A t m s h ot b c x y bd bP h1 h2 hd;refine aa.tail (P:=fun _ g=>∃d r,g=[.l l,.i d,.l (out++[r]),.l q,.i (B:Int),.i (at_+v),.i (n:Int),.i (i:Int)]/\A<=d/\d<=A+20/\bG r/\(gi r 2).iV=at_+v) (apR ab ab ab hd) ai ?_;rintro _ _ ⟨d,r,rfl,q1,q2,M,q4⟩
  (dsimp only[go_sem])
  simp only[aZ];refine aa.p (aa.pos ai (aa.some ⟨d,r,q,B,v,rfl,ab,ab,M,q4,hv0,hv1,U⟩))
 refine aa.test (fun _=>?_) fun _=>aa.test (fun _=>?_) fun _=>aa.test (fun _=>?_) fun _=>?_
 ·refine aa.p ?_
  refine aa.call (Ah l _ _ _ ab ab (by split<;>omega) (by split<;>omega) ab) ?_;rintro _ ⟨t,rfl,ht2,ht3⟩
  (dsimp only[go_sem])
  have ht4:0<=t:=by
   revert ht2
   split<;>intro _<;>omega
  refine aa.call (apv l _ t ab ab (by unfold xk; omega)) ?_;rintro _ ⟨b0,r,rfl,q1,q2,M⟩;obtain⟨t',m,b,c,s,h,x,y,rfl,p1,p2,p3,p4,p5,p6,p7,p8⟩:=M.to
  (dsimp only[go_sem])
  exact fin b0 _ _ _ _ _ _ _ _ _ _ _ ab ab ⟨W,Y,sat,skd,⟨p1,p2,p5,p6,p3,p4,p7,p8⟩,N,es,lJ⟩
 ·refine aa.call (lH kH l _ _ ab ab aj aj) ?_
  rintro _ ⟨bd,rfl,hbd⟩
  (dsimp only[go_sem])
  exact fin (a+1+1+1+1) _ _ _ _ _ _ _ _ _ _ _ ab ab ⟨W,Y,sat,skd,⟨lJ,lJ,N,ec,lJ,lJ,O,O⟩,hbd,es,lJ⟩
 ·refine aa.tail (P:=fun _ g=>∃d s' I J,g=[.l l,.i d,.l out,.l q,.i (B:Int),.s si,.i no,.i (at_+v),.i kd,.i 0,.i 0,.s (⟨#[]⟩:BY),.s (⟨#[]⟩:BY),.i s',.i 0,.s (⟨#[]⟩:BY),.s (⟨#[]⟩:BY),.s (⟨#[]⟩:BY),.s I,.i J,.i (at_+v),.i (n:Int),.i (i:Int)] /\
   a+1+1+1<=d/\d<=a+1+1+1+5/\uW si no (at_+v) kd 0 0 ⟨#[]⟩ ⟨#[]⟩ s' 0 ⟨#[]⟩ ⟨#[]⟩ ⟨#[]⟩ I J) (XL l out q _ no (at_+v) kd 0 0 0 0 0 _ _ _ ((i:Int)+1) B si _ _ _ _ _ _ _ ab ab ab ab U ⟨W,Y,sat,skd,⟨lJ,lJ,N,ec,lJ,lJ,O,O⟩,N,es,lJ⟩) ai ?_
  rintro _ _ ⟨d,s',I,J,rfl,q1,q2,M⟩
  (dsimp only[go_sem])
  simp only[aZ];exact fin d _ _ _ _ _ _ _ _ _ _ _ ab ab M
 ·refine aa.tail (P:=fun _ g=>∃d s' I J,g=[.l l,.i d,.l out,.l q,.i (B:Int),.s si,.i no,.i (at_+v),.i kd,.i 0,.i 0,.s (⟨#[]⟩:BY),.s (⟨#[]⟩:BY),.i s',.i 0,.s (⟨#[]⟩:BY),.s (⟨#[]⟩:BY),.s (⟨#[]⟩:BY),.s I,.i J,.i (at_+v),.i (n:Int),.i (i:Int)] /\
   a+1+1+1<=d/\d<=a+1+1+1+5/\uW si no (at_+v) kd 0 0 ⟨#[]⟩ ⟨#[]⟩ s' 0 ⟨#[]⟩ ⟨#[]⟩ ⟨#[]⟩ I J) (XL l out q _ no (at_+v) kd 0 0 0 0 0 _ _ _ ((i:Int)+1) B si _ _ _ _ _ _ _ ab ab ab ab U ⟨W,Y,sat,skd,⟨lJ,lJ,N,ec,lJ,lJ,O,O⟩,N,es,lJ⟩) ai ?_
  rintro _ _ ⟨d,s',I,J,rfl,q1,q2,M⟩
  (dsimp only[go_sem])
  simp only[aZ];exact fin d _ _ _ _ _ _ _ _ _ _ _ ab ab M
def N0(z:LG):Prop:=bG z/\0<=(gi z 2).iV/\(gi z 2).iV<=100
theorem XM(l:LL)(n:Nat)(hn:n<=20):∀(k i:Nat) (a t:Int) (ck:Nat) (d mm:LL),i+k=n->0<=a->a+100*(k:Int)<=700000->0<=t->t<=5*(i:Int)->(∀z∈d,N0 z)->d.length=i->p9 mm i ->
  dU zx [.l l,.i a,.l d,.l mm,.i (ck:Int),.i t,.i (n:Int),.i (i:Int)] (k+1) fun c g=>c=0/\∃b rZ,g=[.l l,.i b,.l rZ]/\a<=b/\b<=a+100*k/\(∀z∈rZ,N0 z)/\rZ.length=n
 |0,i,a,t,ck,d,mm,hi,F,U,I,B,A,J,M=>by
  refine dU.stop (x:=0) (aa.toEq ?_) ⟨rfl,a,d,rfl,ab,ab,A,ab⟩;unfold zx
  (dsimp only[go_sem])
  (repeat first|refine aa.p ?_|refine aa.n ?_);exact aa.some rfl
 |k+1,i,a,t,ck,d,mm,hi,F,U,I,B,A,J,M=>by
  obtain⟨_,h,b,r,N,O,v,rfl,h1,h2,W,h7,h4,h5,Y⟩:=apT l d mm a t ck n i F ab hn ab ab I B M;have ih:=XM l n hn k (i+1) b (t+v) O (d++[r]) N ab ab ab ab ab (by
   intro z q;rcases List.mem_append.1 q with q|q
   ·exact A z q
   ·simp at q; exact q▸⟨W,ab,ab⟩) (by simp[J]) (by simpa using Y)
  refine dU.next h (ih.mono ?_)
  rintro c g ⟨rfl,b',rZ,rfl,q1,q2,q3,q4⟩;exact⟨rfl,b',rZ,rfl,ab,ab,q3,q4⟩
def iM(r s:LG):Int:=if (gi r 2).iV≠(gi s 2).iV then gh (gi r 2).iV (gi s 2).iV else if eP (gi r 0).sV (gi s 0).sV≠0 then eP (gi r 0).sV (gi s 0).sV else gh (gi r 1).iV (gi s 1).iV
theorem XN(hr:bG r)(hs:bG s):zw [.l [r],.l [s]]=some [.i (iM r s)]:=by
 obtain⟨si,no,at_,_,_,_,_,_,_,_,_,_,_,_,_,rfl,_,hn,J,_⟩:=hr;obtain⟨d,B,q,_,_,_,_,_,_,_,_,_,_,_,_,rfl,_,F,I,_⟩:=hs;unfold small at *;refine aa.toEq ?_;unfold zw iM mQ
 (dsimp only[go_sem])
 simp only[xl];by_cases A:at_=q
 ·subst A
  by_cases g:eP si d=0
  ·simp only[g]
   (repeat first|refine aa.p ?_|refine aa.n ?_);refine aa.cE (sign_eq no B) ?_
   (dsimp only[go_sem])
   exact aa.some ai
  ·refine aa.neg ai (aa.pos (by simp[g]) ?_)
   refine aa.cE (rfl:kF [.s si,.s d]=some [.i (eP si d)]) ?_
   (dsimp only[go_sem])
   exact aa.some (by simp[g])
 ·(repeat first|refine aa.p ?_|refine aa.n ?_)
  refine aa.cE (sign_eq at_ q) ?_
  (dsimp only[go_sem])
  exact aa.some (by simp[A])
theorem apU:ox aY zw bG iM:=⟨fun _ _ hr hs=>XN hr hs,fun _ h=>h.eta⟩
theorem apV(rZ:LL)(hr:∀y∈rZ,bG y)(hn:rZ.length<=20):MN [.l rZ]=some [.l (gO (cR iM) rZ)]:=afc apU rZ hr hn
theorem apW(l:LL)(a n:Int)(A:0<=a)(I:a<=600000)(B:0<=n)(J:n<=20) :
  aa (CN [.l l,.i a,.i n]) fun g=>∃b rZ,g=[.l l,.i b,.l rZ]/\a<=b/\b<=a+2000/\(∀z∈rZ,N0 z)/\(rZ.length:Int)<=n:=by
 obtain⟨n,rfl⟩:=Int.eq_ofNat_of_zero_le B;unfold CN
 (dsimp only[go_sem])
 refine aa.loop ((XM l n ab n 0 a 0 0 [] [] ab A ab ab ab ai rfl (by simpa using p9.nil)).to ab) rfl ?_;rintro c g ⟨rfl,b,rZ,rfl,M,N,d,O⟩
 (dsimp only[go_sem])
 have hs:=Mh (lt:=cR iM) d;have q:=uF (cR iM) rZ;refine aa.iy (aa.eq (apV rZ (fun z F=>(d z F).1) ab)) i_ ?_;rintro _ rfl
 (dsimp only[go_sem])
 exact aa.pos (by simp[q]) (aa.some ⟨b,_,rfl,ab,ab,hs,ab⟩)
theorem apX(l:LL)(a n:Int)(q:0<=a)(d:a<=600000)(A:0<=n)(B:n<=20) :
  aa (CN [.l l,.i a,.i n]) fun g=>∃b rZ,g=[.l l,.i b,.l rZ]/\a<=b/\b<=a+2000/\(∀z∈rZ,bG z)/\(rZ.length:Int)<=n:=
 (apW l a n q d A B).mono fun _ ⟨b,rZ,e,F,I,J,M⟩=>⟨b,rZ,e,F,I,fun z N=>(J z N).1,M⟩
def nu(s:BY):Bool:=sN [⟨#[115,97]⟩,⟨#[115,98]⟩,⟨#[115,99]⟩] s
theorem XO{s:BY}(h:s∈gP):uL [.s s]=some [.t (nu s)]:=by
 simp only[gP,cy,ke,or_false]at h;rcases h with rfl|rfl|rfl|rfl<;>kernel_rfl
theorem XP{s:BY}(h:s∈gP):sJ [.s s]=some [.t (nu s)]:=by
 simp only[gP,cy,ke,or_false]at h;rcases h with rfl|rfl|rfl|rfl<;>kernel_rfl
def ma(r:LG):LG:=[.i (gi r 4).iV,.i (gi r 5).iV,.s (gi r 6).sV,.s (gi r 7).sV,.i (gi r 8).iV,.i (gi r 9).iV,.s (gi r 10).sV,.s (gi r 11).sV]
def Ak(r:LG):LG:=[.s (gi r 0).sV,.i (gi r 1).iV,.i (gi r 2).iV,.i (gi r 3).iV]
def kJ(r:LG):Int:=
 bif !nu (gi r 0).sV then 5 else bif !cC (gi r 1).iV 1 1000000 then 1 else bif !cC (gi r 2).iV 0 345686399999 then 1 else bif !cC (gi r 3).iV 1 5 then 4 else
 bif (gi r 3).iV==1 then (bif fQ (ma r) != 0 then fQ (ma r) else bif ba (gi r 2).iV (gi r 4).iV then 1 else
  bif !aK aY r (Ak r++ma r++[.s (⟨#[]⟩:BY),.s (⟨#[]⟩:BY),.i 0]) then 3 else 0)
 else bif (gi r 3).iV==2 then (bif !kI (gi r 12).sV then 5 else
  bif !aK aY r (Ak r++[.i 0,.i 0,.s (⟨#[]⟩:BY),.s (⟨#[]⟩:BY),.i 0,.i 0,.s (⟨#[]⟩:BY),.s (⟨#[]⟩:BY),.s (gi r 12).sV,.s (⟨#[]⟩:BY),.i 0]) then 3 else 0)
 else bif (gi r 3).iV==5 then (bif !nu (gi r 13).sV then 5 else bif !cC (gi r 14).iV 1 1000000 then 1 else
  bif !aK aY r (Ak r++[.i 0,.i 0,.s (⟨#[]⟩:BY),.s (⟨#[]⟩:BY),.i 0,.i 0,.s (⟨#[]⟩:BY),.s (⟨#[]⟩:BY),.s (⟨#[]⟩:BY),.s (gi r 13).sV,.i (gi r 14).iV]) then 3 else 0)
 else (bif !cC (gi r 8).iV 1 99999 then 1 else
  bif !aK aY r (Ak r++[.i 0,.i 0,.s (⟨#[]⟩:BY),.s (⟨#[]⟩:BY),.i (gi r 8).iV,.i 0,.s (⟨#[]⟩:BY),.s (⟨#[]⟩:BY),.s (⟨#[]⟩:BY),.s (⟨#[]⟩:BY),.i 0]) then 3 else 0)
theorem sO(b:Bool):(bif !b then some [G.i 3] else some [G.i 0])=some [G.i (bif !b then 3 else 0)]:=by cases b<;>rfl
theorem apY(hr:bG r):HK [.l [r]]=some [.i (kJ r)]:=by
 obtain⟨si,no,at_,kd,t,m,b,c,s,h,x,y,bd,bP,ot,rfl,d,_,_,_,⟨g,q,c3,A,B,F,I,J⟩,M,N,_⟩:=hr;have O:CU [.l [[.i t,.i m,.s b,.s c,.i s,.i h,.s x,.s y]]]=some [.i (fQ [.i t,.i m,.s b,.s c,.i s,.i h,.s x,.s y])]:=
  apz ⟨t,m,b,c,s,h,x,y,rfl,g,q,B,F,c3,A,I,J⟩
 have U:=XP d;have W:=XP N;have Y:=IJ (.inl M);unfold HK uO kJ mQ ma Ak
 (dsimp only[go_sem])
 simp only[NR,B1 rfl,U,W,Y,O]
 (dsimp only[go_sem])
 generalize nu si=b1;generalize cC no 1 1000000=b2;generalize cC at_ 0 345686399999=b3;generalize cC kd 1 5=b4;generalize fQ [.i t,.i m,.s b,.s c,.i s,.i h,.s x,.s y]=v;cases b1<;>cases b2<;>cases b3<;>cases b4<;>try rfl
 cases kd==1
 ·cases kd==2
  ·cases kd==5
   ·cases cC s 1 99999
    ·rfl
    ·exact sO _
   ·cases nu bP<;>cases cC ot 1 1000000<;>first|rfl|exact sO _
  ·cases kI bd<;>first|rfl|exact sO _
 ·cases v != 0<;>cases ba at_ t<;>first|rfl|exact sO _
theorem apZ(no at_ t m s h ot:Int)(si b c x y bd bP:BY):oD [.l [[.s si,.i no,.i at_,.i 1,.i t,.i m,.s b,.s c,.i s,.i h,.s x,.s y,.s bd,.s bP,.i ot]]]=some [.t (aK aY [.s si,.i no,.i at_,.i 1,.i t,.i m,.s b,.s c,.i s,.i h,.s x,.s y,.s bd,.s bP,.i ot] [.s si,.i no,.i at_,.i 1,.i t,.i m,.s b,.s c,.i s,.i h,.s x,.s y,.s (⟨#[]⟩:BY),.s (⟨#[]⟩:BY),.i 0])]:=by
 have e:aK aY [.s si,.i no,.i at_,.i 1,.i t,.i m,.s b,.s c,.i s,.i h,.s x,.s y,.s bd,.s bP,.i ot] [.s si,.i no,.i at_,.i 1,.i t,.i m,.s b,.s c,.i s,.i h,.s x,.s y,.s (⟨#[]⟩:BY),.s (⟨#[]⟩:BY),.i 0]=((si.toList==si.toList)&&((no==no)&&((at_==at_)&&(((1:Int)==1)&&((t==t)&&((m==m)&&((b.toList==b.toList)&&((c.toList==c.toList)&&((s==s)&&((h==h)&&((x.toList==x.toList)&&((y.toList==y.toList)&&((bd.toList==(⟨#[]⟩:BY).toList)&&((bP.toList==(⟨#[]⟩:BY).toList)&&((ot==0)&&true))))))))))))))):=rfl;have d:aK [.I,.I,.str,.str,.I,.I,.str,.str] [.i t,.i m,.s b,.s c,.i s,.i h,.s x,.s y] [.i 0,.i 0,.s (⟨#[]⟩:BY),.s (⟨#[]⟩:BY),.i 0,.i 0,.s (⟨#[]⟩:BY),.s (⟨#[]⟩:BY)]=((t==0)&&((m==0)&&((b.toList==(⟨#[]⟩:BY).toList)&&((c.toList==(⟨#[]⟩:BY).toList)&&((s==0)&&((h==0)&&((x.toList==(⟨#[]⟩:BY).toList)&&((y.toList==(⟨#[]⟩:BY).toList)&&true)))))))):=rfl;rw[e];unfold oD
 (dsimp only[go_sem])
 try rw[d]
 simp only[beq_self_eq_true,lP,fJ,qs];generalize (bd.toList==(⟨#[]⟩:BY).toList)=g;generalize (bP.toList==(⟨#[]⟩:BY).toList)=q;generalize (ot==0)=A;cases g<;>cases q<;>cases A<;>rfl
theorem ap0(no at_ t m s h ot:Int)(si b c x y bd bP:BY):oD [.l [[.s si,.i no,.i at_,.i 2,.i t,.i m,.s b,.s c,.i s,.i h,.s x,.s y,.s bd,.s bP,.i ot]]]=some [.t (aK aY [.s si,.i no,.i at_,.i 2,.i t,.i m,.s b,.s c,.i s,.i h,.s x,.s y,.s bd,.s bP,.i ot] [.s si,.i no,.i at_,.i 2,.i 0,.i 0,.s (⟨#[]⟩:BY),.s (⟨#[]⟩:BY),.i 0,.i 0,.s (⟨#[]⟩:BY),.s (⟨#[]⟩:BY),.s bd,.s (⟨#[]⟩:BY),.i 0])]:=by
 have e:aK aY [.s si,.i no,.i at_,.i 2,.i t,.i m,.s b,.s c,.i s,.i h,.s x,.s y,.s bd,.s bP,.i ot] [.s si,.i no,.i at_,.i 2,.i 0,.i 0,.s (⟨#[]⟩:BY),.s (⟨#[]⟩:BY),.i 0,.i 0,.s (⟨#[]⟩:BY),.s (⟨#[]⟩:BY),.s bd,.s (⟨#[]⟩:BY),.i 0]=((si.toList==si.toList)&&((no==no)&&((at_==at_)&&(((2:Int)==2)&&((t==0)&&((m==0)&&((b.toList==(⟨#[]⟩:BY).toList)&&((c.toList==(⟨#[]⟩:BY).toList)&&((s==0)&&((h==0)&&((x.toList==(⟨#[]⟩:BY).toList)&&((y.toList==(⟨#[]⟩:BY).toList)&&((bd.toList==bd.toList)&&((bP.toList==(⟨#[]⟩:BY).toList)&&((ot==0)&&true))))))))))))))):=rfl;have g:aK [.I,.I,.str,.str,.I,.I,.str,.str] [.i t,.i m,.s b,.s c,.i s,.i h,.s x,.s y] [.i 0,.i 0,.s (⟨#[]⟩:BY),.s (⟨#[]⟩:BY),.i 0,.i 0,.s (⟨#[]⟩:BY),.s (⟨#[]⟩:BY)]=((t==0)&&((m==0)&&((b.toList==(⟨#[]⟩:BY).toList)&&((c.toList==(⟨#[]⟩:BY).toList)&&((s==0)&&((h==0)&&((x.toList==(⟨#[]⟩:BY).toList)&&((y.toList==(⟨#[]⟩:BY).toList)&&true)))))))):=rfl;rw[e];unfold oD
 (dsimp only[go_sem])
 try rw[g]
 simp only[beq_self_eq_true,lP,fJ,qs];generalize (bd.toList==(⟨#[]⟩:BY).toList)=q;generalize (bP.toList==(⟨#[]⟩:BY).toList)=A;generalize (ot==0)=B;generalize ((t==0))=F;generalize ((m==0))=J;generalize ((b.toList==(⟨#[]⟩:BY).toList))=M;generalize ((c.toList==(⟨#[]⟩:BY).toList))=N;generalize ((s==0))=O;generalize ((h==0))=U;generalize ((x.toList==(⟨#[]⟩:BY).toList))=W;generalize ((y.toList==(⟨#[]⟩:BY).toList))=d;cases F
 ·rfl
 cases J
 ·rfl
 cases M
 ·rfl
 cases N
 ·rfl
 cases O
 ·rfl
 cases U
 ·rfl
 cases W
 ·rfl
 cases d
 ·rfl
 cases q<;>cases A<;>cases B<;>rfl
theorem ap1(no at_ t m s h ot:Int)(si b c x y bd bP:BY):oD [.l [[.s si,.i no,.i at_,.i 3,.i t,.i m,.s b,.s c,.i s,.i h,.s x,.s y,.s bd,.s bP,.i ot]]]=some [.t (aK aY [.s si,.i no,.i at_,.i 3,.i t,.i m,.s b,.s c,.i s,.i h,.s x,.s y,.s bd,.s bP,.i ot] [.s si,.i no,.i at_,.i 3,.i 0,.i 0,.s (⟨#[]⟩:BY),.s (⟨#[]⟩:BY),.i s,.i 0,.s (⟨#[]⟩:BY),.s (⟨#[]⟩:BY),.s (⟨#[]⟩:BY),.s (⟨#[]⟩:BY),.i 0])]:=by
 have e:aK aY [.s si,.i no,.i at_,.i 3,.i t,.i m,.s b,.s c,.i s,.i h,.s x,.s y,.s bd,.s bP,.i ot] [.s si,.i no,.i at_,.i 3,.i 0,.i 0,.s (⟨#[]⟩:BY),.s (⟨#[]⟩:BY),.i s,.i 0,.s (⟨#[]⟩:BY),.s (⟨#[]⟩:BY),.s (⟨#[]⟩:BY),.s (⟨#[]⟩:BY),.i 0]=((si.toList==si.toList)&&((no==no)&&((at_==at_)&&(((3:Int)==3)&&((t==0)&&((m==0)&&((b.toList==(⟨#[]⟩:BY).toList)&&((c.toList==(⟨#[]⟩:BY).toList)&&((s==s)&&((h==0)&&((x.toList==(⟨#[]⟩:BY).toList)&&((y.toList==(⟨#[]⟩:BY).toList)&&((bd.toList==(⟨#[]⟩:BY).toList)&&((bP.toList==(⟨#[]⟩:BY).toList)&&((ot==0)&&true))))))))))))))):=rfl;have d:aK [.I,.I,.str,.str,.I,.I,.str,.str] [.i t,.i m,.s b,.s c,.i s,.i h,.s x,.s y] [.i 0,.i 0,.s (⟨#[]⟩:BY),.s (⟨#[]⟩:BY),.i s,.i 0,.s (⟨#[]⟩:BY),.s (⟨#[]⟩:BY)]=((t==0)&&((m==0)&&((b.toList==(⟨#[]⟩:BY).toList)&&((c.toList==(⟨#[]⟩:BY).toList)&&((s==s)&&((h==0)&&((x.toList==(⟨#[]⟩:BY).toList)&&((y.toList==(⟨#[]⟩:BY).toList)&&true)))))))):=rfl;rw[e];unfold oD
 (dsimp only[go_sem])
 try rw[d]
 simp only[beq_self_eq_true,lP,fJ,qs];generalize (bd.toList==(⟨#[]⟩:BY).toList)=g;generalize (bP.toList==(⟨#[]⟩:BY).toList)=q;generalize (ot==0)=A;generalize ((t==0))=B;generalize ((m==0))=F;generalize ((b.toList==(⟨#[]⟩:BY).toList))=J;generalize ((c.toList==(⟨#[]⟩:BY).toList))=M;generalize ((h==0))=N;generalize ((x.toList==(⟨#[]⟩:BY).toList))=O;generalize ((y.toList==(⟨#[]⟩:BY).toList))=U;cases B
 ·rfl
 cases F
 ·rfl
 cases J
 ·rfl
 cases M
 ·rfl
 cases N
 ·rfl
 cases O
 ·rfl
 cases U
 ·rfl
 cases g<;>cases q<;>cases A<;>rfl
theorem ap2(no at_ t m s h ot:Int)(si b c x y bd bP:BY):oD [.l [[.s si,.i no,.i at_,.i 4,.i t,.i m,.s b,.s c,.i s,.i h,.s x,.s y,.s bd,.s bP,.i ot]]]=some [.t (aK aY [.s si,.i no,.i at_,.i 4,.i t,.i m,.s b,.s c,.i s,.i h,.s x,.s y,.s bd,.s bP,.i ot] [.s si,.i no,.i at_,.i 4,.i 0,.i 0,.s (⟨#[]⟩:BY),.s (⟨#[]⟩:BY),.i s,.i 0,.s (⟨#[]⟩:BY),.s (⟨#[]⟩:BY),.s (⟨#[]⟩:BY),.s (⟨#[]⟩:BY),.i 0])]:=by
 have e:aK aY [.s si,.i no,.i at_,.i 4,.i t,.i m,.s b,.s c,.i s,.i h,.s x,.s y,.s bd,.s bP,.i ot] [.s si,.i no,.i at_,.i 4,.i 0,.i 0,.s (⟨#[]⟩:BY),.s (⟨#[]⟩:BY),.i s,.i 0,.s (⟨#[]⟩:BY),.s (⟨#[]⟩:BY),.s (⟨#[]⟩:BY),.s (⟨#[]⟩:BY),.i 0]=((si.toList==si.toList)&&((no==no)&&((at_==at_)&&(((4:Int)==4)&&((t==0)&&((m==0)&&((b.toList==(⟨#[]⟩:BY).toList)&&((c.toList==(⟨#[]⟩:BY).toList)&&((s==s)&&((h==0)&&((x.toList==(⟨#[]⟩:BY).toList)&&((y.toList==(⟨#[]⟩:BY).toList)&&((bd.toList==(⟨#[]⟩:BY).toList)&&((bP.toList==(⟨#[]⟩:BY).toList)&&((ot==0)&&true))))))))))))))):=rfl;have d:aK [.I,.I,.str,.str,.I,.I,.str,.str] [.i t,.i m,.s b,.s c,.i s,.i h,.s x,.s y] [.i 0,.i 0,.s (⟨#[]⟩:BY),.s (⟨#[]⟩:BY),.i s,.i 0,.s (⟨#[]⟩:BY),.s (⟨#[]⟩:BY)]=((t==0)&&((m==0)&&((b.toList==(⟨#[]⟩:BY).toList)&&((c.toList==(⟨#[]⟩:BY).toList)&&((s==s)&&((h==0)&&((x.toList==(⟨#[]⟩:BY).toList)&&((y.toList==(⟨#[]⟩:BY).toList)&&true)))))))):=rfl;rw[e];unfold oD
 (dsimp only[go_sem])
 try rw[d]
 simp only[beq_self_eq_true,lP,fJ,qs];generalize (bd.toList==(⟨#[]⟩:BY).toList)=g;generalize (bP.toList==(⟨#[]⟩:BY).toList)=q;generalize (ot==0)=A;generalize ((t==0))=B;generalize ((m==0))=F;generalize ((b.toList==(⟨#[]⟩:BY).toList))=J;generalize ((c.toList==(⟨#[]⟩:BY).toList))=M;generalize ((h==0))=N;generalize ((x.toList==(⟨#[]⟩:BY).toList))=O;generalize ((y.toList==(⟨#[]⟩:BY).toList))=U;cases B
 ·rfl
 cases F
 ·rfl
 cases J
 ·rfl
 cases M
 ·rfl
 cases N
 ·rfl
 cases O
 ·rfl
 cases U
 ·rfl
 cases g<;>cases q<;>cases A<;>rfl
theorem ap3(no at_ t m s h ot:Int)(si b c x y bd bP:BY):oD [.l [[.s si,.i no,.i at_,.i 5,.i t,.i m,.s b,.s c,.i s,.i h,.s x,.s y,.s bd,.s bP,.i ot]]]=some [.t (aK aY [.s si,.i no,.i at_,.i 5,.i t,.i m,.s b,.s c,.i s,.i h,.s x,.s y,.s bd,.s bP,.i ot] [.s si,.i no,.i at_,.i 5,.i 0,.i 0,.s (⟨#[]⟩:BY),.s (⟨#[]⟩:BY),.i 0,.i 0,.s (⟨#[]⟩:BY),.s (⟨#[]⟩:BY),.s (⟨#[]⟩:BY),.s bP,.i ot])]:=by
 have e:aK aY [.s si,.i no,.i at_,.i 5,.i t,.i m,.s b,.s c,.i s,.i h,.s x,.s y,.s bd,.s bP,.i ot] [.s si,.i no,.i at_,.i 5,.i 0,.i 0,.s (⟨#[]⟩:BY),.s (⟨#[]⟩:BY),.i 0,.i 0,.s (⟨#[]⟩:BY),.s (⟨#[]⟩:BY),.s (⟨#[]⟩:BY),.s bP,.i ot]=((si.toList==si.toList)&&((no==no)&&((at_==at_)&&(((5:Int)==5)&&((t==0)&&((m==0)&&((b.toList==(⟨#[]⟩:BY).toList)&&((c.toList==(⟨#[]⟩:BY).toList)&&((s==0)&&((h==0)&&((x.toList==(⟨#[]⟩:BY).toList)&&((y.toList==(⟨#[]⟩:BY).toList)&&((bd.toList==(⟨#[]⟩:BY).toList)&&((bP.toList==bP.toList)&&((ot==ot)&&true))))))))))))))):=rfl;have g:aK [.I,.I,.str,.str,.I,.I,.str,.str] [.i t,.i m,.s b,.s c,.i s,.i h,.s x,.s y] [.i 0,.i 0,.s (⟨#[]⟩:BY),.s (⟨#[]⟩:BY),.i 0,.i 0,.s (⟨#[]⟩:BY),.s (⟨#[]⟩:BY)]=((t==0)&&((m==0)&&((b.toList==(⟨#[]⟩:BY).toList)&&((c.toList==(⟨#[]⟩:BY).toList)&&((s==0)&&((h==0)&&((x.toList==(⟨#[]⟩:BY).toList)&&((y.toList==(⟨#[]⟩:BY).toList)&&true)))))))):=rfl;rw[e];unfold oD
 (dsimp only[go_sem])
 try rw[g]
 simp only[beq_self_eq_true,lP,fJ,qs];generalize (bd.toList==(⟨#[]⟩:BY).toList)=q;generalize (bP.toList==(⟨#[]⟩:BY).toList)=A;generalize (ot==0)=B;generalize ((t==0))=F;generalize ((m==0))=J;generalize ((b.toList==(⟨#[]⟩:BY).toList))=M;generalize ((c.toList==(⟨#[]⟩:BY).toList))=N;generalize ((s==0))=O;generalize ((h==0))=U;generalize ((x.toList==(⟨#[]⟩:BY).toList))=W;generalize ((y.toList==(⟨#[]⟩:BY).toList))=d;cases F
 ·rfl
 cases J
 ·rfl
 cases M
 ·rfl
 cases N
 ·rfl
 cases O
 ·rfl
 cases U
 ·rfl
 cases W
 ·rfl
 cases d
 ·rfl
 cases q<;>cases A<;>cases B<;>rfl
section
variable (si b c x y bd bP:BY) (no at_ t m s h ot:Int)
theorem ap4(v:Int)(q:wW [.l [[.i t,.i m,.s b,.s c,.i s,.i h,.s x,.s y]]]=some [.i v]) :
  qY [.l [[.s si,.i no,.i at_,.i 1,.i t,.i m,.s b,.s c,.i s,.i h,.s x,.s y,.s bd,.s bP,.i ot]]]=some [.i (bif v != 0 then v else bif ba at_ t then 1 else 0)]:=by
 have e:G_ [.l [[.s si,.i no,.i at_,.i 1,.i t,.i m,.s b,.s c,.i s,.i h,.s x,.s y,.s bd,.s bP,.i ot]]]=some [.i (bif v != 0 then v else bif ba at_ t then 1 else 0)]:=by
  refine aa.toEq ?_;unfold G_
  (dsimp only[go_sem])
  refine aa.cE q ?_
  (dsimp only[go_sem])
  refine aa.test (fun d=>aa.some ?_) fun d=>aa.test (fun g=>aa.some ?_) fun g=>aa.some ?_
  ·simp only[d,cT]
  ·simp only[d,g,cT,cF]
  ·simp only[d,g,cF]
 refine aa.toEq ?_;unfold qY
 (dsimp only[go_sem])
 try refine aa.pos rfl ?_
 refine aa.cE e ?_;exact aa.some rfl
theorem ap5(d:bd∈kH) :
  qY [.l [[.s si,.i no,.i at_,.i 2,.i t,.i m,.s b,.s c,.i s,.i h,.s x,.s y,.s bd,.s bP,.i ot]]]=some [.i (bif !kI bd then 5 else 0)]:=by
 refine aa.toEq ?_;unfold qY
 (dsimp only[go_sem])
 try refine aa.neg rfl ?_
 try refine aa.pos rfl ?_
 refine aa.cE (Xz (.inl d)) ?_;cases kI bd<;>exact aa.some rfl
theorem ap6(d:bP∈gP) :
  qY [.l [[.s si,.i no,.i at_,.i 5,.i t,.i m,.s b,.s c,.i s,.i h,.s x,.s y,.s bd,.s bP,.i ot]]]=some [.i (bif !nu bP then 5 else bif !cC ot 1 1000000 then 1 else 0)]:=by
 refine aa.toEq ?_;unfold qY
 (dsimp only[go_sem])
 try refine aa.neg rfl ?_
 try refine aa.neg rfl ?_
 try refine aa.pos rfl ?_
 refine aa.cE (XO d) ?_;cases nu bP
 ·exact aa.some rfl
 refine aa.neg rfl ?_;refine aa.cE (rh ot 1 1000000) ?_;cases cC ot 1 1000000<;>exact aa.some rfl
theorem ap7(kd:Int)(d:kd=3\/kd=4) :
  qY [.l [[.s si,.i no,.i at_,.i kd,.i t,.i m,.s b,.s c,.i s,.i h,.s x,.s y,.s bd,.s bP,.i ot]]]=some [.i (bif !cC s 1 99999 then 1 else 0)]:=by
 refine aa.toEq ?_;unfold qY
 (dsimp only[go_sem])
 refine aa.neg (by rcases d with rfl|rfl<;>rfl) (aa.neg (by rcases d with rfl|rfl<;>rfl) (aa.neg (by rcases d with rfl|rfl<;>rfl) ?_));refine aa.cE (rh s 1 99999) ?_;cases cC s 1 99999<;>exact aa.some rfl
end
theorem ap8(v:Int):sF [.i v]=some [.t (cC v 0 345686399999)]:=by
 refine aa.toEq ?_;unfold sF
 (dsimp only[go_sem])
 refine aa.cE (rh v 0 345686399999) ?_;cases cC v 0 345686399999<;>exact aa.some rfl
theorem ap9(hr:bG r):G' [.l [r]]=some [.i (kJ r)]:=by
 obtain⟨si,no,at_,kd,t,m,b,c,s,h,x,y,bd,bP,ot,rfl,q,_,_,_,⟨A,B,c3,F,I,J,M,N⟩,O,U,_⟩:=hr;have W:wW [.l [[.i t,.i m,.s b,.s c,.i s,.i h,.s x,.s y]]]=some [.i (fQ [.i t,.i m,.s b,.s c,.i s,.i h,.s x,.s y])]:=
  XB ⟨t,m,b,c,s,h,x,y,rfl,A,B,I,J,c3,F,M,N⟩
 have d:cC kd 1 5=true->kd=1\/kd=2\/kd=5\/kd=3\/kd=4:=by
  unfold cC;rw[eh,eh,aR,dT,dT];omega
 refine aa.toEq ?_;unfold G' kJ mQ ma Ak
 (dsimp only[go_sem])
 refine aa.cE (XO q) ?_;cases nu si
 ·exact aa.some rfl
 refine aa.neg rfl ?_;refine aa.cE (rh no 1 1000000) ?_;cases cC no 1 1000000
 ·exact aa.some rfl
 refine aa.neg rfl ?_;refine aa.cE (ap8 at_) ?_;cases cC at_ 0 345686399999
 ·exact aa.some rfl
 refine aa.neg rfl ?_;refine aa.cE (rh kd 1 5) ?_;cases g:cC kd 1 5
 ·exact aa.some rfl
 refine aa.neg rfl ?_;rcases d g with rfl|rfl|rfl|d
 ·refine aa.call (aa.eq (ap4 si b c x y bd bP no at_ t m s h ot _ W)) ?_
  rintro _ rfl
  (dsimp only[go_sem])
  generalize fQ [.i t,.i m,.s b,.s c,.i s,.i h,.s x,.s y]=v;cases Y:v != 0
  ·cases ba at_ t
   ·refine aa.neg rfl ?_
    refine aa.cE (apZ no at_ t m s h ot si b c x y bd bP) ?_;exact⟨_,sO _,rfl⟩
   ·exact aa.pos rfl (aa.some rfl)
  ·exact aa.pos Y (aa.some rfl)
 ·refine aa.call (aa.eq (ap5 si b c x y bd bP no at_ t m s h ot O)) ?_
  rintro _ rfl;cases kI bd
  ·exact aa.pos rfl (aa.some rfl)
  refine aa.neg rfl ?_;refine aa.cE (ap0 no at_ t m s h ot si b c x y bd bP) ?_;exact⟨_,sO _,rfl⟩
 ·refine aa.call (aa.eq (ap6 si b c x y bd bP no at_ t m s h ot U)) ?_
  rintro _ rfl;cases nu bP
  ·exact aa.pos rfl (aa.some rfl)
  cases cC ot 1 1000000
  ·exact aa.pos rfl (aa.some rfl)
  refine aa.neg rfl ?_;refine aa.cE (ap3 no at_ t m s h ot si b c x y bd bP) ?_;exact⟨_,sO _,rfl⟩
 ·refine aa.call (aa.eq (ap7 si b c x y bd bP no at_ t m s h ot kd d)) ?_
  rintro _ rfl;cases cC s 1 99999
  ·refine aa.pos rfl (aa.some ?_)
   rcases d with rfl|rfl<;>rfl
  refine aa.neg rfl ?_;rcases d with rfl|rfl
  ·refine aa.call (aa.eq (ap1 no at_ t m s h ot si b c x y bd bP)) ?_
   rintro _ rfl;exact⟨_,sO _,rfl⟩
  ·refine aa.call (aa.eq (ap2 no at_ t m s h ot si b c x y bd bP)) ?_
   rintro _ rfl;exact⟨_,sO _,rfl⟩
def uX(rZ:LL)(i:Nat):Prop:=(∀j,j<i->kJ (rZ.getD j [])=0)/\∀j,j+1<i->iM (rZ.getD j []) (rZ.getD (j+1) [])<0
def oL(rZ:LL)(i:Nat)(v:Int):Prop:=uX rZ i/\i<rZ.length /\
 ((kJ (rZ.getD i [])≠0/\v=kJ (rZ.getD i []))\/(kJ (rZ.getD i [])=0/\0<i/\¬ iM (rZ.getD (i-1) []) (rZ.getD i [])<0/\v=7))
theorem oL.ne(h:oL rZ i v):v≠0:=by
 rcases h.2.2 with⟨d,rfl⟩|⟨_,_,_,rfl⟩
 ·exact d
 ·decide
theorem oL.IS{j:Nat}(h:oL rZ i v)(d:i<j):¬ uX rZ j:=by
 rintro⟨g,q⟩;rcases h.2.2 with⟨A,_⟩|⟨_,F,B,_⟩
 ·exact A (g i d)
 ·have:=q (i - 1) ab
  rw[show i-1+1=i by omega]at this;exact B this
theorem oL.unique{j:Nat}{w:Int}(h:oL rZ i v)(h':oL rZ j w):v=w:=by
 have e:i=j:=by
  rcases Nat.lt_trichotomy i j with e|e|e
  ·exact(h.IS e h'.1).elim
  ·exact e
  ·exact(h'.IS e h.1).elim
 subst e;rcases h.2.2 with⟨d,rfl⟩|⟨d,_,_,rfl⟩<;>rcases h'.2.2 with⟨g,rfl⟩|⟨g,_,_,rfl⟩
 ·rfl
 ·exact(d g).elim
 ·exact(g d).elim
 ·rfl
theorem ap_(rZ:LL)(hr:∀ z∈rZ,bG z)(hn:rZ.length<=20) :
  eZ CV [.l rZ,.l rZ,.i (rZ.length:Int),.i 0] fun c g=>(uX rZ rZ.length/\c=1/\g=[.l rZ])\/(c=0/\∃v,(∃i,oL rZ i v)/\g=[.i v]):=by
 refine(y7 (σ:=Unit) (fun _ i=>[.l rZ,.l rZ,.i (rZ.length:Int),.i (i:Int)]) rZ (fun _=>(1,[.l rZ])) (fun _ i=>uX rZ i) (fun c g=>c=0/\∃v,(∃i,oL rZ i v)/\g=[.i v]) () ab ⟨fun j h=>by omega,fun j h=>by omega⟩ ?_ ?_).mono ?_
 ·intro _ i x B hi d hm _
  unfold CV
  (dsimp only[go_sem])
  have M:=(hr x hm).eta;refine aa.p (aa.p ?_);simp only[aZ,d,M];refine aa.cE (apY (hr x hm)) ?_
  (dsimp only[go_sem])
  refine aa.test (fun q=>aa.some (.inr ⟨0,_,rfl,rfl,_,⟨i,B,hi,.inl ⟨by rw[d]; simpa using q,by rw[d]⟩⟩,rfl⟩)) fun q=>?_;have q:kJ x=0:=by simpa using q
  refine aa.test (fun A=>?_) fun A=>?_
  ·have A:0<i:=by
    rw[dX,dT]at A;omega
   have N:((i:Int)-1).toNat=i-1:=ab;have J:rZ.getD (i-1) []∈rZ:=ow ab;refine aa.p (aa.p ?_);simp only[N,(hr _ J).eta];refine aa.cE (XN (hr _ J) (hr x hm)) ?_
   (dsimp only[go_sem])
   refine aa.test (fun F=>aa.some (.inr ⟨0,_,rfl,rfl,7,⟨i,B,hi,.inr ⟨by rw[d]; exact q,A,by rw[eh,dT]at F; rw[d]; omega,rfl⟩⟩,rfl⟩)) fun F=>?_;refine aa.p (aa.some (.inl ⟨(),rfl,fun j I=>?_,fun j I=>?_⟩))
   ·by_cases e:j=i
    ·rw[e,d,q]
    ·exact B.1 j ab
   ·by_cases e:j+1=i
    ·rw[eh,dF]at F
     rw[e,d,show j=i-1 from by omega];omega
    ·exact B.2 j ab
  ·have A:i=0:=by
    rw[dX,dF]at A;omega
   refine aa.p (aa.some (.inl ⟨(),rfl,fun j I=>?_,fun j I=>by omega⟩));rw[show j=i from by omega,d,q]
 ·intro _ _
  unfold CV
  (dsimp only[go_sem])
  refine aa.n (aa.some rfl)
 ·rintro c g (⟨_,h,rfl,rfl⟩ | h)
  ·exact .inl ⟨h,rfl,rfl⟩
  ·exact .inr h
def fH(r s:LG):Bool:=((gi r 0).sV.toList==(gi s 0).sV.toList)&&((gi r 1).iV==(gi s 1).iV)
theorem ap'(hr:bG r)(hs:bG s):HM [.l [r],.l [s]]=some [.t (fH r s)]:=by
 have e:HL [.l [r],.l [s]]=some [.t (fH r s)]:=by
  refine aa.toEq ?_;unfold HL fH
  (dsimp only[go_sem])
  cases (gi r 0).sV.toList==(gi s 0).sV.toList<;>exact aa.some rfl
 refine aa.toEq ?_;unfold HM
 (dsimp only[go_sem])
 simp only[hr.eta,hs.eta];refine aa.cE e ?_;exact aa.some rfl
theorem aqa(p:LL)(x:LG)(B:∀ z∈p,bG z)(d:bG x)(hn:p.length<=20) :
  aa (HP [.l p,.l [x]]) fun g=>∃b,g=[.t b]/\(b=false->∀j,j<p.length->fH (p.getD j []) x=false)/\(b=true->∃j,j<p.length/\fH (p.getD j []) x=true):=by
 have key:aa (HO [.l p,.l [x]]) fun g=>∃v:Int,g=[.i v]/\(v<0->∀j,j<p.length->fH (p.getD j []) x=false)/\(0<=v->∃j,j<p.length/\fH (p.getD j []) x=true):=by
  unfold HO
  (dsimp only[go_sem])
  simp only[d.eta];refine aa.loop (P:=fun c g=>(c=1/\g=[]/\∀j,j<p.length->fH (p.getD j []) x=false)\/(c=0/\∃v:Int,0<=v/\g=[.i v]/\∃j,j<p.length/\fH (p.getD j []) x=true)) ((y7 (σ:=Unit) (fun _ i=>[.l p,.l [x],.i (p.length:Int),.i (i:Int)]) p (fun _=>(1,[])) (fun _ i=>∀j,j<i->fH (p.getD j []) x=false) (fun c g=>c=0/\∃v:Int,0<=v/\g=[.i v]/\∃j,j<p.length/\fH (p.getD j []) x=true) () ab (fun j h=>by omega) ?_ ?_).mono ?_) rfl ?_
  ·intro _ i z F hi q hm _
   unfold HN
   (dsimp only[go_sem])
   refine aa.p (aa.p ?_);simp only[aZ,q,(B z hm).eta,d.eta];refine aa.cE (ap' (B z hm) d) ?_
   (dsimp only[go_sem])
   refine aa.test (fun A=>aa.some (.inr ⟨0,_,rfl,rfl,_,ab,rfl,i,hi,by rw[q]; exact A⟩)) fun A=>?_;refine aa.p (aa.some (.inl ⟨(),rfl,fun j I=>?_⟩));by_cases e:j=i
   ·rw[e,q,A]
   ·exact F j ab
  ·intro _ _
   unfold HN
   (dsimp only[go_sem])
   exact aa.n (aa.some rfl)
  ·rintro c g (⟨_,h,rfl,rfl⟩ | h)
   ·exact .inl ⟨rfl,rfl,h⟩
   ·exact .inr h
  ·rintro c g (⟨rfl,rfl,h⟩ | ⟨rfl,v,J,rfl,h⟩)
   ·exact aa.neg rfl (aa.some ⟨-1,rfl,fun _=>h,fun h=>by omega⟩)
   ·exact aa.pos rfl (aa.some ⟨v,rfl,fun h=>by omega,fun _=>h⟩)
 unfold HP
 (dsimp only[go_sem])
 simp only[d.eta];refine aa.call key ?_;rintro _ ⟨v,rfl,h,h'⟩;refine aa.some ⟨cw 0 v,rfl,fun e=>h ?_,fun e=>h' ?_⟩
 ·rw[eh,dF]at e
  omega
 ·rw[eh,dT]at e
  exact e
def nv(rZ:LL)(n:Nat):Prop:=∀i,i<n->∀j,j<i->fH (rZ.getD j []) (rZ.getD i [])=false
theorem aqb(rZ:LL)(hr:∀ z∈rZ,bG z)(hn:rZ.length<=20) :
  eZ CW [.l rZ,.l rZ,.i (rZ.length:Int),.i 0] fun c g=>(nv rZ rZ.length/\c=1/\g=[])\/(c=0/\¬ nv rZ rZ.length/\g=[.i 6]):=by
 refine(y7 (σ:=Unit) (fun _ i=>[.l rZ,.l rZ,.i (rZ.length:Int),.i (i:Int)]) rZ (fun _=>(1,[])) (fun _ i=>nv rZ i) (fun c g=>c=0/\¬ nv rZ rZ.length/\g=[.i 6]) () ab (fun j h=>by omega) ?_ ?_).mono ?_
 ·intro _ i x I hi d hm _
  unfold CW
  (dsimp only[go_sem])
  refine aa.p (aa.p (aa.p ?_));simp only[aZ,d,(hr x hm).eta];have O:(rZ.take i).length=i:=by rw[gA]; omega
  refine aa.call (aqa (rZ.take i) x (fun z J=>hr z (D3 J)) (hr x hm) ab) ?_;rintro _ ⟨b,rfl,M,F⟩
  (dsimp only[go_sem])
  refine aa.test (fun q=>aa.some (.inr ⟨0,_,rfl,rfl,fun N=>?_,rfl⟩)) fun q=>?_
  ·obtain⟨j,A,B⟩:=F q
   have:=N i hi j ab;rw[dj,at6 ab,<-dj]at B;rw[d,B]at this;cases this
  refine aa.p (aa.some (.inl ⟨(),rfl,fun k U j A=>?_⟩));by_cases e:k=i
  ·have:=M q j ab
   rw[dj,at6 ab,<-dj]at this;rw[e,d,this]
  ·exact I k ab j A
 ·intro _ _
  unfold CW
  (dsimp only[go_sem])
  exact aa.n (aa.some rfl)
 ·rintro c g (⟨_,h,rfl,rfl⟩ | h)
  ·exact .inl ⟨h,rfl,rfl⟩
  ·exact .inr h
def jN(rZ:LL):Prop:=uX rZ rZ.length/\nv rZ rZ.length
def mR(rZ:LL)(v:Int):Prop:=(∃i,oL rZ i v)\/(uX rZ rZ.length/\((nv rZ rZ.length/\v=0)\/(¬ nv rZ rZ.length/\v=6)))
def rk(rZ:LL):Int:=Classical.epsilon (mR rZ)
theorem mR.unique{rZ:LL}{v w:Int}(h:mR rZ v)(h':mR rZ w):v=w:=by
 rcases h with⟨i,h⟩|⟨q,h⟩<;>rcases h' with⟨j,h'⟩|⟨A,h'⟩
 ·exact h.unique h'
 ·exact(h.IS h.2.1 A).elim
 ·exact(h'.IS h'.2.1 q).elim
 ·rcases h with⟨d,rfl⟩ | ⟨d,rfl⟩<;>rcases h' with⟨g,rfl⟩ | ⟨g,rfl⟩
  ·rfl
  ·exact(g d).elim
  ·exact(d g).elim
  ·rfl
theorem mR.eq(h:mR rZ v):v=rk rZ:=h.unique (Classical.epsilon_spec (p:=mR rZ) ⟨v,h⟩)
theorem mR.zero(h:mR rZ 0):jN rZ:=by
 rcases h with⟨i,h⟩|⟨d,⟨h,_⟩|⟨_,h⟩⟩
 ·exact(h.ne rfl).elim
 ·exact⟨d,h⟩
 ·cases h
theorem jN.chk(h:jN rZ):mR rZ 0:=.inr ⟨h.1,.inl ⟨h.2,rfl⟩⟩
theorem jN.rk{rZ:LL}(h:jN rZ):rk rZ=0:=h.chk.eq.symm
theorem aqd(rZ:LL)(hr:∀z∈rZ,bG z)(hn:rZ.length<=20):CX [.l rZ]=some [.i (rk rZ)]/\mR rZ (rk rZ):=by
 have key:aa (CX [.l rZ]) fun g=>∃v:Int,g=[.i v]/\mR rZ v:=by
  unfold CX
  (dsimp only[go_sem])
  refine aa.n ?_;refine aa.loop (ap_ rZ hr hn) rfl ?_;rintro c g (⟨q,rfl,rfl⟩|⟨rfl,v,d,rfl⟩)
  ·refine aa.neg rfl ?_
   refine aa.loop (aqb rZ hr hn) rfl ?_;rintro c g (⟨A,rfl,rfl⟩|⟨rfl,d,rfl⟩)
   ·exact aa.neg rfl (aa.some ⟨0,rfl,.inr ⟨q,.inl ⟨A,rfl⟩⟩⟩)
   ·exact aa.pos rfl (aa.some ⟨6,rfl,.inr ⟨q,.inr ⟨d,rfl⟩⟩⟩)
  ·exact aa.pos rfl (aa.some ⟨v,rfl,.inl d⟩)
 obtain⟨_,h,v,rfl,d⟩:=key;have e:=d.eq;subst e;exact⟨h,d⟩
theorem jN.nil:jN []:=⟨⟨fun j h=>by simp at h,fun j h=>by simp at h⟩,fun i h=>by simp at h⟩
theorem aqe(a b c:Int):qZ [.l [[.i a],[.i b],[.i c]]]=some [.i (if a≠0 then a else if b≠0 then b else c)]:=by
 refine aa.toEq ?_;unfold qZ
 (dsimp only[go_sem])
 have h:=II [[.i a],[.i b],[.i c]] [] ai;refine aa.loop (h.to ai) i_ ?_;rintro x g ⟨B,rfl⟩;have e:oJ [[.i a],[.i b],[.i c]]=if a≠0 then a else if b≠0 then b else c:=by
  simp only[oJ]
  (dsimp only[go_sem])
  by_cases d:a=0<;>by_cases q:b=0<;>by_cases A:c=0<;>simp[d,q,A]
 rw[e]
 (dsimp only[go_sem])
 exact aa.test (fun _=>aa.some rfl) fun _=>aa.some rfl
theorem XQ:(gh a b≠0)↔a≠b:=by
 unfold gh;split
 ·constructor<;>intro _<;>omega
 ·split<;>constructor<;>intro _<;>omega
theorem aqf(hr:bG r)(hs:bG s):Hb [.l [r],.l [s]]=some [.i (iM r s)]:=by
 obtain⟨si,no,at_,_,_,_,_,_,_,_,_,_,_,_,_,rfl,_⟩:=hr;obtain⟨g,q,d,_,_,_,_,_,_,_,_,_,_,_,_,rfl,_⟩:=hs;refine aa.toEq ?_;unfold Hb iM mQ
 (dsimp only[go_sem])
 refine aa.cE (DB at_ d) ?_;refine aa.cE (rfl:kF [.s si,.s g]=some [.i (eP si g)]) ?_;refine aa.cE (DB no q) ?_
 (dsimp only[go_sem])
 refine aa.cE (aqe _ _ _) ?_
 (dsimp only[go_sem])
 by_cases h:at_=d
 ·subst h
  exact aa.some (by simp[gh])
 ·have:=(XQ (a:=at_) (b:=d)).2 h
  exact aa.some (by simp[this,h])
theorem aqg(rZ:LL)(hr:∀ z∈rZ,bG z)(hn:rZ.length<=20) :
  eZ CO [.l rZ,.l rZ,.i (rZ.length:Int),.i 0] fun c g=>(uX rZ rZ.length/\c=1/\g=[.l rZ])\/(c=0/\∃v,(∃i,oL rZ i v)/\g=[.i v]):=by
 refine(y7 (σ:=Unit) (fun _ i=>[.l rZ,.l rZ,.i (rZ.length:Int),.i (i:Int)]) rZ (fun _=>(1,[.l rZ])) (fun _ i=>uX rZ i) (fun c g=>c=0/\∃v,(∃i,oL rZ i v)/\g=[.i v]) () ab ⟨fun j h=>by omega,fun j h=>by omega⟩ ?_ ?_).mono ?_
 ·intro _ i x B hi d hm _
  unfold CO
  (dsimp only[go_sem])
  have M:=(hr x hm).eta;refine aa.p (aa.p ?_);simp only[aZ,d,M];refine aa.cE (ap9 (hr x hm)) ?_
  (dsimp only[go_sem])
  refine aa.test (fun q=>aa.some (.inr ⟨0,_,rfl,rfl,_,⟨i,B,hi,.inl ⟨by rw[d]; simpa using q,by rw[d]⟩⟩,rfl⟩)) fun q=>?_;have q:kJ x=0:=by simpa using q
  refine aa.test (fun A=>?_) fun A=>?_
  ·have A:0<i:=by
    rw[dX,dT]at A;omega
   have N:((i:Int)-1).toNat=i-1:=ab;have J:rZ.getD (i-1) []∈rZ:=ow ab;refine aa.p (aa.p ?_);simp only[N,(hr _ J).eta];refine aa.cE (aqf (hr _ J) (hr x hm)) ?_
   (dsimp only[go_sem])
   refine aa.test (fun F=>aa.some (.inr ⟨0,_,rfl,rfl,7,⟨i,B,hi,.inr ⟨by rw[d]; exact q,A,by rw[eh,dT]at F; rw[d]; omega,rfl⟩⟩,rfl⟩)) fun F=>?_;refine aa.p (aa.some (.inl ⟨(),rfl,fun j I=>?_,fun j I=>?_⟩))
   ·by_cases e:j=i
    ·rw[e,d,q]
    ·exact B.1 j ab
   ·by_cases e:j+1=i
    ·rw[eh,dF]at F
     rw[e,d,show j=i-1 from by omega];omega
    ·exact B.2 j ab
  ·have A:i=0:=by
    rw[dX,dF]at A;omega
   refine aa.p (aa.some (.inl ⟨(),rfl,fun j I=>?_,fun j I=>by omega⟩));rw[show j=i from by omega,d,q]
 ·intro _ _
  unfold CO
  (dsimp only[go_sem])
  refine aa.n (aa.some rfl)
 ·rintro c g (⟨_,h,rfl,rfl⟩ | h)
  ·exact .inl ⟨h,rfl,rfl⟩
  ·exact .inr h
abbrev bZ:List Kd:=[.str,.I]
theorem N1(r s:LG):fH r s=fH s r:=by
 unfold fH;rw[sv (gi r 0).sV.toList,sv (gi r 1).iV]
theorem XR(hr:bG r)(hs:bG s):aK bZ (bu bZ r) (bu bZ s)=fH r s:=by
 obtain⟨_,_,_,_,_,_,_,_,_,_,_,_,_,_,_,rfl,_⟩:=hr;obtain⟨_,_,_,_,_,_,_,_,_,_,_,_,_,_,_,rfl,_⟩:=hs;simp only[aK,bu,nV,fH,mQ]
 (dsimp only[go_sem])
 simp[fJ,LI,G.sV,G.iV]
def xo(m rZ:LL)(i:Nat):Prop:=∀r,bG r->((gi (da bZ m (bu bZ r) [.t false]) 0).bV=true↔∃j,j<i/\fH (rZ.getD j []) r=true)
theorem xo.nil(rZ:LL):xo [] rZ 0:=fun r _=>by
 rw[y8];constructor
 ·intro h; cases h
 ·rintro⟨j,d,_⟩; omega
theorem xo.put{x:LG}(h:xo m rZ i)(g:bG x)(e:rZ.getD i []=x)(c:Nat):xo (cH bZ m (bu bZ x) [.t true] c) rZ (i+1):=fun r hr=>by
 rw[pR,XR hr g,N1];cases hs:fH x r with
 |true=>
  simp only[cT];exact⟨fun _=>⟨i,ab,by rw[e]; exact hs⟩,fun _=>rfl⟩
 |false=>
  simp only[cF];rw[h r hr];constructor
  ·rintro⟨j,q,d⟩; exact⟨j,ab,d⟩
  ·rintro⟨j,q,d⟩
   by_cases A:j=i
   ·rw[A,e,hs]at d; cases d
   ·exact⟨j,ab,d⟩
theorem aqh(rZ:LL)(hr:∀ z∈rZ,bG z)(hn:rZ.length<=20) :
  eZ CP [.l [],.i 0,.l rZ,.i (rZ.length:Int),.i 0] fun c g=>(nv rZ rZ.length/\c=1/\g=[])\/(c=0/\¬ nv rZ rZ.length/\g=[.i 6]):=by
 refine(y7 (σ:=LL × Nat) (fun s i=>[.l s.1,.i (s.2:Int),.l rZ,.i (rZ.length:Int),.i (i:Int)]) rZ (fun _=>(1,[])) (fun s i=>nv rZ i/\xo s.1 rZ i) (fun c g=>c=0/\¬ nv rZ rZ.length/\g=[.i 6]) ([],0) ab ⟨fun j h=>by omega,xo.nil rZ⟩ ?_ ?_).mono ?_
 ·rintro⟨m,ck⟩ i x ⟨J,B⟩ hi d hm _
  have F:=hr x hm;unfold CP
  (dsimp only[go_sem])
  refine aa.p (aa.p ?_);simp only[aZ,d];refine aa.test (fun q=>aa.some (.inr ⟨0,_,rfl,rfl,fun M=>?_,rfl⟩)) fun q=>?_
  ·obtain⟨j,A,I⟩:=(B x F).1 q
   have:=M i hi j A;rw[d,I]at this;cases this
  ·refine aa.p (aa.some (.inl ⟨(cH bZ m (bu bZ x) [.t true] ck,dI bZ m (bu bZ x) ck),rfl,fun k N j A=>?_,B.put F d ck⟩))
   by_cases e:k=i
   ·subst e
    rw[d];cases I:fH (rZ.getD j []) x with
    |false=>rfl
    |true=>
     rw[(B x F).2 ⟨j,A,I⟩]at q;cases q
   ·exact J k ab j A
 ·rintro⟨m,ck⟩ _
  unfold CP
  (dsimp only[go_sem])
  exact aa.n (aa.some rfl)
 ·rintro c g (⟨_,h,rfl,rfl⟩ | h)
  ·exact .inl ⟨h.1,rfl,rfl⟩
  ·exact .inr h
theorem XT(rZ:LL)(hr:∀z∈rZ,bG z)(hn:rZ.length<=20):CQ [.l rZ]=some [.i (rk rZ)]/\mR rZ (rk rZ):=by
 have key:aa (CQ [.l rZ]) fun g=>∃v:Int,g=[.i v]/\mR rZ v:=by
  unfold CQ
  (dsimp only[go_sem])
  refine aa.n ?_;refine aa.loop (aqg rZ hr hn) rfl ?_;rintro c g (⟨q,rfl,rfl⟩|⟨rfl,v,d,rfl⟩)
  ·refine aa.neg rfl ?_
   refine aa.loop (aqh rZ hr hn) rfl ?_;rintro c g (⟨A,rfl,rfl⟩|⟨rfl,d,rfl⟩)
   ·exact aa.neg rfl (aa.some ⟨0,rfl,.inr ⟨q,.inl ⟨A,rfl⟩⟩⟩)
   ·exact aa.pos rfl (aa.some ⟨6,rfl,.inr ⟨q,.inr ⟨d,rfl⟩⟩⟩)
  ·exact aa.pos rfl (aa.some ⟨v,rfl,.inl d⟩)
 obtain⟨_,h,v,rfl,d⟩:=key;have e:=d.eq;subst e;exact⟨h,d⟩
def IT(r:LG):Prop:=∃n:Int,r=[.i n]
theorem XU:∀(n:Nat) (mid p q:LL),mid.length<=n->(∀z∈mid,IT z)->p.length+mid.length+q.length<100000 ->
  dU zm [.l (p++mid++q),.i (p.length:Int),.i ((p.length:Int)+(mid.length:Int)-1)] (n+1) fun c g=>c=0/\g=[.l (p++mid.reverse++q)]
 |n,[],p,q,_,_,d=>by
  refine dU.stop (x:=0) (aa.toEq ?_) ⟨rfl,rfl⟩;unfold zm
  (dsimp only[go_sem])
  refine aa.neg (by simp only[fU,dX,dF]; omega) ?_;exact aa.some ai
 |n,[x],p,q,_,_,d=>by
  refine dU.stop (x:=0) (aa.toEq ?_) ⟨rfl,rfl⟩;unfold zm
  (dsimp only[go_sem])
  refine aa.neg (by simp only[cJ,fU,dX,dF]; omega) ?_;exact aa.some ai
 |0,x::A::B,p,q,h,_,_=>by simp at h
 |n+1,x::A::B,p,q,h,F,d=>by
  obtain⟨m,y,e⟩:∃m y,A::B=m++[y]:=⟨(A::B).dropLast,(A::B).getLast ai,(List.dropLast_concat_getLast ai).symm⟩
  rw[e]at h F d|-;have W:IT x:=F x ai;have Y:IT y:=F y ai;simp only[cJ,eL,fU]at h d|-;have ih:=XU n m (p++[y]) (x::q) ab (fun z hz=>F z (by simp[hz])) du;have e1:p++x::(m++[y])++q=p++x::(m++y::q):=ai;have e2:p++x::(m++y::q)=(p++x::m)++y::q:=ai;have ji:((p.length:Int)+((m.length+(0+1)+1:Nat):Int)-1).toNat=(p++x::m).length:=du;have g1:(p++x::(m++y::q)).getD p.length []=x:=sw _ _ _ _ _ rfl;have g2:(p++x::(m++y::q)).getD (p++x::m).length []=y:=by rw[e2]; exact sw _ _ _ _ _ rfl
  have s1:(p++x::(m++y::q)).set p.length y=p++y::(m++y::q):=Gx _ _ _ _ _ rfl;have M:p++y::(m++y::q)=(p++y::m)++y::q:=ai;have N:(p++x::m).length=(p++y::m).length:=ai;have s2:(p++y::(m++y::q)).set (p++x::m).length x=(p++y::m)++x::q:=by rw[M,N]; exact Gx _ _ _ _ _ rfl
  have g3:(p++y::(m++y::q)).getD (p++x::m).length []=y:=by rw[M,N]; exact sw _ _ _ _ _ rfl
  have n1:(p++x::(m++y::q)).length=p.length+m.length+q.length+2:=du;have n2:(p++y::(m++y::q)).length=p.length+m.length+q.length+2:=du;have n3:((p++y::m)++x::q).length=p.length+m.length+q.length+2:=du;have n4:(p++x::m).length=p.length+m.length+1:=du;obtain⟨O,I⟩:=W;obtain⟨U,J⟩:=Y;have i1:(gi x 0).iV=O:=by rw[I]; rfl
  have i2:(gi y 0).iV=U:=by rw[J]; rfl
  have q1:iW [Kd.int .i64] x 0 [.i U]=y:=by rw[I,J]; rfl
  have q2:iW [Kd.int .i64] y 0 [.i O]=x:=by rw[I,J]; rfl
  refine dU.next (d1:=[.l ((p++[y])++m++(x::q)),.i (((p++[y]).length:Nat):Int),.i ((((p++[y]).length:Nat):Int)+(m.length:Int)-1)]) (aa.toEq ?_) (ih.mono ?_)
  ·rw[e1]
   unfold zm
   (dsimp only[go_sem])
   simp only[fC,aZ,ji,g1,g2,i1,i2,q1,q2,s1,g3,s2,n1,n2,n3];(repeat first|refine aa.p ?_|refine aa.n ?_);refine aa.some ?_;rw[show p++[y]++m++x::q=p++y::m++x::q from by simp,show (((p++[y]).length:Nat):Int)=(p.length:Int)+1 from by simp,show (p.length:Int)+1+(m.length:Int)-1=(p.length:Int)+((m.length+(0+1)+1:Nat):Int)-1-1 from by omega]
  ·rintro c g ⟨rfl,rfl⟩
   exact⟨rfl,ai⟩
theorem aqi(rZ:LL)(hr:∀z∈rZ,IT z)(hn:rZ.length<90000):G1 [.l rZ]=some [.l rZ.reverse]:=by
 refine aa.toEq ?_;unfold G1
 (dsimp only[go_sem])
 refine aa.p ?_;have h:=XU rZ.length rZ [] [] (bl _) hr du;simp only[rF,kL,fU]at h;have e:((0:Nat):Int)+(rZ.length:Int)-1=(rZ.length:Int)-1:=ab;rw[e]at h;refine aa.loop (h.to ab) i_ ?_;rintro _ _ ⟨rfl,rfl⟩
 (dsimp only[go_sem])
 (repeat first|refine aa.p ?_|refine aa.n ?_);exact aa.some rfl
theorem XV{st:Int->LG->LG->Option LG}{rZ:LL}(I:Nat->LG->Prop) (g:∀(n:Nat) (d:LG),n<rZ.length->I (n+1) d->aa (st (n:Int) (rZ.getD n []) d) (I n)) :
  ∀(n:Nat) (d:LG),n<=rZ.length->I n d->aa (ux st rZ n d) (I 0)
 |0,d,_,h=>aa.some h
 |n+1,d,hn,h=>by
  obtain⟨q,A,B⟩:=g n d ab h;simp only[ux,A];exact XV I g n q ab B
def uY(r:LG):LG:=[.s (gi r 13).sV,.i (gi r 14).iV]
def nw(k:LG)(u:LL):Bool:=u.any fun o=>aK bZ k o
def uA(a:Int):LL->LL
 |[]=>[]
 |x::l=>bif ba a (gi x 2).iV||nw (bu bZ x) (uA a l) then uA a l else bif (gi x 3).iV==5 then uY x::uA a l else uA a l
def gW(a:Int)(x:LG)(l:LL):Bool := !(ba a (gi x 2).iV||nw (bu bZ x) (uA a l))
def cA(a:Int):Nat->LL->LL
 |_,[]=>[]
 |i,x::l=>bif gW a x l then [.i (i:Int)]::cA a (i+1) l else cA a (i+1) l
theorem DD(a:Int)(x:LG)(l:LL):uA a (x::l)=bif gW a x l&&(gi x 3).iV==5 then uY x::uA a l else uA a l:=by
 simp only[uA,gW];cases ba a (gi x 2).iV||nw (bu bZ x) (uA a l)<;>rfl
theorem sP(a:Int):∀(i:Nat) (l:LL),(cA a i l).length<=l.length
 |_,[]=>bl _
 |i,x::l=>by
  simp only[cA];have:=sP a (i+1) l;cases gW a x l<;>simp only[cT,cF,cJ]<;>omega
theorem N2{a:Int}:∀{i:Nat} {l:LL} {z:LG},z∈cA a i l->∃ j:Nat,z=[.i (j:Int)]/\i<=j/\j<i+l.length
 |_,[],z,h=>by simp[cA]at h
 |i,x::l,z,h=>by
  have d:z∈cA a (i+1) l->∃j:Nat,z=[.i (j:Int)]/\i<=j/\j<i+(x::l).length:=fun h=>by
   obtain⟨j,e,g,q⟩:=N2 h;exact⟨j,e,ab,by simp only[cJ]; omega⟩
  simp only[cA]at h;cases hc:gW a x l with
  |false=>rw[hc]at h; exact d h
  |true=>
   rw[hc]at h;rcases cy.1 h with rfl|h
   ·exact⟨i,rfl,bl _,by simp only[cJ]; omega⟩
   ·exact d h
def xp(m u:LL):Prop:=∀k,(gi (da bZ m k [.t false]) 0).bV=nw k u
theorem xp.nil:xp [] []:=fun k=>by rw[y8]; rfl
theorem xp.put{u:LL}(h:xp m u)(t:LG)(c:Nat):xp (cH bZ m t [.t true] c) (t::u):=fun k=>by
 rw[pR];simp only[nw,xV];cases d:aK bZ k t with
 |true=>rfl
 |false=>
  simp only[cF,jR];exact h k
theorem aqj(rZ:LL)(a:Int)(hr:∀z∈rZ,bG z)(hn:rZ.length<=1000):Hp [.l rZ,.i a]=some [.l (cA a 0 rZ)]:=by
 refine aa.toEq ?_;unfold Hp
 (dsimp only[go_sem])
 have key:aa (Ho [.i a,.l [],.i 0,.l rZ]) fun o=>∃x,o.1=some x/\o.2=[.l (cA a 0 rZ)]:=by
  unfold Ho Ck;have U:=XV (st:=MR) (rZ:=rZ) (fun n d=>∃m c,d=[.i a,.l m,.i c,.l (cA a n (rZ.drop n)).reverse]/\xp m (uA a (rZ.drop n))) (fun n d B F=>by
   obtain⟨m,c,rfl,hm⟩:=F;have W:rZ.getD n []∈rZ:=ow B;have Y:rZ.drop n=rZ.getD n []::rZ.drop (n+1):=by
    rw[Jo B,dj,bT B];rfl
   rw[Y];generalize rZ.getD n []=x at W;have J:=sP a (n+1) (rZ.drop (n+1));rw[List.length_drop]at J;unfold MR
   (dsimp only[go_sem])
   have M:=hm (bu bZ x);simp only[cA,DD];refine aa.test (fun q=>?_) fun q=>?_
   ·have e:gW a x (rZ.drop (n+1))=false:=by unfold gW; rw[q]; rfl
    rw[e];exact aa.pos ai (aa.some ⟨m,_,rfl,hm⟩)
   refine aa.test (fun A=>?_) fun A=>?_
   ·have e:gW a x (rZ.drop (n+1))=false:=by unfold gW; rw[<- M,A,Bool.or_true]; rfl
    rw[e];exact aa.pos ai (aa.some ⟨m,_,rfl,hm⟩)
   have e:gW a x (rZ.drop (n+1))=true:=by unfold gW; rw[<-M,A,q]; rfl
   rw[e];refine aa.pos (by simp only[sl,aub]; simp; omega) ?_;refine aa.test (fun I=>?_) fun I=>?_
   ·rw[I]
    exact aa.pos ai (aa.some ⟨cH bZ m (uY x) [.t true] c.toNat,((dI bZ m (uY x) c.toNat:Nat):Int),by simp only[cT,auc]; rfl,hm.put (uY x) _⟩)
   ·rw[I]
    exact aa.pos ai (aa.some ⟨m,((c.toNat:Nat):Int),by simp only[Bool.and_false,cT,cF,auc],hm⟩)) rZ.length (V4 [.i a,.l [],.i 0,.l rZ]) (bl _) ⟨[],_,by rw[Jv]; rfl,by rw[Jv]; exact xp.nil⟩
  obtain⟨d,F,m,c,rfl,_⟩:=U;show aa (bif Nat.ble rZ.length 1048576&&zF.side [.i a,.l [],.i 0,.l rZ] then (ux zF.st rZ rZ.length (zF.init [.i a,.l [],.i 0,.l rZ])).bind MS else none) _;refine aa.pos (by simp[zF,V5]; omega) ?_;have O:ux zF.st rZ rZ.length (zF.init [.i a,.l [],.i 0,.l rZ])=some [.i a,.l m,.i c,.l (cA a 0 (rZ.drop 0)).reverse]:=F;rw[O];simp only[Option.bind_some,List.drop_zero];unfold MS
  (dsimp only[go_sem])
  have J:=sP a 0 rZ;refine aa.iy (aa.eq (aqi (cA a 0 rZ).reverse (fun z hz=>by
   obtain⟨j,e,_⟩:=N2 (List.mem_reverse.1 hz);exact⟨_,e⟩) (by rw[aub]; omega))) ai ?_
  rintro _ rfl
  (dsimp only[go_sem])
  exact aa.pos ai (aa.some ⟨0,rfl,by rw[List.reverse_reverse]⟩)
 refine aa.tail (P:=fun _ g=>g=[.l (cA a 0 rZ)]) (key.mono ?_) ai ?_
 ·rintro o ⟨x,q,A⟩
  exact⟨x,q,A⟩
 rintro _ _ rfl
 (dsimp only[go_sem])
 exact aa.pos ai (aa.some rfl)
theorem N3{n:Nat}(h:n<rZ.length):rZ.drop n=rZ.getD n []::rZ.drop (n+1):=by
 rw[Jo h,dj,bT h];rfl
theorem aqk(x y:LG)(d:bG y):aK bZ (bu bZ y) (uY x)=(((gi x 13).sV.toList==(gi y 0).sV.toList)&&((gi x 14).iV==(gi y 1).iV)):=by
 obtain⟨_,_,_,_,_,_,_,_,_,_,_,_,_,_,_,rfl,_⟩:=d;unfold mQ uY;generalize (gi x 13).sV=s;generalize (gi x 14).iV=n;simp only[aK,bu,nV]
 (dsimp only[go_sem])
 rw[sv s.toList,sv n];simp[fJ,LI,G.sV,G.iV]
theorem aql(a:Int)(k x:LG)(l:LL):nw k (uA a (x::l))=((gW a x l&&(gi x 3).iV==5&&aK bZ k (uY x))||nw k (uA a l)):=by
 rw[DD];cases gW a x l&&(gi x 3).iV==5 with
 |false=>simp
 |true=>simp only[cT,lP]; simp only[nw,xV]
def XW(a:Int)(rZ:LL):Prop:=∀z∈rZ,bG z/\ba a (gi z 2).iV=false
theorem XX{x:LG}(h:ba a (gi x 2).iV=false)(l:LL):gW a x l = !nw (bu bZ x) (uA a l):=by
 unfold gW;rw[h,jR]
theorem XY(a:Int)(rZ:LL)(hr:XW a rZ)(hn:rZ.length<=1000):∀ (n i:Nat),i<rZ.length->rZ.length<=i+n ->
    rf n [.l rZ,.i (i:Int)]=some [.l rZ,.t (gW a (rZ.getD i []) (rZ.drop (i+1)))]
  |0,i,O,W=>by omega
  |n+1,i,O,W=>by
    have Y:=XY a rZ hr hn n;refine aa.toEq ?_;unfold rf CY
    (dsimp only[go_sem])
    have q:=hr _ (ow O);generalize U:rZ.getD i []=x at q;refine aa.p ?_;refine aa.loop (P:=fun c g=>(c=1/\gW a x (rZ.drop (i+1))=true/\g=[.l rZ])\/(c=0/\gW a x (rZ.drop (i+1))=false/\g=[.l rZ,.t false]))
      (((uD (σ := Unit) (fun _ k => [.l rZ, .i (i : Int), .i (k : Int)]) rZ.length (fun _ => (1, [.l rZ])) (fun _ k => i + 1 <= k /\ nw (bu bZ x) (uA a (rZ.drop (i + 1))) = nw (bu bZ x) (uA a (rZ.drop k))) (fun c g => c = 0 /\ gW a x (rZ.drop (i + 1)) = false /\ g = [.l rZ, .t false])
        ?_ ?_ (rZ.length-(i+1)) () (i+1) ab ⟨bl _,rfl⟩).to ab).mono ?_) ai ?_
    · rintro _ k ⟨hk0,d⟩ A
      have hy:=hr _ (ow A);rw[N3 A,aql]at d;unfold HT
      (dsimp only[go_sem])
      simp only[aZ,fC,U];have N:=Y k A ab;generalize rZ.getD k []=y at hy d N;rw[aqk y x q.1]at d;have B:(gW a y (rZ.drop (k+1))&&(gi y 3).iV==5&&(((gi y 13).sV.toList==(gi x 0).sV.toList)&&((gi y 14).iV==(gi x 1).iV)))=false ->
          aa (bif aM ((k:Int)+1) then (bif ((((aA rZ.length rZ.length)&&true)&&true)&&true) then (some (none,[G.l rZ,.i (i:Int),.i ((k:Int)+1)]):bk) else none) else none) fun o=>
            (∃s',o=(none,[.l rZ,.i (i:Int),.i ((k+1:Nat):Int)])/\i+1<=k+1/\nw (bu bZ x) (uA a (rZ.drop (i+1)))=nw (bu bZ x) (uA a (rZ.drop (k+1))))\/∃c g,o=(some c,g)/\c=0/\gW a x (rZ.drop (i+1))=false/\g=[.l rZ,.t false]:=fun h=>by
        refine aa.p (aa.pos ai (aa.some (.inl ⟨(),rfl,ab,?_⟩)));rw[d,h,jR]
      have hk':k<rZ.length:=A;refine aa.p (aa.p (aa.p ?_));refine aa.test (fun F=>?_) fun F=>B (by rw[F]; simp);refine aa.p (aa.p (aa.p (aa.p ?_)));refine aa.test (fun I=>?_) fun I=>B (by rw[I]; simp);refine aa.p (aa.p (aa.p (aa.p ?_)));refine aa.test (fun J=>?_) fun J=>B (by rw[J]; simp);refine aa.iy (aa.eq N) ai ?_;rintro _ rfl
      (dsimp only[go_sem])
      refine aa.test (fun M=>?_) fun M=>B (by rw[M]; simp);refine aa.pos ai (aa.some (.inr ⟨0,_,rfl,rfl,?_,rfl⟩));rw[XX q.2,d,F,I,J,M];rfl
    · rintro _ ⟨_,d⟩
      unfold HT
      (dsimp only[go_sem])
      exact aa.n (aa.pos ai (aa.some rfl))
    · rintro c g (⟨_,⟨_,d⟩,rfl,rfl⟩ | h)
      · refine .inl ⟨rfl,?_,rfl⟩
        rw[XX q.2,d,Jv];rfl
      ·exact .inr h
    · rintro c g (⟨rfl,hc,rfl⟩ | ⟨rfl,hc,rfl⟩)
      ·exact aa.neg rfl (aa.pos ai (aa.some (by rw[hc]; rfl)))
      ·exact aa.pos rfl (aa.pos ai (aa.some (by rw[hc]; rfl)))
theorem N4{a:Int}:∀{q:LL} (i:Nat),(∀ z∈q,ba a (gi z 2).iV=true)->uA a q=[]/\cA a i q=[]
 |[],_,_=>⟨rfl,rfl⟩
 |x::q,i,h=>by
  obtain⟨g,_⟩:=N4 (q:=q) i fun z d=>h z (cO _ d);obtain⟨_,A⟩:=N4 (q:=q) (i+1) fun z d=>h z (cO _ d);have e:gW a x q=false:=by unfold gW; rw[h x dG]; rfl
  exact⟨by rw[DD,e,g]; rfl,by simp only[cA,e,A,cF]⟩
theorem XZ{a:Int}{q:LL}(h:∀ z∈q,ba a (gi z 2).iV=true):∀(p:LL) (i:Nat),uA a (p++q)=uA a p/\cA a i (p++q)=cA a i p
 |[],i=>by
  obtain⟨d,g⟩:=N4 i h;exact⟨by simpa[uA]using d,by simpa[cA]using g⟩
 |x::p,i=>by
  obtain⟨d,g⟩:=XZ h p (i+1);have e:gW a x (p++q)=gW a x p:=by unfold gW; rw[d]
  exact⟨by rw[qk,DD,DD,e,d],by simp only[qk,cA,e,g]⟩
theorem aqm(h:iM r s<0):(gi r 2).iV<=(gi s 2).iV:=by
 unfold iM at h;split at h
 ·unfold gh at h
  split at h
  ·omega
  ·split at h<;>omega
 ·omega
theorem X5(a:Int):∀(rZ:LL),(∀ k,k+1<rZ.length->iM (rZ.getD k []) (rZ.getD (k+1) [])<0)->∃ p q,rZ=p++q/\(∀ z∈p,ba a (gi z 2).iV=false)/\∀ z∈q,ba a (gi z 2).iV=true
 |[],_=>⟨[],[],rfl,ai,ai⟩
 |x::l,h=>by
  obtain⟨p,q,e,A,B⟩:=X5 a l fun k I=>by
   have:=h (k+1) (by simpa using I);simpa using this
  cases g:ba a (gi x 2).iV with
  |false=>exact⟨x::p,q,by rw[e]; rfl,fun z d=>by rcases cy.1 d with rfl|d; exact g; exact A z d,B⟩
  |true=>
   cases p with
   |nil=>exact⟨[],x::q,by rw[e]; rfl,ai,fun z d=>by rcases cy.1 d with rfl|d; exact g; exact B z d⟩
   |cons y p=>
    have F:=h 0 (by rw[e]; simp);rw[e]at F;have J:=aqm F;have M:=A y dG;rw[dX,dF]at M;rw[dX,dT]at g;simp only[List.getD_cons_zero,qk,List.getD_cons_succ]at J;omega
theorem X6(rZ:LL)(a:Int)(hr:∀ z∈rZ,bG z)(hn:rZ.length<=40) (N:∀ k,k+1<rZ.length->iM (rZ.getD k []) (rZ.getD (k+1) [])<0) :
  zR [.l rZ,.i a]=some [.l (cA a 0 rZ)]:=by
 obtain⟨p,q,rfl,I,J⟩:=X5 a rZ N;rw[(XZ J p 0).2];have O:XW a p:=fun z d=>⟨hr z (List.mem_append_left _ d),I z d⟩
 have Y:p.length<=40:=by rw[eL]at hn; omega
 have U:(p++q).filter (fun r=>cw (gi r 2).iV a)=p:=by
  rw[tn,List.filter_eq_self.2 (fun z d=>by
   have:=I z d;rw[dX,dF]at this;rw[eh,dT]; omega),List.filter_eq_nil_iff.2 (fun z d=>by
   have:=J z d;rw[dX,dT]at this;rw[eh,dT]; omega),kL]
 refine aa.toEq ?_;unfold zR
 (dsimp only[go_sem])
 refine aa.loop (P:=fun c g=>g=[.l p]) ((ga (σ:=LL) (fun s i=>[.l s,.i a,.l (p++q),.i ((p++q).length:Int),.i (i:Int)]) (p++q) (fun s=>(0,[.l s])) (fun s i=>s=((p++q).take i).filter fun r=>cw (gi r 2).iV a) [] ab ai ?_ ?_).mono ?_) ai ?_
 ·rintro s i x hs hi A hm M
  have F:=List.length_filter_le (fun r=>cw (gi r 2).iV a) ((p++q).take i);rw[<-hs,gA]at F;have W:s.length<=40:=ab;have hi':i<p.length+q.length:=by rw[<-eL]; exact hi
  unfold HU
  (dsimp only[go_sem])
  simp only[aZ,A,(hr x hm).eta];have B:((p++q).take (i+1)).filter (fun r=>cw (gi r 2).iV a)=bif cw (gi x 2).iV a then s++[x] else s:=by
   rw[M,tn,<-hs];cases h:cw (gi x 2).iV a<;>simp[h]
  refine aa.p (aa.p ?_);refine aa.test (fun h=>?_) fun h=>?_
  ·rw[h]at B
   exact aa.pos (by simp only[sl,eL,cJ,fU]; simp; omega) (aa.p (aa.pos ai (aa.some ⟨s++[x],rfl,B.symm⟩)))
  ·rw[h]at B
   exact aa.p (aa.pos ai (aa.some ⟨s,rfl,B.symm⟩))
 ·rintro s _
  unfold HU
  (dsimp only[go_sem])
  exact aa.n (aa.pos ai (aa.some rfl))
 ·rintro c g ⟨s,hs,rfl,rfl⟩
  rw[hs,List.take_length,U]
 rintro _ _ rfl
 (dsimp only[go_sem])
 refine aa.loop (P:=fun c g=>g=[.l (cA a 0 p)]) ((ga (σ:=LL) (fun s i=>[.l p,.l s,.i (p.length:Int),.i (i:Int)]) p (fun s=>(0,[.l s])) (fun s i=>s.length<=i/\s++cA a i (p.drop i)=cA a 0 p) [] ab ⟨bl _,ai⟩ ?_ ?_).mono ?_) ai ?_
 ·rintro s i x ⟨F,hs⟩ hi A hm M
  rw[N3 hi,A]at hs;simp only[cA]at hs;unfold HV
  (dsimp only[go_sem])
  have hc:=XY a p O ab 40 i hi ab;rw[A]at hc;refine aa.p (aa.iy (aa.eq (show Nd [.l p,.i (i:Int)]=_ from hc)) ai ?_);rintro _ rfl
  (dsimp only[go_sem])
  refine aa.test (fun h=>?_) fun h=>?_
  ·rw[h]at hs
   exact aa.pos (by simp only[sl,eL,cJ,fU]; simp; omega) (aa.p (aa.pos ai (aa.some ⟨s++[[.i (i:Int)]],rfl,du,by simpa using hs⟩)))
  ·rw[h]at hs
   exact aa.p (aa.pos ai (aa.some ⟨s,rfl,ab,by simpa using hs⟩))
 ·rintro s ⟨F,_⟩
  unfold HV
  (dsimp only[go_sem])
  exact aa.n (aa.pos ai (aa.some rfl))
 ·rintro c g ⟨s,⟨_,hs⟩,rfl,rfl⟩
  rw[Jv]at hs;rw[<-hs];simp[cA]
 rintro _ _ rfl
 (dsimp only[go_sem])
 exact aa.pos ai (aa.some rfl)
end
end Go.Proofs.h_
