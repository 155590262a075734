/-
 What is proved: every operation of the logic, with calls. No condition.
-/
import Derived.Test.YtomcmchdbdnclaaGreatDoorMAB
set_option linter.all false
open Array renaming ext'->ic,getElem?_eq_some_iff->k5,getElem?_eq_none->Lh,setIfInBounds_comm->alP,replicate->te
open Bool renaming and_eq_true->ax,or_eq_true->qZ,not_true->Aj,false_or->wK
open Classical renaming byContradiction->alR
open Decidable renaming byContradiction->Ea
open Function renaming comp_def->Wy
open Go.Builtin renaming len_->Wx
open Go.Call renaming operands->td
open Go.Op renaming operands->dY
open Go.Oper renaming wpIn->qX,semAt_eq->qY,apart_spec->Lg
open Go.Region renaming wanted->Wz,binds->Lf,noSelect->alO,ready->mw
open Go.Result renaming andThen_ok->bT
open Go.Sem renaming run_bind->bS,run_pure->ft
open Go.Value.slice renaming injEq->kX
open List renaming length_cons->bG,getElem?_append_left->cK,getElem?_set_self->bf,getElem?_set_ne->aQ,all_eq_true->da,drop_drop->qV,map_map->kf,replicate->bQ,mem_cons_self->bZ,nodup_cons->nq,set_comm->mv,set_append_left->Ah,range->dB,map_congr_left->ki,any_eq_true->lI,eq_nil_iff_forall_not_mem->alQ,mem_range->fu
open Nat renaming le_refl->aB,lt_of_lt_of_le->dM,lt_or_ge->kU
open Option renaming map_some->dS
open Option.some renaming injEq->aM,inj->iM
namespace Go.AL
open Go
variable [Dr]
def A4(x:Operand):Bool:=x matches .const _
def E_:AV->AV->Option AV
 |.lit (.int k a),.lit (.int _ b)=>some (.lit (.int k (if b>a then b else a)))
 |_,_=>none
def Fa:AV->AV->Option AV
 |.lit (.int k a),.lit (.int _ b)=>some (.lit (.int k (if b<a then b else a)))
 |_,_=>none
def tV(f:AV->AV->Option AV):AV->List AV->Option AV
 |x,[]=>some x
 | x,y::l=>match f x y with
  |some z=>tV f z l
  |none=>none
def Yj:List AV->Option AV
 | []=>none
 |x::rest=>tV E_ x rest
def Yk:List AV->Option AV
 | []=>none
 |x::rest=>tV Fa x rest
def Fb(k:SK)(x:AV):Option AV :=
 match k,x with
 |.str,.lit (.string s)=>some (.int s.size)
 |.slice _ _ _,.lit (.string _)=>none
 | .slice _ _ _,x=>match AD x with
  |some n=>some (.int n)
  |none=>none
 |_,_=>none
def Fc(P:Program)(b:Builtin)(tys:List TypeId)(args:List AV):Option AV :=
 match b with
 | .len=>match tys[0]?,args[0]? with
  |some t,some x=>Fb (cD P t) x
  |_,_=>none
 |.max=>Yj args
 |.min=>Yk args
 | .cap=>match tys,args with
  | t::_,.lit (.slice none 0 0)::_=>match cD P t with
   |.slice _ _ _=>some (.int 0)
   |_=>none
  |_,_=>none
 |_=>none
def Fe(r:Operand->AV)(fn:Fn)(first caps:Array Operand):Option AV :=
 match fn with
 |.func f=>if first.toList.isEmpty then some (.clo f (caps.toList.map r)) else none
 |_=>none
def Ff(P:Program)(r:Operand->AV)(c:Call):Option AV :=
 match c.callee with
 |.builtin b=>Fc P b c.argTypes.toList (c.args.toList.map r)
 |_=>none
def jb(P:Program)(r:Operand->AV):Op->Option AV
 |.move x | .assign x=>some (r x)
 | .pick c a b=>match r c with
  |.lit (.bool t)=>some (bif t then r a else r b)
  |_=>none
 | .extract t i=>match r t with
  |.tuple vs=>vs[i]?
  |_=>none
 | .field t x f=>match tA P t f with
  |some k=>EI k (r x)
  |none=>none
 | .fieldAddr t x f=>match tA P t f with
  |some k=>Ey k (r x)
  |none=>none
 |.indexAddr t x i=>jt (cD P t) (r x) (r i)
 |.index t x i=>pK (cD P t) (r x) (r i)
 |.binOp op t x y _=>kn P op t (A4 x||A4 y) (r x) (r y)
 |.unOp op _ x=>tM op (r x)
 |.convert s d x=>tN P s d (r x)
 |.build t parts=>EJ P t (parts.toList.map fun p=>(p.1,r p.2))
 |.buildSlice t n parts=>tR P t n (parts.toList.map fun p=>(p.1,r p.2))
 |.slice t x lo hi mx=>mF P t (r x) (lo.map r) (hi.map r) (mx.map r)
 |.makeFunc fn first caps=>Fe r fn first caps
 | .nilCheck x=>match r x with
  |.ptr id ver k row col=>some (.ptr id ver k row col)
  |.cptr cells=>some (.cptr cells)
  |.clo f caps=>some (.clo f caps)
  |_=>none
 | .makeInterface t _=>match P.underlying t with
  |some (.interface _)=>none
  |some _=>some .ifc
  |none=>none
 |.call c=>Ff P r c
 |_=>none
theorem rH{E:Env}{r:Operand->AV}{ρ:Operand->Value}(h:∀ x,rel E (r x) (ρ x)):∀(l:List Operand),ae E (l.map r) (l.map ρ)
 | []=>by simp[ae]
 |x::l=>by simp only[List.map_cons,ae]; exact⟨h x,rH h l⟩
theorem Fg{E:Env}{r:Operand->AV}{ρ:Operand->Value}(h:∀ x,rel E (r x) (ρ x))(o:Option Operand):pI E (o.map r) (o.map ρ):=by
 cases o with
 |none=>simp[pI]
 |some x=>simpa[pI]using h x
def iq(E:Env)(v:AV)(u:Value)(w':World):Prop:=Ext E.w w'/\rel { E with w:=w' } v u
theorem iq.same{E:Env}{v:AV}{u:Value}(h:rel E v u):iq E v u E.w:=⟨Ext.refl _,h⟩
theorem lR{P:Program}{s:Sem Value}{w w':World}{u:Value}(h:s.run P w=.ok u w'):(do pure (Next.value (<- s)):Sem Next).run P w=.ok (.value u) w':=by
 simp[h]
theorem Fh{P:Program}{E:Env}{f:AV->AV->Option AV}{g:Value->Value->Sem Value}
  (q:∀ x y c d z,f x y=some z->rel E x c->rel E y d->∃ u,(g c d).run P E.w=.ok u E.w/\rel E z u) :
  ∀(rest:List AV) (x:AV) (c:Value) (cs:List Value) (v:AV),rel E x c->ae E rest cs->tV f x rest=some v ->
   ∃ u,(cs.foldlM g c).run P E.w=.ok u E.w/\rel E v u
 | [],x,c,cs,v,k,hr,h=>by
  cases cs with
  |nil=>simp[tV]at h; subst h; exact⟨c,rfl,k⟩
  |cons _ _=>simp[ae]at hr
 | y::rest,x,c,cs,v,k,hr,h=>by
  cases cs with
  |nil=>simp[ae]at hr
  | cons d cs =>
   simp only[ae]at hr;simp only[tV]at h;split at h
   ·rename_i z I
    obtain⟨u,g1,g2⟩:=q x y c d z I k hr.1;obtain⟨M,g3,g4⟩:=Fh q rest z u cs v g2 hr.2 h;exact⟨M,by simp only[List.foldlM_cons,bS,g1,bT]; exact g3,g4⟩
   ·cases h
theorem Yl{P:Program}{E:Env}(x y:AV)(c d:Value)(z:AV)(h:E_ x y=some z)(g:rel E x c)(k:rel E y d) :
  ∃ u,(Builtin.max2 c d).run P E.w=.ok u E.w/\rel E z u:=by
 unfold E_ at h;split at h
 ·cases h
  simp only[rel]at g k;subst g; subst k;exact⟨_,rfl,by simp[rel]⟩
 ·cases h
theorem Ym{P:Program}{E:Env}(x y:AV)(c d:Value)(z:AV)(h:Fa x y=some z)(g:rel E x c)(k:rel E y d) :
  ∃ u,(Builtin.min2 c d).run P E.w=.ok u E.w/\rel E z u:=by
 unfold Fa at h;split at h
 ·cases h
  simp only[rel]at g k;subst g; subst k;exact⟨_,rfl,by simp[rel]⟩
 ·cases h
theorem Yn{P:Program}{E:Env}{b:Builtin}{tys:Array TypeId}{ty:TypeId}{consts:Array Bool}{args:List AV}{cargs:Array Value}{v:AV}
  (h:Fc P b tys.toList args=some v) (hr:ae E args cargs.toList):∃ u,(builtin b tys ty consts cargs).run P E.w=.ok (.value u) E.w/\rel E v u:=by
 cases b<;>simp only[Fc]at h<;>try cases h
 case len =>
  split at h
  case h_2=>cases h
  rename_i t x I U;obtain⟨c,M,d⟩:=oA hr U;have k:tys[0]? = some t:=by simpa using I
  have q:cargs[0]? = some c:=by simpa using M
  unfold Fb at h;split at h
  ·rename_i s hk
   cases h;simp only[rel]at d;subst d;refine⟨goInt s.size,?_,by simp[rel,goInt]⟩;simp[builtin,Wx,k,q,Sem.bk (rq hk)]
  ·cases h
  ·rename_i e sz N hk O
   split at h
   ·rename_i n y
    cases h;obtain⟨hu,_⟩:=ig hk;rcases W6 y d with⟨s,rfl,_⟩|⟨base,cap,rfl⟩
    ·exfalso
     unfold AD at y;split at y
     ·rename_i s'
      exact O s' rfl
     all_goals first
      |(simp[rel,eo]at d; done)
      |cases y
    ·refine ⟨goInt n, ?_, by simp [rel, goInt]⟩
     simp[builtin,Wx,k,q,Sem.bk hu]
   ·cases h
  ·cases h
 case max =>
  cases args with
  |nil=>cases h
  | cons x rest =>
   cases g:cargs.toList with
   |nil=>rw[g]at hr; simp[ae]at hr
   | cons c cs =>
    rw[g]at hr;simp only[ae]at hr;obtain⟨u,g1,g2⟩:=Fh (P:=P) Yl rest x c cs v hr.1 hr.2 h;refine⟨u,?_,g2⟩;simp[builtin,Builtin.max_,g,g1]
 case min =>
  cases args with
  |nil=>cases h
  | cons x rest =>
   cases g:cargs.toList with
   |nil=>rw[g]at hr; simp[ae]at hr
   | cons c cs =>
    rw[g]at hr;simp only[ae]at hr;obtain⟨u,g1,g2⟩:=Fh (P:=P) Ym rest x c cs v hr.1 hr.2 h;refine⟨u,?_,g2⟩;simp[builtin,Builtin.min_,g,g1]
 case cap =>
  split at h
  case h_2=>cases h
  rename_i t V as I;obtain⟨c,M,d⟩:=oA (i:=0) hr rfl;have k:tys[0]? = some t:=by
   have:tys.toList[0]? = some t:=by rw[I]; rfl
   simpa using this
  have q:cargs[0]? = some c:=by simpa using M
  simp only[rel]at d;subst d;split at h
  ·rename_i e sz N hk
   cases h;obtain⟨hu,_⟩:=ig hk;refine⟨goInt 0,?_,by simp[rel,goInt]⟩;simp[builtin,Builtin.cap_,k,q,Sem.bk hu]
  ·cases h
theorem Yo{P:Program}{E:Env}(HE:al E){r:Operand->AV}{ρ:Operand->Value}(hr:∀ x,rel E (r x) (ρ x)){o:Oper}{v:AV}(h:jb P r o.op=some v) :
  ∃ u w',(execOp ρ o).run P E.w=.ok (.value u) w'/\iq E v u w':=by
 obtain⟨dst,op,type,pos,after,guard⟩:=o;have same:∀{s:Sem Value},(∃ u,s.run P E.w=.ok u E.w/\rel E v u)->∃ u w',(do pure (Next.value (<- s)):Sem Next).run P E.w=.ok (.value u) w'/\iq E v u w':=by
  rintro s ⟨u,g1,g2⟩;exact⟨u,E.w,lR g1,iq.same g2⟩
 cases op<;>simp only[jb]at h<;>try cases h
 case move x=>exact⟨ρ x,E.w,rfl,iq.same (hr x)⟩
 case assign x=>exact⟨ρ x,E.w,rfl,iq.same (hr x)⟩
 case pick c a b =>
  split at h
  ·rename_i t M
   cases h;have q:=hr c;rw[M]at q;simp only[rel]at q;refine⟨if t then ρ a else ρ b,E.w,?_,?_⟩
   ·simp[execOp,q,asBool]
   ·cases t
    ·exact iq.same (hr b)
    ·exact iq.same (hr a)
  ·cases h
 case build t parts =>
  obtain⟨u,g1,g2⟩:=Xk (E:=E) (cparts:=parts.toList.map fun p=>(p.1,ρ p.2)) h (by simp) (by
   simp only[kf];have:=rH hr (parts.toList.map (·.2));simpa[kf,Wy]using this)
  have e:(parts.toList.map fun p=>(p.1,ρ p.2)).toArray=parts.map fun(i,x)=>(i,ρ x):=by
   apply ic; simp
  rw[e]at g1;exact same ⟨u,g1,g2⟩
 case buildSlice t n parts =>
  obtain⟨u,w',g1,g2,g3⟩:=XC HE (cparts:=parts.toList.map fun p=>(p.1,ρ p.2)) h (by simp) (by
   simp only[kf];have:=rH hr (parts.toList.map (·.2));simpa[kf,Wy]using this)
  have e:(parts.toList.map fun p=>(p.1,ρ p.2)).toArray=parts.map fun(i,x)=>(i,ρ x):=by
   apply ic; simp
  rw[e]at g1;exact⟨u,w',lR g1,g2,g3⟩
 case nilCheck x =>
  have g:=hr x;split at h
  ·rename_i id ver k row col he
   cases h;rw[he]at g;have I:=g;simp only[rel]at I;obtain⟨⟨b,o,q⟩,_⟩:=I;exact⟨ρ x,E.w,by simp[execOp,q],iq.same g⟩
  ·rename_i cells he
   cases h;rw[he]at g;have I:=g;simp only[rel]at I;obtain⟨_,b,o,q,_⟩:=I;exact⟨ρ x,E.w,by simp[execOp,q],iq.same g⟩
  ·rename_i f caps he
   cases h;rw[he]at g;have I:=g;simp only[rel]at I;obtain⟨cs,q,_⟩:=I;exact⟨ρ x,E.w,by simp[execOp,q],iq.same g⟩
  ·cases h
 case binOp op t x y _ =>
  refine same (Xf (x:=x) (y:=y) (fun hk=>?_) h (hr x) (hr y));cases x<;>cases y<;>first|rfl|exact hk
 case unOp op _ x=>exact same (Xg h (hr x))
 case convert s d x=>exact same (Xh h (hr x))
 case makeInterface t x =>
  split at h
  ·cases h
  ·rename_i d N hu
   cases h;refine same ⟨.iface t (ρ x),?_,by simp only[rel]; exact⟨_,_,rfl⟩⟩;simp only[Instr.makeInterface,bS,Sem.bk hu,bT];cases d<;>first|rfl|(exact(N _ hu).elim)|(exact(N _ rfl).elim)
  ·cases h
 case makeFunc fn first caps =>
  cases fn<;>simp only[Fe]at h<;>try cases h
  rename_i f;split at h
  ·rename_i U
   cases h;refine⟨.func (.func f) (first.map ρ) (caps.map ρ),E.w,rfl,iq.same ?_⟩;simp only[rel];refine⟨caps.map ρ,?_,by simpa using rH hr caps.toList⟩;have:first=#[]:=by
    apply ic;simpa using U
   simp[this]
  ·cases h
 case slice t x lo hi mx=>exact same (Xb h (hr x) (Fg hr lo) (Fg hr hi) (Fg hr mx))
 case fieldAddr t x f =>
  split at h
  ·rename_i k hk; exact same (W8 hk h (hr x))
  ·cases h
 case field t x f =>
  split at h
  ·rename_i k hk; exact same (Xj hk h (hr x))
  ·cases h
 case indexAddr t x i=>exact same (W9 HE h (hr x) (hr i))
 case index t x i=>exact same (Xi h (hr x) (hr i))
 case extract t i =>
  split at h
  ·rename_i vs M
   have g:=hr t;rw[M]at g;simp only[rel]at g;obtain⟨cs,q,V⟩:=g;obtain⟨u,g1,g2⟩:=oA V h;refine same ⟨u,?_,g2⟩;have O:cs[i]? = some u:=by simpa using g1
   simp[Instr.extract,q,O]
  ·cases h
 case call c =>
  obtain⟨callee,args,argTypes⟩:=c;cases callee<;>simp only[Ff]at h<;>try cases h
  rename_i b;obtain⟨u,g1,g2⟩:=Yn (P:=P) (E:=E) (b:=b) (tys:=argTypes) (ty:=type) (consts:=args.map fun | .const _=>true|_=>false) (cargs:=args.map ρ) h
   (by simpa using rH hr args.toList)
  exact⟨u,E.w,by simp only[execOp,resolve,bS,ft,bT,invoke]; exact g1,iq.same g2⟩
def A5(P:Program)(r:Operand->AV)(H:List ab)(c:Call):Option (AV × List ab) :=
 match c.callee with
 | .builtin .append=>match c.args.toList,c.argTypes.toList with
  | [s,x],[t,xt]=>match rA P t xt (r s) (r x) H with
   |some y=>some y
   |none=>tP P t xt (r s) (r x) H
  |_,_=>none
 | .builtin .clear=>match c.args.toList,c.argTypes.toList with
  | [x],[t]=>match xc P t (r x) H with
   |some H'=>some (.tuple [],H')
   |none=>none
  |_,_=>none
 | .builtin .delete=>match c.args.toList,c.argTypes.toList with
  | [x,k],t::_=>match xb P t (r x) (r k) H with
   |some H'=>some (.tuple [],H')
   |none=>none
  |_,_=>none
 |_=>none
def cW(P:Program)(r:Operand->AV)(H:List ab):Op->Option (AV × List ab)
 |.alloc t=>ru P t H
 |.box _ x=>AS (r x) H
 | .store t a x=>match nF P t (r a) (r x) H with
  |some H'=>some (.undef,H')
  | none=>match rG P t (r a) (r x) H with
   |some H'=>some (.undef,H')
   | none=>match xk P t (r a) (r x) H with
    |some H'=>some (.undef,H')
    |none=>none
 |.makeSlice t l c=>w8 P t (r l) (r c) H
 |.buildSlice t n parts=>xd P t n (parts.toList.map fun p=>(p.1,r p.2)) H
 |.range t x=>AW P t (r x) H
 |.next it isString=>AX (r it) isString H
 |.makeMap _ none=>some (.map H.length,H++[.map [] 0])
 | .mapUpdate t m k v=>match lP P t (r m) (r k) (r v) H with
  |some H'=>some (.undef,H')
  | none=>match oF P t (r m) (r k) (r v) H with
   |some H'=>some (.undef,H')
   | none=>match rE P t (r m) (r k) (r v) H with
    |some H'=>some (.undef,H')
    | none=>match xm P t (r m) (r k) (r v) H with
     |some H'=>some (.undef,H')
     |none=>none
 | .insert t m k v=>match lP P t (r m) (r k) (r v) H with
  |some H'=>some (.undef,H')
  |none=>none
 | .lookup t m k false=>match gl P t (r m) (r k) false H with
  |some v=>some (v,H)
  | none=>match rB P t (r m) (r k) H with
   |some y=>some y
   |none=>xl P t (r m) (r k) H
 | .mapEntry t m k=>match ju P t (r m) (r k) H with
  |some y=>some y
  |none=>kp P t (r m) (r k) H
 | .entryStore _ m s x=>match lQ (r m) (r s) (r x) H with
  |some H'=>some (.undef,H')
  | none=>match mI (r m) (r s) (r x) H with
   |some H'=>some (.undef,H')
   |none=>none
 |.call c=>A5 P r H c
 |_=>none
theorem cM.of_le{E:Env}{w':World}{H':List ab}(h1:al { w:=w',H:=H',loc:=E.loc,X:=E.X })(d:E.le { w:=w',H:=H',loc:=E.loc,X:=E.X })(u:Value) :
  cM E .undef H' u w':=⟨E.loc,E.X.r,by simp[rel],h1,d⟩
theorem iq.toOp{E:Env}(HE:al E){v:AV}{u:Value}{w':World}(h:iq E v u w'):cM E v E.H u w' :=
 ⟨E.loc,E.X.r,h.2,HE.ext h.1,Env.kl h.1⟩
theorem Yp{P:Program}{E:Env}(HE:al E){r:Operand->AV}{ρ:Operand->Value}(hr:∀ x,rel E (r x) (ρ x)){o:Oper}{v:AV}{H':List ab}
  (h:cW P r E.H o.op=some (v,H')) :
  ∃ n u w',(execOp ρ o).run P E.w=.ok n w'/\(n=.value u\/n=.skip/\u=undef)/\cM E v H' u w':=by
 obtain⟨dst,op,type,pos,after,guard⟩:=o;have same:∀{s:Sem Value},(∃ u w',s.run P E.w=.ok u w'/\cM E v H' u w') ->
   ∃ n u w',(do pure (Next.value (<- s)):Sem Next).run P E.w=.ok n w'/\(n=.value u\/n=.skip/\u=undef)/\cM E v H' u w':=by
  rintro s ⟨u,w',g1,g2⟩;exact⟨_,u,w',lR g1,.inl rfl,g2⟩
 cases op<;>simp only[cW]at h<;>try cases h
 case alloc t=>exact same (Xt HE h)
 case box t x=>exact same (Xy HE h (hr x))
 case store t a x =>
  split at h
  ·rename_i H1 d
   cases h;obtain⟨w',g1,g2,g3⟩:=L4 HE d (hr a) (hr x);exact⟨.skip,undef,w',by simp[execOp,g1],.inr ⟨rfl,rfl⟩,cM.of_le g2 g3 _⟩
  ·split at h
   ·rename_i H1 d
    cases h;obtain⟨w',g1,g2,g3⟩:=Yd HE d (hr a) (hr x);exact⟨.skip,undef,w',by simp[execOp,g1],.inr ⟨rfl,rfl⟩,cM.of_le g2 g3 _⟩
   ·split at h
    ·rename_i H1 d
     cases h;obtain⟨w',g1,g2⟩:=Ye HE d (hr a) (hr x);exact⟨.skip,undef,w',by simp[execOp,g1],.inr ⟨rfl,rfl⟩,g2 _⟩
    ·cases h
 case makeSlice t l c=>exact same (XB HE h (hr l) (hr c))
 case buildSlice t n parts =>
  obtain⟨u,w',g1,g2⟩:=XP HE (cparts:=parts.toList.map fun p=>(p.1,ρ p.2)) h (by simp) (by
   simp only[kf];have:=rH hr (parts.toList.map (·.2));simpa[kf,Wy]using this)
  have e:(parts.toList.map fun p=>(p.1,ρ p.2)).toArray=parts.map fun(i,x)=>(i,ρ x):=by
   apply ic; simp
  rw[e]at g1;exact same ⟨u,w',g1,g2⟩
 case range t x=>exact same (XE HE h (hr x))
 case next it isString=>exact same (XF HE h (hr it))
 case makeMap t res =>
  cases res with
  |some _=>cases h
  | none =>
   cases h;exact same ⟨_,_,by simp[Instr.makeMap,newObj]; rfl,XH HE⟩
 case mapUpdate t m k x =>
  split at h
  ·rename_i H1 d
   cases h;obtain⟨w',g1,g2,g3⟩:=Mm HE d (hr m) (hr k) (hr x);exact⟨.skip,undef,w',by simp[execOp,g1],.inr ⟨rfl,rfl⟩,cM.of_le g2 g3 _⟩
  ·split at h
   ·rename_i H1 d
    cases h;obtain⟨w',g1,g2⟩:=XW HE d (hr m) (hr k) (hr x);exact⟨.skip,undef,w',by simp[execOp,g1],.inr ⟨rfl,rfl⟩,g2 _⟩
   ·split at h
    ·rename_i H1 d
     cases h;obtain⟨w',g1,g2,g3⟩:=X9 HE d (hr m) (hr k) (hr x);exact⟨.skip,undef,w',by simp[execOp,g1],.inr ⟨rfl,rfl⟩,cM.of_le g2 g3 _⟩
    ·split at h
     ·rename_i H1 d
      cases h;obtain⟨w',g1,g2⟩:=Yi HE d (hr m) (hr k) (hr x);exact⟨.skip,undef,w',by simp[execOp,g1],.inr ⟨rfl,rfl⟩,g2 _⟩
     ·cases h
 case lookup t m k ok =>
  cases ok with
  |true=>cases h
  | false =>
   simp only[]at h;split at h
   ·rename_i v1 V
    cases h;obtain⟨u,g1,g2⟩:=Mi HE V (hr m) (hr k);exact same ⟨u,_,g1,iq.toOp HE ⟨Ext.refl _,g2⟩⟩
   ·split at h
    ·rename_i y g
     cases h;exact same (XV HE g (hr m) (hr k))
    ·exact same (Yg HE h (hr m) (hr k))
 case mapEntry t m k =>
  split at h
  ·rename_i y g
   cases h;exact same (X1 HE g (hr m) (hr k))
  ·exact same (X_ HE h (hr m) (hr k))
 case entryStore t m s x =>
  split at h
  ·rename_i H1 d
   cases h;obtain⟨w',g1,g2⟩:=X3 (P:=P) (t:=t) HE d (hr m) (hr s) (hr x);exact⟨.skip,undef,w',by simp[execOp,g1],.inr ⟨rfl,rfl⟩,g2 _⟩
  ·split at h
   ·rename_i H1 d
    cases h;obtain⟨w',g1,g2⟩:=Yb (P:=P) (t:=t) HE d (hr m) (hr s) (hr x);exact⟨.skip,undef,w',by simp[execOp,g1],.inr ⟨rfl,rfl⟩,g2 _⟩
   ·cases h
 case insert t m k x =>
  split at h
  ·rename_i H1 d
   cases h;obtain⟨w',g1,g2,g3⟩:=Mm HE d (hr m) (hr k) (hr x);exact⟨.skip,undef,w',by simp[execOp,g1],.inr ⟨rfl,rfl⟩,cM.of_le g2 g3 _⟩
  ·cases h
 case call c =>
  obtain⟨callee,args,argTypes⟩:=c;unfold A5 at h;split at h
  ·rename_i q
   simp only[]at q;subst q;simp only[]at h;split at h
   case h_2=>cases h
   rename_i s x t xt M N;have I:args=#[s,x]:=by apply ic; simpa using M
   have O:argTypes=#[t,xt]:=by apply ic; simpa using N
   subst I;subst O;split at h
   ·rename_i y g
    cases h;obtain⟨u,w',g1,g2⟩:=XO (P:=P) (ty:=type) HE g (hr s) (hr x);refine⟨.value u,u,w',?_,.inl rfl,g2⟩;simp[execOp,resolve,invoke,builtin,g1]
   ·obtain ⟨u, w', g1, g2⟩ := Xq (P := P) (ty := type) HE h (hr s) (hr x)
    refine⟨.value u,u,w',?_,.inl rfl,g2⟩;simp[execOp,resolve,invoke,builtin,g1]
  ·rename_i q
   simp only[]at q;subst q;simp only[]at h;split at h
   case h_2=>cases h
   rename_i x t M N;have I:args=#[x]:=by apply ic; simpa using M
   have O:argTypes=#[t]:=by apply ic; simpa using N
   subst I;subst O;split at h
   ·rename_i H1 g
    cases h;obtain⟨w',g1,g2,g3⟩:=XM (P:=P) (ty:=type) (tys:=#[t]) (cs:=#[ρ x]) HE g rfl rfl (hr x);refine⟨.value (.tuple #[]),.tuple #[],w',?_,.inl rfl,E.loc,E.X.r,by simp[rel,ae],g2,g3⟩;simp[execOp,resolve,invoke,builtin,g1]
   ·cases h
  ·rename_i q
   simp only[]at q;subst q;simp only[]at h;split at h
   case h_2=>cases h
   rename_i x k t W M N;have I:args=#[x,k]:=by apply ic; simpa using M
   subst I;split at h
   ·rename_i H1 g
    cases h;have U:argTypes[0]? = some t:=by
     have:argTypes.toList[0]? = some t:=by rw[N]; rfl
     simpa using this
    obtain⟨w',g1,g2,g3⟩:=XK (P:=P) (ty:=type) (tys:=argTypes) (cs:=#[ρ x,ρ k]) HE g U rfl rfl (hr x) (hr k);refine⟨.value (.tuple #[]),.tuple #[],w',?_,.inl rfl,E.loc,E.X.r,by simp[rel,ae],g2,g3⟩;simp[execOp,resolve,invoke,builtin,g1]
   ·cases h
  ·cases h
def oG(P:Program)(f:FuncId)(args:List AV)(H:List ab)(Q:AV->List ab->Prop):Prop :=
 ∀(E:Env) (cargs:Array Value),E.H=H->al E->ae E args cargs.toList ->
  Calls P f cargs E.w fun e w'=>∃ c v H',e=.returned c/\Q v H'/\cM E v H' c w'
def c7(P:Program)(f:FuncId)(args:List AV)(v:AV):Prop:=∀ H,oG P f args H fun d H'=>d=v/\H'=H
theorem oG.mono{P:Program}{f:FuncId}{args:List AV}{H:List ab}{Q d:AV->List ab->Prop}(h:oG P f args H Q)(g:∀ v H',Q v H'->d v H'):oG P f args H d :=
 fun E cargs h1 k u=>(h E cargs h1 k u).mono fun _ _ ⟨c,v,H',e,q,r⟩=>⟨c,v,H',e,g v H' q,r⟩
def jd(P:Program)(f:FuncId):Bool :=
 match P.funcs[f]? with
 |some fn => !(fn.name == "runtime.NumGoroutine")&&fn.body.isSome
 |none=>false
theorem MK{P:Program}{f:FuncId}(h:jd P f=true)(args:Array Value)(w:World):(callFunc f args).run P w=.ok (.enter f args) w:=by
 unfold jd at h;split at h
 ·rename_i fn d
  simp only[ax,Bool.not_eq_true']at h;have h1:fn.name ≠ "runtime.NumGoroutine" := by simpa using h.1
  have g:fn.body≠none:=fun e=>by rw[e]at h; simp at h
  simp[callFunc,d,h1,g]
 ·cases h
def A6(r:Operand->AV)(c:Call):Option (FuncId × List AV) :=
 match c.callee with
 | .value g=>match r g with
  |.clo f caps=>some (f,c.args.toList.map r++caps)
  |_=>none
 |_=>none
def iO(r:Operand->AV):Op->Option (FuncId × List AV)
 |.call c=>A6 r c
 |_=>none
theorem ML{P:Program}{E:Env}{r:Operand->AV}{ρ:Operand->Value}(hr:∀ x,rel E (r x) (ρ x)){o:Oper}{f:FuncId}{args:List AV}
  (h:iO r o.op=some (f,args)) (hb:jd P f=true):∃ cargs:Array Value,(execOp ρ o).run P E.w=.ok (.enter f cargs) E.w/\ae E args cargs.toList:=by
 obtain⟨dst,op,type,pos,after,guard⟩:=o;cases op<;>simp only[iO]at h<;>try cases h
 rename_i c;obtain⟨callee,as,argTypes⟩:=c;cases callee<;>simp only[A6]at h<;>try cases h
 rename_i g;split at h
 case h_2=>cases h
 rename_i f' caps k;cases h;have d:=hr g;rw[k]at d;simp only[rel]at d;obtain⟨cs,q,u⟩:=d;refine⟨as.map ρ++cs,?_,?_⟩
 ·simp[execOp,resolve,q,Deferred.ofValue,invoke,MK hb]
 ·simp only [Array.toList_append, Array.toList_map]
  exact ny (rH hr as.toList) u
end Go.AL

namespace Go.AL
open Go
variable [Dr]
inductive Yq where
 |pure|read|write
 deriving DecidableEq
def Yr(pf:FuncId->Bool)(c:Call):Bool :=
 match c.argTypes.toList with
 | [t]=>pf (t+1000000)
 |_=>false
def cX(pf:FuncId->Bool):Op->Yq
 |.load ..=>.read
 |.lookup t _ _ _=>if pf (t+1500000) then .write else .read
 |.buildSlice t n _=>if pf (t+100000*n+2000000) then .write else .pure
 |.alloc .. | .box .. | .store .. | .makeSlice .. | .mapUpdate .. | .insert .. | .makeMap .. | .mapEntry .. | .entryStore .. | .range .. | .next .. | .entry ..=>.write
 |.go .. | .defer .. | .panic .. | .send .. | .recv .. | .select .. | .makeChan .. | .ready .. | .waits ..=>.write
 | .call c=>match c.callee with
  | .builtin .len=>match Yr pf c with
   |true=>.read
   |false=>.pure
  |.builtin .max | .builtin .min | .builtin .cap=>.pure
  |.value (.func f)=>if pf f then .pure else .write
  |_=>.write
 |_=>.pure
def pN(P:Program)(r:Operand->AV)(H:List ab)(c:Call):Option AV :=
 match c.callee,c.args.toList,c.argTypes.toList with
 | .builtin .len,[a],[t]=>match c6 P t,r a with
  | some _,.map id=>match H[id]? with
   |some (.map es _)=>some (.int es.length)
   |_=>none
  |_,_=>none
 |_,_,_=>none
theorem Ys{P:Program}{E:Env}(HE:al E){r:Operand->AV}{ρ:Operand->Value}(hr:∀ x,rel E (r x) (ρ x)){o:Oper}{c:Call}{v:AV}(ho:o.op=.call c)(h:pN P r E.H c=some v) :
  ∃ u,(execOp ρ o).run P E.w=.ok (.value u) E.w/\rel E v u:=by
 obtain⟨dst,op,type,pos,after,guard⟩:=o;subst ho;obtain⟨callee,args,argTypes⟩:=c;unfold pN at h;split at h
 case h_2=>cases h
 rename_i a t g d k;simp only[]at g d k;subst g;have y:args=#[a]:=by apply ic; simpa using d
 have I:argTypes=#[t]:=by apply ic; simpa using k
 subst y;subst I;split at h
 case h_2=>cases h
 rename_i p id M hid;split at h
 case h_2=>cases h
 rename_i es cl hH;cases h;have q:=hr a;rw[hid]at q;obtain⟨b,n,ms,N,h1,O,U⟩:=tS HE hH q;obtain⟨kt,et⟩:=p;have V:=(dT.1 U).1;have W:(getObj b).run P E.w=.ok (.map ms cl) E.w:=by simp[getObj,Sem.run,O]
 refine⟨goInt ms.size,?_,by simp[rel,goInt,V]⟩;simp only[execOp,resolve,bS,ft,bT,invoke];simp[builtin,Wx,Sem.bk (fG M),N,W]
def fQ(P:Program)(r:Operand->AV)(H:List ab):Op->Option AV
 |.load t a=>lM P t (r a) H
 | .lookup t m k ok=>match gl P t (r m) (r k) ok H with
  |some v=>some v
  |none=>lh P t (r m) (r k) ok H
 |.call c=>pN P r H c
 |_=>none
theorem Yt{P:Program}{E:Env}(HE:al E){r:Operand->AV}{ρ:Operand->Value}(hr:∀ x,rel E (r x) (ρ x)){o:Oper}{v:AV}(h:fQ P r E.H o.op=some v) :
  ∃ u,(execOp ρ o).run P E.w=.ok (.value u) E.w/\rel E v u:=by
 obtain⟨dst,op,type,pos,after,guard⟩:=o;cases op<;>simp only[fQ]at h<;>try cases h
 case load t a =>
  obtain⟨u,g1,g2⟩:=LI HE h (hr a);exact⟨u,lR g1,g2⟩
 case lookup t m k ok =>
  split at h
  ·rename_i v1 h1
   cases h;obtain⟨u,g1,g2⟩:=Mi HE h1 (hr m) (hr k);exact⟨u,lR g1,g2⟩
  ·obtain ⟨u, g1, g2⟩ := X7 HE h (hr m) (hr k)
   exact⟨u,lR g1,g2⟩
 case call c=>exact Ys HE hr rfl h
def dn(P:Program)(f:FuncId)(args:List AV)(H:List ab)(v:AV)(H':List ab):Prop:=oG P f args H fun v1 H1=>v1=v/\H1=H'
def bY(ops:Array Oper)(fr:List AV)(o:Oper):Option Bool :=
 match o.guard with
 |none=>some true
 | some (j,want)=>match (ops[j]?).bind (·.dst) with
  | some t=>match fr[t]? with
   |some (.lit (.bool b))=>some (b==want)
   |some (.tuple [])=>some false
   |_=>none
  |none=>none
def Yu(H:List ab)(v v1:AV)(H1:List ab):Prop :=
 ∃(id ver:Nat) (ks:List Kd) (rows:List (List G)),((v=.vec ks.length id ver 0 rows.length/\v1=.listF ks rows)\/∃ cs,v=.agg (.vec ks.length id ver 0 rows.length::cs)/\v1=.agg (.listF ks rows::cs))/\H[id]? = some (.vec ks.length ver (rows.map (aD ks)))/\H1=H.set id .dead
theorem Fi{E:Env}(HE:al E){id ver:Nat}{ks:List Kd}{rows:List (List G)} (hid:E.H[id]? = some (.vec ks.length ver (rows.map (aD ks)))) {c:Value} (hr:rel E (.vec ks.length id ver 0 rows.length) c) :
  rel { w:=E.w,H:=E.H.set id .dead,loc:=E.loc.set id none,X:=E.X } (.listF ks rows) c:=by
 have hle:=Env.wU HE id;have ho:=HE.obj id _ hid;rw[jq];simp only[rel]at hr|-;obtain⟨⟨base,cap,rfl,y,_⟩,_,q⟩:=hr;obtain⟨U,M⟩:=q ⟨_,hid,rfl⟩;have u:eD (rows.map (aD ks)):=by
  intro r hr;obtain⟨g,_,rfl⟩:=List.mem_map.1 hr;exact fW ks g
 refine⟨u,base,cap,by simp,by simpa using y,?_⟩;simp only[aI]at ho;rcases ho with⟨h1,v⟩|⟨b,mm,h1,v,q,_,N⟩
 ·exact .inl v
 ·obtain ⟨g1, o, g2, g3⟩ := M b mm h1
  by_cases hm:rows=[]
  ·subst hm; exact .inl rfl
  ·right
   have:0<rows.length:=by cases rows with|nil=>exact(hm rfl).elim|cons _ _=>simp
   simp at q;have ho:=g2 (by omega);simp at ho;subst ho;simp only[kX]at g3;refine⟨b,0,g3.1,⟨(HE.lt id b mm h1).1,?_,(HE.lt id b mm h1).2⟩,jO hle.toC _ u rfl N⟩;rintro(⟨j,O,d⟩|⟨l,k,O,d⟩)
   case inr=>exact HE.cQ _ _ _ _ _ _ h1 d
   simp only[List.getElem?_set]at d;split at d
   ·split at d<;>cases d
   ·rename_i I
    exact I (HE.inj _ _ _ _ _ h1 d)
def tW(P:Program)(r:Operand->AV)(H:List ab)(v:AV)(H':List ab):Op->Prop
 |.store t a x=>∃ v1 H1,Yu H (r x) v1 H1/\nF P t (r a) v1 H1=some H'/\v=.undef
 |_=>False
theorem Yv{P:Program}{r r':Operand->AV}{H:List ab}{v:AV}{H':List ab}(o:Op)(h:∀ x∈o.operands,r x=r' x):tW P r H v H' o=tW P r' H v H' o:=by
 cases o<;>try rfl
 rename_i t a x;simp only[tW];rw[h a (by simp[dY]),h x (by simp[dY])]
theorem Yw{P:Program}{E:Env}(HE:al E){r:Operand->AV}{ρ:Operand->Value}(hr:∀ x,rel E (r x) (ρ x)){o:Oper}{v:AV}{H':List ab}(h:tW P r E.H v H' o.op) :
  ∃ w',(execOp ρ o).run P E.w=.ok .skip w'/\cM E v H' undef w':=by
 obtain⟨dst,op,type,pos,after,guard⟩:=o;cases op<;>try exact h.elim
 rename_i t a x;obtain⟨v1,H1,⟨id,ver,ks,rows,h1,k,rfl⟩,I,rfl⟩:=h;have g:=hr x;have hle:=Env.wU HE id;have y:rel { w:=E.w,H:=E.H.set id .dead,loc:=E.loc.set id none,X:=E.X } v1 (ρ x):=by
  rcases h1 with⟨h1,rfl⟩|⟨cs,h1,rfl⟩
  ·rw [h1] at g
   exact Fi HE k g
  ·rw [h1, rel] at g
   obtain⟨l,e,ho,d⟩:=g;rw[e,rel];refine⟨l,rfl,ho,?_⟩;cases q:l.toList with
   |nil=>rw[q]at d; simp[ae]at d
   | cons u us =>
    rw[q]at d;simp only[ae]at d|-;exact⟨Fi HE k d.1,dw hle cs d.2⟩
 obtain⟨w',g1,g2,g3⟩:=L4 (E:={ w:=E.w,H:=E.H.set id .dead,loc:=E.loc.set id none,X:=E.X }) (al.drop HE id fun o ho=>by rw[k]at ho; cases ho; rfl) I (bg hle _ (hr a)) y;have g1:(Instr.storeAt t (ρ a) (ρ x)).run P E.w=.ok () w':=g1;exact⟨w',by simp[execOp,g1],E.loc.set id none,E.X.r,by simp[rel],g2,hle.trans g3⟩
def Yields(P:Program)(pf:FuncId->Bool)(ops:Array Oper)(o:Oper)(s:St)(v:AV)(H':List ab):Prop :=
 match bY ops s.fr o with
 |none=>False
 |some false=>v=.tuple []/\H'=s.H
 | some true=>match cX pf o.op with
  |.pure=>H'=s.H/\(jb P s.eval o.op=some v\/∃ f args,iO s.eval o.op=some (f,args)/\jd P f=true/\c7 P f args v)
  |.read=>H'=s.H/\fQ P s.eval s.H o.op=some v
  |.write=>(cW P s.eval s.H o.op=some (v,H')\/∃ f args,iO s.eval o.op=some (f,args)/\jd P f=true/\dn P f args s.H v H')\/(((∃ t id m,o.op=.alloc t/\pL P t id m s.H=some (v,H'))\/∃ t id,o.op=.makeMap t none/\rz id s.H=some (v,H'))\/tW P s.eval s.H v H' o.op)
def lj(fr:List AV)(dst:Option Tmp)(v:AV):List AV :=
 match dst with
 |some d=>fr.set d v
 |none=>fr
def St.put(s:St)(dst:Option Tmp)(v:AV)(H':List ab):St:=⟨lj s.fr dst v,H'⟩
theorem MM{E:Env}:∀{as:List AV} {vs:List Value} {a:AV} {v:Value} (d:Nat),ae E as vs->rel E a v->ae E (as.set d a) (vs.set d v)
 | [],[],_,_,_,_,_=>by simp[ae]
 | [],_::_,_,_,_,h,_=>by simp[ae]at h
 |_::_,[],_,_,_,h,_=>by simp[ae]at h
 |_::as,_::vs,a,v,0,h,g=>by simp only[ae]at h; simp only[List.set_cons_zero,ae]; exact⟨g,h.2⟩
 |_::as,_::vs,a,v,d+1,h,g=>by simp only[ae]at h; simp only[List.set_cons_succ,ae]; exact⟨h.1,MM d h.2 g⟩
theorem MN{E E':Env}{s:St}{a:Act}(h:ae E s.fr a.tmps.toList)(hle:E.le E')(dst:Option Tmp){v:AV}{u:Value}(g:rel E' v u) :
  ae E' (lj s.fr dst v) (a.put dst u).tmps.toList:=by
 have h':=dw hle _ h;cases dst with
 |none=>exact h'
 | some d =>
  simp only[lj,Act.put,Array.toList_setIfInBounds];exact MM d h' g
def fz(r:Option Nat):Fence:={ Fence.wide with round:=r }
theorem MO{r:Option Nat}{n:Nat}{P:Program}{f:FuncId}{args:Array Value}{w:World}{R:Ending->World->Prop}(h:Calls P f args w R):CallsIn (fz r) n P f args w R:=(callsIn_wide (n:=n)).2 h
theorem put_defers(a:Act)(dst:Option Tmp)(v:Value):(a.put dst v).defers=a.defers:=by cases dst<;>rfl
theorem MP{ops:Array Oper}{s:St}{E:Env}{a:Act}(h:df s E a){o:Oper}{b:Bool}(hw:bY ops s.fr o=some b) :
  Wz o (yielded ops a.tmps)=b:=by
 unfold bY at hw;unfold Wz;cases g:o.guard with
 |none=>rw[g]at hw; simpa using hw
 | some q =>
  obtain⟨j,want⟩:=q;rw[g]at hw;simp only[]at hw|-;split at hw
  case h_2=>cases hw
  rename_i t k;split at hw
  ·rename_i v hb
   cases hw;obtain⟨u,g1,g2⟩:=oA h.fr hb;simp only[rel]at g2;subst g2;have d:a.tmps[t]? = some (.bool v):=by simpa using g1
   simp[yielded,k,d]
  ·rename_i hb
   cases hw;obtain⟨u,g1,g2⟩:=oA h.fr hb;simp only[rel]at g2;obtain⟨cs,rfl,_⟩:=g2;have d:a.tmps[t]? = some (.tuple cs):=by simpa using g1
   simp[yielded,k,d]
  ·cases hw
def fR(E:Env)(s':St)(g:Act)(w':World):Prop :=
 ∃ d r',df s' { w:=w',H:=s'.H,loc:=d,X:=E.X.re r' } g/\E.le { w:=w',H:=s'.H,loc:=d,X:=E.X.re r' }
theorem Fj{P:Program}{pf:FuncId->Bool}{ops:Array Oper}{s:St}{E:Env}{a:Act}(g:df s E a){i:Nat}{o:Oper}(hi:ops[i]? = some o){v:AV}{H':List ab}
  (d:Yields P pf ops o s v H') {K:Act->World->Prop} {Q:Exit->Act->World->Prop} (V:∀ O w',fR E (s.put o.dst v H') O w'->K O w') (ro:Option Nat):wpOpIn (fz ro) 0 P ops Q i K a E.w:=by
 have y:=g.eval;have hH:=g.H;have fin:∀{u:Value} {w':World},cM E v H' u w'->K (a.put o.dst u) w':=by
  rintro u w' ⟨U,r',h1,I,q⟩;exact V _ _ ⟨U,r',⟨rfl,MN g.fr q o.dst h1,by rw[put_defers]; exact Ex g.heap q g.defers,I⟩,q⟩
 have pure':H'=s.H->∀{u:Value} {w':World},iq E v u w'->cM E v H' u w':=by
  intro e u w' M;have:=M.toOp g.heap;rw[hH,<-e]at this;exact this
 have N:(fz ro).depth.isSome=true->1<=0:=fun h=>by cases h
 unfold wpOpIn;simp only[hi];unfold Yields at d;split at d
 ·cases d
 ·rename_i hw
  rw[MP g hw];simp only[Bool.false_eq_true,if_false];obtain⟨rfl,e⟩:=d;refine⟨fun _ _=>trivial,fin ?_⟩;rw[e,<-hH];exact⟨E.loc,E.X.r,by simp only[rel]; exact⟨#[],rfl,by simp[ae]⟩,g.heap,Env.le.refl E⟩
 ·rename_i hw
  rw[MP g hw];simp only[if_true];split at d
  ·obtain ⟨e, d⟩ := d
   rcases d with d|⟨f,args,h1,I,q⟩
   ·have k : ∀ c, o.op ≠ .defer c := fun c e => by rw [e] at d; cases d
    obtain⟨u,w',g1,g2⟩:=Yo g.heap y d;unfold qX;rw[qY _ _ _ k,g1];exact⟨fun _ _=>trivial,fin (pure' e g2)⟩
   ·have k : ∀ c, o.op ≠ .defer c := fun c e => by rw [e] at h1; cases h1
    obtain⟨cargs,g1,g2⟩:=ML y h1 I;unfold qX;rw[qY _ _ _ k,g1];refine⟨fun _ _=>trivial,N,MO ((q s.H E cargs hH g.heap g2).mono ?_)⟩;rintro _ w' ⟨c,W,H1,rfl,⟨rfl,rfl⟩,M⟩;exact fin (by rw[e]; exact M)
  ·obtain ⟨e, d⟩ := d
   rw[<-hH]at d;have k:∀ c,o.op≠.defer c:=fun c e=>by rw[e]at d; cases d
   obtain⟨u,g1,g2⟩:=Yt g.heap y d;unfold qX;rw[qY _ _ _ k,g1];exact⟨fun _ _=>trivial,fin (pure' e (iq.same g2))⟩
  ·rcases d with (d | ⟨f, args, h1, I, q⟩) | (⟨t, id, m, ho, d⟩ | ⟨t, id, ho, d⟩) | d
   ·have k : ∀ c, o.op ≠ .defer c := fun c e => by rw [e] at d; cases d
    rw[<-hH]at d;obtain⟨n,u,w',g1,g2,g3⟩:=Yp g.heap y d;unfold qX;rw[qY _ _ _ k,g1];rcases g2 with rfl|⟨rfl,rfl⟩
    ·exact⟨fun _ _=>trivial,fin g3⟩
    ·exact⟨fun _ _=>trivial,fin g3⟩
   ·have k : ∀ c, o.op ≠ .defer c := fun c e => by rw [e] at h1; cases h1
    obtain⟨cargs,g1,g2⟩:=ML y h1 I;unfold qX;rw[qY _ _ _ k,g1];refine⟨fun _ _=>trivial,N,MO ((q E cargs hH g.heap g2).mono ?_)⟩;rintro _ w' ⟨c,W,H1,rfl,⟨rfl,rfl⟩,M⟩;exact fin M
   ·rw [<- hH] at d
    obtain⟨u,w',g1,g2⟩:=Xx g.heap d;unfold qX;obtain⟨dst,op,type,pos,after,guard⟩:=o;simp only[]at ho;subst ho;have g3:(execOp a.eval ⟨dst,.alloc t,type,pos,after,guard⟩).run P E.w=.ok (.value u) w':=lR g1;rw[qY _ _ _ (fun c e=>by cases e),g3];exact⟨fun _ _=>trivial,fin g2⟩
   ·rw [<- hH] at d
    obtain⟨u,w',g1,g2⟩:=XJ (P:=P) (t:=t) g.heap d;unfold qX;obtain⟨dst,op,type,pos,after,guard⟩:=o;simp only[]at ho;subst ho;have g3:(execOp a.eval ⟨dst,.makeMap t none,type,pos,after,guard⟩).run P E.w=.ok (.value u) w':=lR g1;rw[qY _ _ _ (fun c e=>by cases e),g3];exact⟨fun _ _=>trivial,fin g2⟩
   ·have k : ∀ c, o.op ≠ .defer c := fun c e => by rw [e] at d; exact d
    rw[<-hH]at d;obtain⟨w',g1,g2⟩:=Yw g.heap y d;unfold qX;rw[qY _ _ _ k,g1];exact⟨fun _ _=>trivial,fin g2⟩
def jS(P:Program)(pf:FuncId->Bool)(ops:Array Oper):List Oper->St->St->Prop
 | [],s,s'=>s'=s
 |o::rest,s,s'=>∃ v H',Yields P pf ops o s v H'/\jS P pf ops rest (s.put o.dst v H') s'
theorem fR.after{E E':Env}{s':St}{d:Act}{w':World}(h:E.le E')(h':fR E' s' d w'):fR E s' d w':=by
 obtain⟨g,r',k,q⟩:=h';refine⟨g,r',?_,?_⟩
 ·rw[<-XS.Lu h.X]; exact k
 ·rw[<-XS.Lu h.X]; exact h.trans q
theorem fR.refl{s:St}{E:Env}{a:Act}(h:df s E a):fR E s a E.w:=by
 obtain⟨w,H,loc,X⟩:=E;have:=h.H;simp only at this;subst this;exact⟨loc,X.r,h,Env.le.refl _⟩
theorem Fk{P:Program}{pf:FuncId->Bool}{ops:Array Oper}{Q:Exit->Act->World->Prop}:∀(l:List Oper) (k:Nat) (s s':St) (E:Env) (a:Act),
  l=ops.toList.drop k->jS P pf ops l s s'->df s E a->(∀ d w',fR E s' d w'->Q .normal d w')->∀ ro:Option Nat,wpOpsIn (fz ro) 0 P ops Q (List.range' k l.length) a E.w
 | [],k,s,s',E,a,_,h,g,q,ro=>by
  simp only[jS]at h;subst h;exact q _ _ (fR.refl g)
 | o::l,k,s,s',E,a,u,h,g,q,ro=>by
  obtain⟨v,H',N,y⟩:=h;simp only[bG,List.range'_succ];rw[wpOpsIn_cons];have hk:ops[k]? = some o:=by
   have:(ops.toList.drop k)[0]? = some o:=by rw[<-u]; rfl
   simpa using this
  refine Fj g hk N (fun d w' O=>?_) ro;obtain⟨I,r',h1,U⟩:=O;refine Fk l (k+1) _ s' { w:=w',H:=H',loc:=I,X:=E.X.re r' } d ?_ y h1 (fun a2 V M=>q a2 V ?_) ro
  ·rw[<-qV,<-u]; rfl
  ·exact fR.after U M
def waits(ops:Array Oper):Nat->Nat->Nat->Bool
 |0,_,_=>false
 | n+1,j,i=>match ops[j]? with
  |some o=>o.after.toList.any fun e=>Lf .any e&&(e.on==i||waits ops n e.on i)
  |none=>false
def eS:Op->Bool
 |.alloc _=>true
 |.makeMap _ none=>true
 |_=>false
def oH(pf:FuncId->Bool)(x y:Oper):Bool :=
 match cX pf x.op,cX pf y.op with
 |.pure,_|_,.pure | .read,.read=>true
 |.read,.write=>eS y.op
 |_,_=>false
def tX(pf:FuncId->Bool)(ops:Array Oper):Bool :=
  alO ops &&
  (dB ops.size).all fun j=>(match ops[j]? with
    | some d=>(d.after.toList.all fun e => !Lf .any e||e.on<j) &&
      ((dB j).all fun i => match ops[i]? with
        |some g=>waits ops ops.size j i||(g.apart ops d&&d.apart ops g&&oH pf g d)
        |none=>true)
    |none=>true)
def tY(P:Program)(pf:FuncId->Bool)(ops:Array Oper)(i:Nat)(K:St->Prop)(s:St):Prop :=
 match ops[i]? with
 |none=>K s
 |some o=>∃ v H',Yields P pf ops o s v H'/\K (s.put o.dst v H')
def tZ(P:Program)(pf:FuncId->Bool)(ops:Array Oper)(s':St):Nat->Array Bool->St->Prop
 |0,listed,s=>mw .any ops listed=[]/\s=s'
 |fuel+1,listed,s=>(mw .any ops listed=[]->s=s')/\∀ i∈mw .any ops listed,tY P pf ops i (tZ P pf ops s' fuel (listed.setIfInBounds i true)) s
theorem A7{P:Program}{pf:FuncId->Bool}{ops:Array Oper}{s':St}{Q:Exit->Act->World->Prop}:∀(fuel:Nat) (listed:Array Bool) (s:St) (E:Env) (a:Act),
  df s E a->tZ P pf ops s' fuel listed s->(∀ k w',fR E s' k w'->Q .normal k w')->∀ ro:Option Nat,wpAnyIn (fz ro) 0 P .any ops Q fuel listed a E.w
 |0,_,s,E,a,d,h,g,_=>⟨h.1,g _ _ (h.2▸fR.refl d)⟩
 | fuel+1,listed,s,E,a,d,h,g,ro=>by
  refine⟨fun h0=>g _ _ (h.1 h0▸fR.refl d),fun i hi=>?_⟩;have h1:=h.2 i hi;unfold tY at h1;cases ho:ops[i]? with
  | none =>
   rw[ho]at h1;unfold wpOpIn;simp only[ho];exact A7 fuel _ s E a d h1 g ro
  | some o =>
   rw[ho]at h1;obtain⟨v,H',y,I⟩:=h1;refine Fj d ho y (fun k w' M=>?_) ro;obtain⟨q,r',g1,g2⟩:=M;exact A7 fuel _ _ { w:=w',H:=H',loc:=q,X:=E.X.re r' } k g1 I (fun a2 N u=>g a2 N (fR.after g2 u)) ro
theorem Yx{ops:Array Oper}{o:Oper}{t:Tmp}(h:Operand.tmp t∈o.op.operands):t∈o.looksAt ops :=
 List.mem_append_left _ (List.mem_filterMap.2 ⟨.tmp t,by simpa using h,rfl⟩)
theorem Yy{fr:List AV}{d t:Nat}{v:AV}(h:d≠t):(fr.set d v).getD t .undef=fr.getD t .undef:=by
 simp[List.getD_eq_getElem?_getD,aQ h]
theorem eval_put{ops:Array Oper}{s:St}{o:Oper}{dst:Option Tmp}{v:AV}{H':List ab}(h:∀ d,dst=some d->d∉o.looksAt ops){x:Operand}(k:x∈o.op.operands) :
  (s.put dst v H').eval x=s.eval x:=by
 cases dst with
 |none=>cases x<;>rfl
 | some d =>
  cases x with
  | tmp t =>
   have g:d≠t:=fun e=>h d rfl (e▸Yx k);simp only[St.eval,St.put,lj];exact Yy g
  |_=>rfl
theorem A8{ops:Array Oper}{fr:List AV}{o:Oper}{dst:Option Tmp}{v:AV}(h:∀ d,dst=some d->d∉o.looksAt ops) :
  bY ops (lj fr dst v) o=bY ops fr o:=by
 cases dst with
 |none=>rfl
 | some d =>
  unfold bY;cases q:o.guard with
  |none=>rfl
  | some u =>
   obtain⟨g,want⟩:=u;simp only[];cases y:(ops[g]?).bind (·.dst)with
   |none=>rfl
   | some t =>
    have k:d≠t:=fun e=>h d rfl (by subst e; simp[Oper.looksAt,q,y]);simp only[lj,aQ k]
theorem Yz(fr:List AV){x y:Option Tmp}(v u:AV)(h:∀ d,x=some d->y≠some d):lj (lj fr x v) y u=lj (lj fr y u) x v:=by
 cases x with
 |none=>rfl
 | some d =>
  cases y with
  |none=>rfl
  | some e =>
   have g:d≠e:=fun he=>h d rfl (he▸rfl);simp only[lj];rw[mv _ _ g]
theorem MQ{P:Program}{r r':Operand->AV}(o:Op)(h:∀ x∈o.operands,r x=r' x):jb P r o=jb P r' o:=by
 cases o<;>simp only[jb]<;>simp only[dY]at h
 case build t ps =>
  have:(ps.toList.map fun p=>(p.1,r p.2))=ps.toList.map fun p=>(p.1,r' p.2):=ki fun p d=>by
   rw[h p.2 (by simp; exact⟨p.1,by simpa using d⟩)]
  rw[this]
 case buildSlice t n ps =>
  have:(ps.toList.map fun p=>(p.1,r p.2))=ps.toList.map fun p=>(p.1,r' p.2):=ki fun p d=>by
   rw[h p.2 (by simp; exact⟨p.1,by simpa using d⟩)]
  rw[this]
 case makeFunc fn first captured =>
  unfold Fe;cases fn<;>try rfl
  have:(captured.toList.map r)=captured.toList.map r':=ki fun x g=>h x (by simp; right; simpa using g);simp only[this]
 case call c =>
  obtain⟨callee,args,argTypes⟩:=c;unfold Ff;cases callee<;>try rfl
  have:(args.toList.map r)=args.toList.map r':=ki fun x g=>h x (by simp[td]; simpa using g);simp only[this]
 case slice t x lo hi mx=>cases lo<;>cases hi<;>cases mx<;>simp_all
 all_goals (first|rfl|(simp_all; done))
theorem MR{P:Program}{r r':Operand->AV}{H:List ab}(o:Op)(h:∀ x∈o.operands,r x=r' x):fQ P r H o=fQ P r' H o:=by
 cases o<;>simp only[fQ]<;>simp only[dY]at h
 case call c =>
  obtain⟨callee,args,argTypes⟩:=c;unfold pN;cases callee<;>try rfl
  split
  ·rename_i a t d ha g
   have hm:a∈args:=by
    have:a∈args.toList:=by rw[show args.toList=[a] from ha]; simp
    simpa using this
   have:r a=r' a:=h a (by simp[td]; simpa using hm);simp only[this,d,ha,g]
  ·rfl
 all_goals (first|rfl|(simp_all; done))
theorem MS{P:Program}{r r':Operand->AV}{H:List ab}(o:Op)(h:∀ x∈o.operands,r x=r' x):cW P r H o=cW P r' H o:=by
  cases o<;>simp only[cW]<;>simp only[dY]at h
  case buildSlice t n ps =>
    have:(ps.toList.map fun p=>(p.1,r p.2))=ps.toList.map fun p=>(p.1,r' p.2):=ki fun p q=>by
      rw[h p.2 (by simp; exact⟨p.1,by simpa using q⟩)]
    rw[this]
  case call c =>
    obtain⟨callee,args,argTypes⟩:=c;unfold A5;cases callee<;>try rfl
    rename_i b;have d:∀ x,x∈args.toList->r x=r' x:=fun x u=>h x (by simp[td]; simpa using u);cases b<;>try rfl
    all_goals simp only[]
    all_goals split
    all_goals first
      |rfl
      | (rename_i s x t xt ha g
         rw[d s (by rw[ha]; simp),d x (by rw[ha]; simp)])
      | (rename_i x t ha g
         rw[d x (by rw[ha]; simp)])
      | (rename_i x k t v ha g
         rw[d x (by rw[ha]; simp),d k (by rw[ha]; simp)])
  case makeMap t res=>cases res<;>rfl
  case lookup t m k ok =>
    cases ok with
    |true=>rfl
    |false=>simp only[h m (by simp),h k (by simp)]
  case mapEntry t m k=>simp only[h m (by simp),h k (by simp)]
  case entryStore t m s x=>simp only[h m (by simp),h s (by simp),h x (by simp)]
  all_goals (first|rfl|(simp_all; done))
theorem MT{r r':Operand->AV}(o:Op)(h:∀ x∈o.operands,r x=r' x):iO r o=iO r' o:=by
 cases o<;>simp only[iO]<;>simp only[dY]at h
 rename_i c;obtain⟨callee,args,argTypes⟩:=c;unfold A6;cases callee<;>try rfl
 rename_i g;have d:r g=r' g:=h g (by simp[td]);have k:(args.toList.map r)=args.toList.map r':=ki fun x q=>h x (by simp[td]; right; simpa using q);simp only[d,k]
end Go.AL

namespace Go.AL
open Go
variable [Dr]
variable {P:Program} {pf:FuncId->Bool} {ops:Array Oper}
theorem gp{o:Oper}{s s1:St}{v:AV}{H':List ab}(hw:bY ops s1.fr o=bY ops s.fr o)(hr:∀ x∈o.op.operands,s1.eval x=s.eval x)(hH:s1.H=s.H) :
  Yields P pf ops o s1 v H'↔Yields P pf ops o s v H':=by
 unfold Yields;rw[hw,hH,MQ o.op hr,MR o.op hr,MS o.op hr,MT o.op hr,Yv o.op hr]
theorem xn{o:Oper}{s:St}{v:AV}{H':List ab}(d:cX pf o.op=.pure)(h:Yields P pf ops o s v H'):H'=s.H/\∀ H2,Yields P pf ops o ⟨s.fr,H2⟩ v H2:=by
 have key:∀ H2:List ab,∀ x∈o.op.operands,St.eval ⟨s.fr,H2⟩ x=s.eval x:=fun H2 x _=>by cases x<;>rfl
 unfold Yields at h;cases hw:bY ops s.fr o with
 |none=>rw[hw]at h; exact h.elim
 | some b =>
  rw[hw]at h;cases b with
  | false =>
   refine⟨h.2,fun H2=>?_⟩;unfold Yields;rw[show bY ops (St.mk s.fr H2).fr o=some false from hw];exact⟨h.1,rfl⟩
  | true =>
   simp only[d]at h;refine⟨h.1,fun H2=>?_⟩;unfold Yields;rw[show bY ops (St.mk s.fr H2).fr o=some true from hw];simp only[d];refine⟨trivial,?_⟩;rw[MQ o.op (key H2),MT o.op (key H2)];exact h.2
theorem rI{o:Oper}{s:St}{v:AV}{H':List ab}(d:cX pf o.op=.read)(h:Yields P pf ops o s v H'):H'=s.H:=by
 unfold Yields at h;simp only[d]at h;split at h
 ·cases h
 ·exact h.2
 ·exact h.1
theorem YA{r:Operand->AV}{H:List ab}{x:ab}{v:AV}:∀{op:Op},fQ P r H op=some v->fQ P r (H++[x]) op=some v:=by
 have get:∀{i:Nat} {y:ab},H[i]? = some y->(H++[x])[i]? = some y:=by
  intro i y h;rw[cK (List.getElem?_eq_some_iff.1 h).1];exact h
 intro op h;cases op<;>simp only[fQ]at h|-<;>try cases h
 case load t a =>
  unfold lM at h|-;split at h
  ·rename_i n agg u
   split at h
   ·exact h
   ·rename_i id ver w row col ha
    cases hi:H[id]? with
    |none=>rw[hi]at h; cases h
    |some y=>rw[hi]at h; rw[get hi]; exact h
   ·rename_i id l j w row col ha
    cases hi:H[id]? with
    |none=>rw[hi]at h; cases h
    |some y=>rw[hi]at h; rw[get hi]; exact h
   ·cases h
  ·cases h
 case lookup t m k ok =>
  split at h
  ·rename_i v1 h1
   cases h;have d:gl P t (r m) (r k) ok (H++[x])=some v:=by
    unfold gl at h1|-;split at h1
    ·rename_i I M id hm q
     cases hi:H[id]? with
     |none=>rw[hi]at h1; cases h1
     |some y=>rw[hi]at h1; rw[get hi]; exact h1
    ·cases h1
   rw[d]
  ·obtain ⟨d, g⟩ := My (H2 := H ++ [x]) (fun i l es ms cl hi => get hi) h
   rw[g,d]
 case call c =>
  unfold pN at h|-;split at h
  ·split at h
   ·rename_i id _ _
    cases hi:H[id]? with
    |none=>rw[hi]at h; cases h
    |some y=>rw[hi]at h; rw[get hi]; exact h
   ·cases h
  ·cases h
theorem YB{r:Operand->AV}{H:List ab}{id:Nat}{x y:ab}{v:AV}(hid:H[id]? = some y)(d:(∃ k,y=.vec k 0 [])\/y=.eP):∀{op:Op},fQ P r H op=some v->fQ P r (H.set id x) op=some v:=by
 have get:∀{i:Nat},i≠id->(H.set id x)[i]? = H[i]? := fun h=>aQ (Ne.symm h);intro op h;cases op<;>simp only[fQ]at h|-<;>try cases h
 case load t a =>
  unfold lM at h|-;split at h
  ·rename_i n agg I
   split at h
   ·exact h
   ·rename_i i ver w row col ha
    by_cases e:i=id
    ·subst e
     rw[hid]at h;rcases d with⟨k,rfl⟩|rfl<;>simp at h
    ·rw [get e]
     exact h
   ·rename_i i l j w row col ha
    by_cases e:i=id
    ·subst e
     rw[hid]at h;rcases d with⟨k,rfl⟩|rfl<;>simp at h
    ·rw [get e]
     exact h
   ·cases h
  ·cases h
 case lookup t m k ok =>
  split at h
  ·rename_i v1 h1
   cases h;have g:gl P t (r m) (r k) ok (H.set id x)=some v:=by
    unfold gl at h1|-;split at h1
    ·rename_i M N i hm u
     by_cases e:i=id
     ·subst e
      rw[hid]at h1;rcases d with⟨k,rfl⟩|rfl<;>simp at h1
     ·rw [get e]
      exact h1
    ·cases h1
   rw[g]
  ·obtain ⟨g,q⟩:=My (H2:=H.set id x) (fun i l es ms cl hi=>by
    have e:i≠id:=fun e=>by
     rw[e,hid]at hi;rcases d with⟨k,rfl⟩|rfl<;>cases hi
    rw[get e];exact hi) h
   rw[q,g]
 case call c =>
  unfold pN at h|-;split at h
  ·split at h
   ·rename_i i _ _
    by_cases e:i=id
    ·subst e
     rw[hid]at h;rcases d with⟨k,rfl⟩|rfl<;>simp at h
    ·rw [get e]
     exact h
   ·cases h
  ·cases h
theorem MU{P:Program}{t:TypeId}{id:Nat}{m:List (Option (List Kd))}{H H':List ab}{v:AV}(h:pL P t id m H=some (v,H')) :
  ∃ z k,eR P t=some z/\H[id]? = some (.vec k 0 [])/\k=z.length/\v=.ptr id 1 k 0 0/\H'=H.set id (.vec k 1 [er m z]):=by
 unfold pL at h;split at h
 ·rename_i z k d hid
  split at h
  ·rename_i hk
   cases h;exact⟨z,k,d,hid,hk,rfl,rfl⟩
  ·cases h
 ·cases h
theorem MV{P:Program}{t:TypeId}{id:Nat}{H:List ab}{z:List Value}{k:Nat} (m:List (Option (List Kd))) (d:eR P t=some z) (hid:H[id]? = some (.vec k 0 [])) (hk:k=z.length) :
  pL P t id m H=some (.ptr id 1 k 0 0,H.set id (.vec k 1 [er m z])):=by
 unfold pL;rw[d,hid];simp only[];rw[if_pos hk]
theorem MW{I q:Oper}{s:St}{v u:AV}{W g:List ab}(h1:I.apart ops q=true)(_h2:q.apart ops I=true)(M:oH pf I q=true)
  (hi:Yields P pf ops I s v W) (hj:Yields P pf ops q (s.put I.dst v W) u g) :
  ∃ Hj1,Yields P pf ops q s u Hj1/\Yields P pf ops I (s.put q.dst u Hj1) v g:=by
 obtain⟨a1,a2,a3⟩:=Lg h1;have wj:bY ops (s.put I.dst v W).fr q=bY ops s.fr q:=A8 a1;have wi:∀ H2,bY ops (s.put q.dst u H2).fr I=bY ops s.fr I:=fun H2=>A8 a3;have ej:∀ x∈q.op.operands,(s.put I.dst v W).eval x=s.eval x:=fun x N=>eval_put a1 N;have ei:∀ H2,∀ x∈I.op.operands,(s.put q.dst u H2).eval x=s.eval x:=fun H2 x N=>eval_put a3 N;unfold oH at M;split at M
 ·-- I only computes
  rename_i U;obtain⟨O,g1⟩:=xn U hi;subst O;refine⟨g,(gp wj ej rfl).1 hj,?_⟩;exact(gp (s1:=s.put q.dst u g) (s:=⟨s.fr,g⟩) (wi g) (fun x N=>by rw[ei g x N]; cases x<;>rfl) rfl).2 (g1 g)
 ·-- q only computes
  rename_i V _;obtain⟨O,g1⟩:=xn V hj;have e1':g=W:=O;subst e1';refine⟨s.H,?_,?_⟩
  ·have := g1 s.H
   exact(gp (s1:=⟨(s.put I.dst v g).fr,s.H⟩) (s:=s) wj (fun x N=>by
    have:=ej x N;cases x<;>exact this) rfl).1 this
  ·exact(gp (s1:=s.put q.dst u s.H) (s:=s) (wi s.H) (ei s.H) rfl).2 hi
 ·rename_i U V
  have O:=rI U hi;subst O;have e2:=rI V hj;have e2':g=s.H:=e2;subst e2';exact⟨s.H,(gp wj ej rfl).1 hj,(gp (s1:=s.put q.dst u s.H) (s:=s) (wi s.H) (ei s.H) rfl).2 hi⟩
 ·rename_i U V
  have O:=rI U hi;subst O;have d:=(gp wj ej rfl).1 hj;refine⟨g,d,?_⟩;have hpush:g=s.H\/(∃ x,g=s.H++[x])\/∃ id y x,s.H[id]? = some y/\((∃ k,y=.vec k 0 [])\/y=.eP)/\g=s.H.set id x:=by
   unfold Yields at d;simp only[V]at d;split at d
   ·exact d.elim
   ·exact .inl d.2
   ·rcases d with (d | ⟨f, args, h1, _⟩) | (⟨t, id, m, ho, hv⟩ | ⟨t, id, ho, hv⟩) | hst
    ·unfold eS at M
     split at M
     ·rename_i t ho
      rw[ho]at d;simp only[cW,ru]at d;split at d
      ·split at d
       ·cases d; exact .inr (.inl ⟨_,rfl⟩)
       ·cases d
      ·split at d
       ·cases d; exact .inr (.inl ⟨_,rfl⟩)
       ·cases d
     ·rename_i t ho
      rw[ho]at d;simp only[cW]at d;cases d;exact .inr (.inl ⟨_,rfl⟩)
     ·cases M
    ·unfold eS at M
     split at M
     ·rename_i t ho
      rw[ho]at h1;cases h1
     ·rename_i t ho
      rw[ho]at h1;cases h1
     ·cases M
    ·obtain ⟨z, k, _, h2, _, _, h3⟩ := MU hv
     exact .inr (.inr ⟨id,_,_,h2,.inl ⟨k,rfl⟩,h3⟩)
    ·obtain ⟨h1, _, h3⟩ := EZ hv
     exact .inr (.inr ⟨id,_,_,h1,.inr rfl,h3⟩)
    ·unfold eS at M
     split at M
     ·rename_i t ho
      rw[ho]at hst;exact hst.elim
     ·rename_i t ho
      rw[ho]at hst;exact hst.elim
     ·cases M
  refine(gp (s1:=s.put q.dst u g) (s:=⟨s.fr,g⟩) (wi g) (fun x N=>by rw[ei g x N]; cases x<;>rfl) rfl).2 ?_;have key:∀ H2:List ab,St.eval ⟨s.fr,H2⟩=s.eval:=fun H2=>by funext x; cases x<;>rfl
  unfold Yields at hi|-;simp only[U]at hi|-;cases hw:bY ops s.fr I with
  |none=>rw[hw]at hi; exact hi.elim
  | some b =>
   rw[hw]at hi;cases b with
   |false=>exact⟨hi.1,by simp⟩
   | true =>
    refine⟨by simp,?_⟩;rw[key];rcases hpush with rfl|⟨x,rfl⟩|⟨id,y,x,hid,hy,rfl⟩
    ·exact hi.2
    ·exact YA hi.2
    ·exact YB hid hy hi.2
 ·cases M
def Fl(ops:Array Oper)(listed:Array Bool)(j:Nat):Prop :=
 ∀ o,ops[j]? = some o->∀ e∈o.after,Lf .any e=true->listed.getD e.on false=true
def rJ(ops:Array Oper)(listed:Array Bool):Prop:=∀ j,listed.getD j false=true->Fl ops listed j
theorem Fm{listed:Array Bool}(d:rJ ops listed):∀(n j i:Nat),Fl ops listed j->waits ops n j i=true->listed.getD i false=true
 |0,_,_,_,h=>by simp[waits]at h
 | n+1,j,i,k,h=>by
  unfold waits at h;split at h
  ·rename_i o ho
   rw[lI]at h;obtain⟨e,he,hb⟩:=h;simp only[ax,qZ,beq_iff_eq]at hb;have g:=k o ho e (by simpa using he) hb.1;rcases hb.2 with rfl|hw
   ·exact g
   ·exact Fm d n e.on i (d _ g) hw
  ·cases h
theorem Fo{listed:Array Bool}{j:Nat}(h:j∈mw .any ops listed):Fl ops listed j:=by
 obtain⟨_,o,ho,g⟩:=mem_ready.1 h;intro o' d;rw[ho]at d;cases d;exact g
theorem A9{listed:Array Bool}(g:rJ ops listed){j:Nat}(q:j∈mw .any ops listed):rJ ops (listed.setIfInBounds j true):=by
 intro k hk o ho e he hb;by_cases d:j=k
 ·subst d
  exact getD_set_true (Fo q o ho e he hb)
 ·have:listed.getD k false=true:=by
   have h:=hk;simp[Array.getElem?_setIfInBounds_ne d]at h;simpa using h
  exact getD_set_true (g k this o ho e he hb)
theorem MX(s:St)(x y:Option Tmp)(v u:AV)(H1 H2 g:List ab)(h:∀ d,x=some d->y≠some d):(s.put x v H1).put y u H2=(s.put y u g).put x v H2:=by
 simp only[St.put,Yz s.fr v u h]
theorem MY{listed:Array Bool}{i:Nat}(h:i∈mw .any ops listed):listed.getD i false=false:=by
 obtain⟨h0,_⟩:=mem_ready.1 h;rcases kU i listed.size with h'|h'
 ·simp[h']at h0|-; exact h0
 ·simp[Lh h']at h0
theorem YC{s':St}{i:Nat}{q:Oper}(hi:ops[i]? = some q):∀(fuel:Nat) (listed:Array Bool) (s:St) (v:AV) (H':List ab),rJ ops listed ->
  (∀ j g,ops[j]? = some g->j≠i->listed.getD j true=false->waits ops ops.size j i=false->q.apart ops g=true/\g.apart ops q=true/\oH pf q g=true) ->
  i∈mw .any ops listed->Yields P pf ops q s v H'->tZ P pf ops s' fuel (listed.setIfInBounds i true) (s.put q.dst v H')->tZ P pf ops s' (fuel+1) listed s:=by
 intro fuel
 induction fuel with
 | zero =>
  intro listed s v H' _ _ hr I H;refine⟨fun h=>(by rw[h]at hr; cases hr),fun j y=>?_⟩;by_cases d:j=i
  ·subst d
   unfold tY;simp only[hi];exact⟨v,H',I,H⟩
  ·have := ready_mono y d
   rw[H.1]at this;cases this
 | succ fuel ih =>
  intro listed s v H' U N hr I H;refine⟨fun h=>(by rw[h]at hr; cases hr),fun j y=>?_⟩;by_cases d:j=i
  ·subst d
   unfold tY;simp only[hi];exact⟨v,H',I,H⟩
  ·have h1 := H.2 j (ready_mono y d)
   obtain⟨O,g,V,hall⟩:=mem_ready.1 y;unfold tY at h1|-;simp only[V]at h1|-;obtain⟨u,Hj,hyj,hrest⟩:=h1;have hnw:waits ops ops.size j i=false:=by
    cases hw:waits ops ops.size j i with
    |false=>rfl
    | true =>
     have:=Fm U _ _ _ (Fo y) hw;rw[MY hr]at this;cases this
   obtain⟨a1,a2,a3⟩:=N j g V d O hnw;obtain⟨M,q1,q2⟩:=MW a1 a2 a3 I hyj;refine⟨u,M,q1,?_⟩;refine ih (listed.setIfInBounds j true) (s.put g.dst u M) v Hj (A9 U y) ?_ (ready_mono hr (Ne.symm d)) q2 ?_
   ·intro k ok hk hki W hno
    refine N k ok hk hki ?_ hno;by_cases hjk:j=k
    ·subst hjk; exact O
    ·rw[getD_set_ne true hjk]at W; exact W
   ·rw [alP _ _ d]
    have:=MX s q.dst g.dst v u H' Hj M (Lg a1).2.1;rw[<-this];exact hrest
theorem MZ{s':St}(hB:tX pf ops=true):∀(l:List Oper) (k:Nat) (listed:Array Bool) (s:St),l=ops.toList.drop k->rJ ops listed->listed.size=ops.size ->
  (∀ j,j<ops.size->(listed.getD j true=false↔k<=j))->jS P pf ops l s s'->tZ P pf ops s' l.length listed s
 | [],k,listed,s,u,_,M,hk,h=>by
  simp only[jS]at h;refine⟨?_,h.symm⟩;apply alQ.2;intro j d;obtain⟨h0,o,ho,_⟩:=mem_ready.1 d;have q:j<ops.size:=(k5.1 ho).1;have:=(hk j q).1 h0;have hlen:(ops.toList.drop k).length=0:=by rw[<-u]; rfl
  simp at hlen;omega
 | o::l,k,listed,s,u,N,M,hk,h=>by
  obtain⟨v,H',hy,V⟩:=h;have h0:ops[k]? = some o:=by
   have:(ops.toList.drop k)[0]? = some o:=by rw[<-u]; rfl
   simpa using this
  have q:k<ops.size:=(k5.1 h0).1;simp only[tX,ax,da,fu]at hB;obtain⟨_,y⟩:=hB;have U:∀ j,j<k->listed.getD j false=true:=by
   intro j d;have O:¬ (listed.getD j true=false):=fun e=>by have:=(hk j (by omega)).1 e; omega
   have:j<listed.size:=by omega
   simp[this]at O|-;exact O
  have I:k∈mw .any ops listed:=by
   refine mem_ready.2 ⟨(hk k q).2 (aB _),o,h0,fun e he hb=>?_⟩;have:=y k q;rw[h0]at this;simp only[ax,da]at this;have h1:=this.1 e (by simpa using he);simp only[hb,Aj,wK,decide_eq_true_eq]at h1;exact U e.on h1
  refine YC h0 l.length listed s v H' N ?_ I hy ?_
  ·intro j oj d hjk W hnw
   have g:j<ops.size:=(k5.1 d).1;have hkj:k<=j:=(hk j g).1 W;have:=y j g;rw[d]at this;simp only[ax,da,fu]at this;have h1:=this.2 k (by omega);rw[h0]at h1;simp only[hnw,wK,ax]at h1;exact⟨h1.1.1,h1.1.2,h1.2⟩
  ·refine MZ (by simp only [tX, ax, da, fu]; exact ⟨‹_›, y⟩) l (k + 1) _ _ ?_ (A9 N I) (by simpa using M) ?_ V
   ·rw[<-qV,<-u]; rfl
   ·intro j g
    by_cases e:k=j
    ·subst e
     have:k<listed.size:=by omega
     simp[this]
    ·rw [getD_set_ne true e, hk j g]
     omega
theorem YD{id:Nat}{s s':St}{E:Env}{a:Act}{Q:Exit->Act->World->Prop}(hm:P.follows .mixedOrders=true)(hB:tX pf ops=true)(d:df s E a)
  (h:jS P pf ops ops.toList s s') (u:∀ g w',fR E s' g w'->Q .normal g w'):∀ ro:Option Nat,(Code.region id ops true).wpIn (fz ro) 0 P Q a E.w:=by
 intro ro;have q:df s { E with w:={ E.w with drawn:=E.w.drawn+1 } } a:=⟨d.H,dw (Env.kl (Ext.drawn E.w _)) _ d.fr,Ex d.heap (Env.kl (Ext.drawn E.w _)) d.defers,d.heap.ext (Ext.drawn E.w _)⟩
 refine wpIn_region_any hm (A7 (pf:=pf) _ _ s { E with w:={ E.w with drawn:=E.w.drawn+1 } } a q ?_ (fun g w' v=>u g w' (fR.after (Env.kl (Ext.drawn E.w _)) v)) ro);have:=MZ (P:=P) (s':=s') hB ops.toList 0 (te ops.size false) s (by simp) (by
  intro j k;exfalso;rcases kU j ops.size with h'|h'
  ·simp[h']at k
  ·simp[Lh (xs:=te ops.size false) (by simpa using h')]at k) (by simp) (by intro j k; simp[k]) h
 simpa using this
theorem YE{id:Nat}{s s':St}{E:Env}{a:Act}{Q:Exit->Act->World->Prop}(g:df s E a)
  (h:jS P pf ops ops.toList s s') (k:∀ d w',fR E s' d w'->Q .normal d w'):∀ ro:Option Nat,(Code.region id ops false).wpIn (fz ro) 0 P Q a E.w:=by
 intro ro;refine wpIn_region ?_;have:=Fk (Q:=Q) ops.toList 0 s s' E a (by simp) h g k ro;rw[List.range_eq_range'];simpa using this
end Go.AL

namespace Go.AL
open Go
variable [Dr]
inductive bU where
 |normal
 |exit (id:Nat)
 |ret
 deriving DecidableEq
def bU.toExit:bU->Exit
 |.normal=>.normal
 |.exit id=>.exit id
 |.ret=>.ret
structure Env.fS (m:Nat) (E E':Env):Prop where
 past:∀ id,id<m->E.past id 0->E'.past id 0
 size:E.w.heap.size<=E'.w.heap.size
 same:∀ b,b<E.w.heap.size->¬ E.own b->E'.w.heap[b]? = E.w.heap[b]?
 own:∀ b,b<E.w.heap.size->¬ E.own b->¬ E'.own b
 live:∀ id,id<m->E.past id 0->E'.live id 0->E.live id 0/\E'.loc[id]? = E.loc[id]?
 X:∀ b,b<E.w.heap.size->(E'.X b↔E.X b)/\(E'.X.z b↔E.X.z b)
 rl:∀ l h,h<(E.X.r l).length->h<(E'.X.r l).length/\∀ q,(E'.X.r l)[h]? = some (some q)->(E.X.r l)[h]? = some (some q)
 env:eE E.w E'.w
 grow:∀ id,id<m->∀ l o,E.H[id]? = some o->o.dc=some l->E'.live id 0->(∃ t,E'.X.r l=E.X.r l++t)/\∃ o',E'.H[id]? = some o'/\o'.dc=some l
theorem Env.le.toM{m:Nat}{E E':Env}(h:E.le E'):E.fS m E':=⟨fun id _ d=>h.past id 0 d,h.size,h.same,h.own,fun id _ d g=>h.live id 0 d g,fun b _=>by rw[show E'.X.x=E.X.x from h.X.1,show E'.X.z=E.X.z from h.X.2]; exact⟨Iff.rfl,Iff.rfl⟩,h.rl,h.env,fun id _ l o h1 k q=>h.grow id l o h1 k q⟩
def M0(H:List ab):Prop:=∀ o∈H,o.aF = some 0
theorem Env.fS.full{m:Nat}{E E':Env}(h:E.fS m E')(hX:E'.X.x=E.X.x/\E'.X.z=E.X.z)(hm:E.H.length<=m)(k:M0 E.H):E.le E':=by
 have key:∀ id ver,E.past id ver->id<m/\ver=0:=by
  rintro id ver ⟨o,ho,q⟩;have h1:=aG ho;have g:=q.2 0 (k o (List.mem_of_getElem? ho));exact⟨by omega,by omega⟩
 refine⟨fun id ver d=>?_,h.size,h.same,h.own,fun id ver d u=>?_,hX,h.rl,h.env,fun id l o h1 g v=>h.grow id (dM (aG h1) hm) l o h1 g v⟩
 ·obtain ⟨h1, rfl⟩ := key id ver d
  exact h.past id h1 d
 ·obtain ⟨h1, rfl⟩ := key id ver d
  exact h.live id h1 d u
theorem Env.fS.trans{m:Nat}{E E' I:Env}(h:E.fS m E')(h':E'.fS m I):E.fS m I where
 past:=fun id hi g=>h'.past id hi (h.past id hi g)
 size:=Nat.le_trans h.size h'.size
 same:=fun b hb ho=>by rw[h'.same b (dM hb h.size) (h.own b hb ho),h.same b hb ho]
 own:=fun b hb ho=>h'.own b (dM hb h.size) (h.own b hb ho)
 live:=fun id hi hid U=>by
  obtain⟨k,a2⟩:=h'.live id hi (h.past id hi hid) U;obtain⟨b1,u⟩:=h.live id hi hid k;exact⟨b1,by rw[a2,u]⟩
 X:=fun b hb=>by
  have h1:=h'.X b (dM hb h.size);have d:=h.X b hb;exact⟨h1.1.trans d.1,h1.2.trans d.2⟩
 rl:=fun l i hi=>by
  obtain⟨k,a2⟩:=h.rl l i hi;obtain⟨b1,u⟩:=h'.rl l i k;exact⟨b1,fun q V=>a2 q (u q V)⟩
 env:=h.env.trans h'.env
 grow:=fun id hi l o h1 d y=>by
  have g:E.past id 0:=⟨o,h1,ab.Ej d,fun v y=>Nat.zero_le _⟩
  obtain⟨M,_⟩:=h'.live id hi (h.past id hi g) y;obtain⟨⟨t,W⟩,o',g1,g2⟩:=h.grow id hi l o h1 d M;obtain⟨⟨t',N⟩,O,g3,g4⟩:=h'.grow id hi l o' g1 g2 y;exact⟨⟨t++t',by rw[N,W,List.append_assoc]⟩,O,g3,g4⟩
def eH(m:Nat)(E:Env)(s':St)(g:Act)(w':World):Prop :=
 ∃ d X',df s' { w:=w',H:=s'.H,loc:=d,X:=X' } g/\E.fS m { w:=w',H:=s'.H,loc:=d,X:=X' }
theorem fR.toM{m:Nat}{E:Env}{s':St}{a:Act}{w:World}(h:fR E s' a w):eH m E s' a w:=let ⟨loc,r,h1,d⟩:=h; ⟨loc,E.X.re r,h1,d.toM⟩
theorem eH.after{m:Nat}{E E':Env}{s':St}{d:Act}{w':World}(h:E.fS m E')(h':eH m E' s' d w'):eH m E s' d w':=by
 obtain⟨g,X',h1,k⟩:=h';exact⟨g,X',h1,h.trans k⟩
theorem eH.refl{m:Nat}{s:St}{E:Env}{a:Act}(h:df s E a):eH m E s a E.w:=(fR.refl h).toM
def je:Code->Bool
 |.seq a b=>je a&&je b
 |.cond _ a b=>je a&&je b
 |.block _ c=>je c
 |.loop c=>je c
 |.scope c=>je c
 |.rangeFunc ..=>false
 |_=>true
def gq(ro:Option Nat)(c:Code):Prop:=ro=none\/je c=true
theorem gq.seq1{ro:Option Nat}{a b:Code}(h:gq ro (.seq a b)):gq ro a:=h.imp id fun h=>by
 have h:(je a&&je b)=true:=h;exact(ax _ _▸h).1
theorem gq.M1{ro:Option Nat}{a b:Code}(h:gq ro (.seq a b)):gq ro b:=h.imp id fun h=>by
 have h:(je a&&je b)=true:=h;exact(ax _ _▸h).2
theorem gq.cond{ro:Option Nat}{o:Operand}{a b:Code}(t:Bool)(h:gq ro (.cond o a b)):gq ro (if t then a else b):=h.imp id fun h=>by
 have h:(je a&&je b)=true:=h;cases t
 ·exact(ax _ _▸h).2
 ·exact(ax _ _▸h).1
theorem gq.block{ro:Option Nat}{i:Nat}{a:Code}(h:gq ro (.block i a)):gq ro a:=h
theorem gq.loop{ro:Option Nat}{a:Code}(h:gq ro (.loop a)):gq ro a:=h
theorem M2(c:Code):gq none c:=.inl rfl
def dp(P:Program)(m:Nat)(c:Code)(s:St)(x:bU)(s':St):Prop :=
 ∀(ro:Option Nat),gq ro c->∀(E:Env) (a:Act),df s E a->c.wpIn (fz ro) 0 P (fun e d g=>e=x.toExit/\eH m E s' d g) a E.w
def bh(m:Nat)(s s':St):Prop:=∀(E:Env) (a:Act),df s E a->eH m E s' a E.w
theorem bh.refl{m:Nat}(s:St):bh m s s:=fun _ _ h=>eH.refl h
theorem bh.trans{m:Nat}{s s1 s2:St}(h:bh m s s1)(h':bh m s1 s2):bh m s s2:=fun E a d=>by
 obtain⟨loc,X,h1,g⟩:=h E a d;exact eH.after g (h' _ a h1)
theorem eH.weaken{m:Nat}{E:Env}{s s':St}{a:Act}{w:World}(h:eH m E s a w)(hle:bh m s s'):eH m E s' a w:=by
 obtain⟨loc,X,h1,d⟩:=h;exact eH.after d (hle _ a h1)
section rules
variable {P:Program} {m:Nat} {s s' s1:St} {x:bU}
theorem t_{c:Code}(hle:bh m s s1)(h:dp P m c s1 x s'):dp P m c s x s':=fun ro ho E a d=>by
 obtain⟨loc,X,h1,g⟩:=hle E a d;exact wpIn_mono (h ro ho { w:=E.w,H:=s1.H,loc:=loc,X:=X } a h1) fun e u v ⟨k,q⟩=>⟨k,eH.after g q⟩
theorem ua{c:Code}(h:dp P m c s x s1)(hle:bh m s1 s'):dp P m c s x s':=fun ro ho E a d =>
 wpIn_mono (h ro ho E a d) fun _ _ _ ⟨g,k⟩=>⟨g,k.weaken hle⟩
theorem YF:dp P m .skip s .normal s:=fun _ _ _ _ d=>wpIn_skip ⟨rfl,eH.refl d⟩
theorem YG:dp P m .ret s .ret s:=fun _ _ _ _ d=>wpIn_ret ⟨rfl,eH.refl d⟩
theorem YH{id:Nat}:dp P m (.exit id) s (.exit id) s:=fun _ _ _ _ d=>wpIn_exit ⟨rfl,eH.refl d⟩
theorem YI{pf:FuncId->Bool}{id:Nat}{ops:Array Oper}{draw:Bool}(hm:P.follows .mixedOrders=true)(k:draw=true->tX pf ops=true)(h:jS P pf ops ops.toList s s') :
  dp P m (.region id ops draw) s .normal s':=fun ro ho E a g=>by
 cases draw with
 |false=>exact YE g h (fun q w' d=>⟨rfl,d.toM⟩) ro
 |true=>exact YD hm (k rfl) g h (fun q w' d=>⟨rfl,d.toM⟩) ro
theorem M3{c d:Code}(h:dp P m c s .normal s1)(h':dp P m d s1 x s'):dp P m (.seq c d) s x s':=fun ro ho E a g =>
 wpIn_seq (wpIn_mono (h ro ho.seq1 E a g) fun e k N ⟨q,u⟩=>by
  subst q;obtain⟨loc,X,v,y⟩:=u;exact wpIn_mono (h' ro ho.M1 _ k v) fun _ _ _ ⟨I,M⟩=>⟨I,eH.after y M⟩)
theorem M4{c d:Code}(h:dp P m c s x s')(k:x≠.normal):dp P m (.seq c d) s x s':=fun ro ho E a q =>
 wpIn_seq (wpIn_mono (h ro ho.seq1 E a q) fun e v y ⟨u,g⟩=>by
  subst u;cases x with
  |normal=>exact(k rfl).elim
  |exit id=>exact⟨rfl,g⟩
  |ret=>exact⟨rfl,g⟩)
theorem M5{o:Operand}{c d:Code}{b:Bool}(hb:s.eval o=.lit (.bool b))(h:dp P m (if b then c else d) s x s'):dp P m (.cond o c d) s x s':=fun ro ho E a g=>by
 have:=g.eval o;rw[hb]at this;simp only[rel]at this;exact wpIn_cond this (h ro (ho.cond b) E a g)
def bU.inBlock(id:Nat):bU->bU
 |.exit i=>if i=id then .normal else .exit i
 |x=>x
theorem YJ{id:Nat}{c:Code}(h:dp P m c s x s'):dp P m (.block id c) s (x.inBlock id) s':=fun ro ho E a g =>
 wpIn_block (wpIn_mono (h ro ho E a g) fun e q u ⟨k,d⟩=>by
  subst k;cases x with
  |normal=>exact⟨rfl,d⟩
  | exit i =>
   simp only[bU.toExit,Exit.inBlock,bU.inBlock];split
   ·exact⟨rfl,d⟩
   ·exact⟨rfl,d⟩
  |ret=>exact⟨rfl,d⟩)
def ub(P:Program)(m:Nat)(c:Code):Nat->St->bU->St->Prop
 |0,s,x,s'=>x≠.normal/\dp P m c s x s'
 |n+1,s,x,s'=>∃ s1,dp P m c s .normal s1/\ub P m c n s1 x s'
def lS(P:Program)(m:Nat)(c:Code)(s:St)(x:bU)(s':St):Prop:=∃ n,ub P m c n s x s'
theorem lS.stop{c:Code}(h:dp P m c s x s')(d:x≠.normal):lS P m c s x s':=⟨0,d,h⟩
theorem lS.next{c:Code}(h:dp P m c s .normal s1)(h':lS P m c s1 x s'):lS P m c s x s':=let ⟨n,d⟩:=h'; ⟨n+1,s1,h,d⟩
theorem lS.pre{c:Code}(hle:bh m s s1)(h:lS P m c s1 x s'):lS P m c s x s':=by
 obtain⟨n,d⟩:=h;cases n with
 |zero=>exact⟨0,d.1,t_ hle d.2⟩
 | succ n =>
  obtain⟨s2,h1,g⟩:=d;exact⟨n+1,s2,t_ hle h1,g⟩
theorem M6{c:Code}(h:lS P m c s x s'):dp P m (.loop c) s x s':=fun ro ho E a hs b k cs O hb hr=>by
 obtain⟨n,hn⟩:=h;have key:∀(n:Nat) (s1:St) (d:Env) (a:Act),df s1 d a->E.fS m d->ub P m c n s1 x s' ->
   ∃ e q w',(e=x.toExit/\eH m E s' q w')/\ArrivesIn (Machine.fenced P (fz ro)) P (lone (b.atR a (.code c::.inLoop c::k)) cs d.w) b k cs e q w':=by
  intro n
  induction n with
  | zero =>
   intro s1 d a I hle v;obtain⟨hx,y⟩:=v;obtain⟨e,M,U,⟨u,h4⟩,g⟩:=y ro ho.loop d a I b (.inLoop c::k) cs O hb hr;refine⟨e,M,U,⟨u,eH.after hle h4⟩,?_⟩;subst u;exact .pass (x:=.inLoop c) rfl (fun _ _=>.inl (by cases x<;>simp_all[bU.toExit])) g
  | succ n ih =>
   intro s1 d a I hle v;obtain⟨s2,y,V⟩:=v;obtain⟨e,M,U,⟨u,loc,X,h5,h6⟩,g⟩:=y ro ho.loop d a I b (.inLoop c::k) cs O hb hr;subst u;obtain⟨e2,a2,w2,N,W⟩:=ih s2 _ M h5 (hle.trans h6) V;exact⟨e2,a2,w2,N,.of_steps (StepsIn.trans g (.one (fenced_calm hb hr rfl) stepR_inLoop)) W⟩
 obtain⟨e,q,w',N,g⟩:=key n s E a hs (Env.le.refl E).toM hn;exact⟨e,q,w',N,.of_steps (.one (fenced_calm hb hr rfl) stepR_loop) g⟩
end rules
def A_(P:Program)(s:St):ResultVar->Option AV
 |.tmp t=>some (s.fr.getD t .undef)
 |.cell a t=>lM P t (s.fr.getD a .undef) s.H
def mJ(P:Program)(s:St):List ResultVar->Option (List AV)
 | []=>some []
 | r::rs=>match A_ P s r,mJ P s rs with
  |some v,some vs=>some (v::vs)
  |_,_=>none
def eI:List AV->AV
 | [v]=>v
 |vs=>.tuple vs
def Fp(tmps:Array Value):ResultVar->Sem Value
 |.tmp t=>pure (tmps.getD t undef)
 |.cell a t=>do loadVar t (<- asAddr (tmps.getD a undef))
theorem YK{P:Program}{s:St}{E:Env}{a:Act}(k:df s E a){r:ResultVar}{v:AV}(h:A_ P s r=some v) :
  ∃ u,(Fp a.tmps r).run P E.w=.ok u E.w/\rel E v u:=by
 cases r with
 | tmp t =>
  simp only[A_,aM]at h;subst h;exact⟨_,rfl,k.eval (.tmp t)⟩
 | cell x t =>
  simp only[A_]at h;rw[<-k.H]at h;have d:=k.eval (.tmp x);simp only[St.eval,Act.eval]at d;obtain⟨u,g1,g2⟩:=LI k.heap h d;refine⟨u,?_,g2⟩;have q:∃ b o,a.tmps.getD x undef=.pointer (some ⟨b,o,none⟩):=by
   unfold lM at h;split at h
   case h_2=>cases h
   split at h
   ·rename_i g
    rw[g]at d;simp only[rel]at d;obtain⟨_,b,o,e,_⟩:=d;exact⟨b,o,e⟩
   ·rename_i g
    rw[g]at d;simp only[rel]at d;obtain⟨⟨b,o,e⟩,_⟩:=d;exact⟨b,o,e⟩
   ·rename_i g
    rw[g]at d;simp only[rel]at d;obtain⟨⟨b,o,e⟩,_⟩:=d;exact⟨b,o,e⟩
   ·cases h
  obtain⟨b,o,e⟩:=q;show (do loadVar t (<- asAddr (a.tmps.getD x undef)):Sem Value).run P E.w=.ok u E.w
  rw[e]at g1|-;simpa[Instr.loadAt,Instr.sureAddr,asAddr]using g1
theorem Fq{P:Program}{s:St}{E:Env}{a:Act}(d:df s E a):∀(rs:List ResultVar) (vs:List AV),mJ P s rs=some vs ->
  ∃ us:List Value,(rs.mapM (Fp a.tmps)).run P E.w=.ok us E.w/\ae E vs us
 | [],vs,h=>by simp[mJ]at h; subst h; exact⟨[],rfl,by simp[ae]⟩
 | r::rs,vs,h=>by
  simp only[mJ]at h;split at h
  case h_2=>cases h
  rename_i v g h1 k;cases h;obtain⟨u,g1,g2⟩:=YK d h1;obtain⟨us,g3,g4⟩:=Fq d rs g k;refine⟨u::us,?_,by simp only[ae]; exact⟨g2,g4⟩⟩;simp only[List.mapM_cons,bS];rw[g1];simp only[bT];rw[g3];rfl
theorem M7(fn:Func)(tmps:Array Value):results fn tmps=(do let vs <- fn.results.mapM (Fp tmps); pure (if h:vs.size=1 then vs[0] else .tuple vs)):=by
 unfold results;congr 1
def pO(args:List AV)(n:Nat):List AV:=args++bQ (n-args.length) .undef
theorem Fs{E:Env}:∀(vs:List Value),ae E (bQ vs.length .undef) vs
 | []=>by simp[ae]
 |_::vs=>by simp only[bG,List.replicate_succ,ae,rel]; exact⟨trivial,Fs vs⟩
structure lT (E E':Env):Prop where
 H:E'.H=E.H
 loc:E'.loc=E.loc
 size:E.w.heap.size<=E'.w.heap.size
 same:∀ b,b<E.w.heap.size->¬ E.X b->¬ E'.X b/\E'.w.heap[b]? = E.w.heap[b]?
 X:∀ b,E'.X b->b<E'.w.heap.size
 r:E'.X.r=E.X.r
theorem lT.own{E E':Env}(h:lT E E')(b:Nat):E'.own b↔E.own b:=by unfold Env.own Env.sat; rw[h.loc,h.r]
theorem lT.toC{E E':Env}(h:lT E E'):E.bE E' :=
 ⟨fun b hb=>⟨⟨dM hb.1 h.size,fun ho=>hb.2.1 ((h.own b).1 ho),(h.same b hb.1 hb.2.2).1⟩,(h.same b hb.1 hb.2.2).2⟩⟩
mutual
theorem M8{E E':Env}(h:lT E E'):∀(a:AV) {c:Value},rel E a c->rel E' a c
 |.undef,_,_=>by simp[rel]
 |.lit v,c,hr=>by simpa only[rel]using hr
 |.nils,c,hr=>by simpa only[rel]using hr
 |.list k rows,c,hr=>eQ h.toC _ (by simp[AV.closed]) hr
 |.listF ks rows,c,hr=>eQ h.toC _ (by simp[AV.closed]) hr
 | .agg cells,c,hr=>by
  simp only[rel]at hr|-;obtain⟨cs,e,h1,d⟩:=hr;exact⟨cs,e,h1,rK h cells d⟩
 | .tuple cells,c,hr=>by
  simp only[rel]at hr|-;obtain⟨cs,e,d⟩:=hr;exact⟨cs,e,rK h cells d⟩
 |.cptr cells,c,hr=>eQ h.toC _ (by simp[AV.closed]) hr
 | .ptr id ver k row col,c,hr=>by
  simp only[rel,Env.past,Env.live,h.H,h.loc]at hr|-;exact hr
 | .vec k id ver off n,c,hr=>by
  simp only[rel,Env.past,Env.live,h.H,h.loc]at hr|-;exact hr
 | .map id,c,hr=>by
  simp only[rel,Env.past,Env.live,h.H,h.loc]at hr|-;exact hr
 | .clo f caps,c,hr=>by
  simp only[rel]at hr|-;obtain⟨cs,e,d⟩:=hr;exact⟨cs,e,rK h caps d⟩
 |.ifc,c,hr=>by simpa only[rel]using hr
 |.emptyS n,c,hr=>by simpa only[rel]using hr
 | .sub id l j,c,hr=>by
  simp only[rel,Env.past,Env.live,Env.Lv,h.H,h.r]at hr|-;exact hr
 | .svec ..,c,hr=>by
  simp only[rel,Env.past,Env.live,Env.tu,h.H,h.r]at hr|-;exact hr
 | .sptr ..,c,hr=>by
  simp only[rel,Env.past,Env.live,Env.tu,h.H,h.r]at hr|-;exact hr
theorem rK{E E':Env}(h:lT E E'):∀(as:List AV) {vs:List Value},ae E as vs->ae E' as vs
 | [],[],_=>by simp[ae]
 | [],_::_,hr=>by simp[ae]at hr
 |_::_,[],hr=>by simp[ae]at hr
 | a::as,v::vs,hr=>by
  simp only[ae]at hr|-;exact⟨M8 h a hr.1,rK h as hr.2⟩
end
theorem al.ir{E E':Env}(H:al E)(h:lT E E'):al E' where
 fY:=H.fY.bE h.toC
 len:=by rw[h.loc,h.H]; exact H.len
 inj:=by rw[h.loc]; exact H.inj
 lt:=fun i b m hi=>by
  rw[h.loc]at hi;have:=H.lt i b m hi;exact⟨dM this.1 h.size,(h.same b this.1 this.2).1⟩
 X:=h.X
 obj:=fun i o hi=>by
  rw[h.H]at hi;exact lK (fun a _ hr=>M8 h a hr) (by rw[h.loc]) (fun b n hb=>(h.same b (H.lt i b n hb).1 (H.lt i b n hb).2).2) (fun l _=>⟨by rw[h.r],fun k g m hk=>(h.same g (H.cr l k g m hk).1 (H.cr l k g m hk).2).2⟩) (H.obj i o hi)
 ff:=by rw[h.r]; exact H.ff
 cQ:=by rw[h.r,h.loc]; exact H.cQ
 cr:=fun l k b m hk=>by
  rw[h.r]at hk;have:=H.cr l k b m hk;exact⟨dM this.1 h.size,(h.same b this.1 this.2).1⟩
 uniq:=by rw[h.H]; exact H.uniq
 gR:=by rw[h.H,h.r]; exact H.gR
theorem df.ir{s:St}{E E':Env}{a:Act}(d:df s E a)(h:lT E E'){l:List Deferred}(hm:nv E'.w E'.X l):df s E' { a with defers:=l } :=
 ⟨by rw[h.H]; exact d.H,rK h _ d.fr,hm,d.heap.ir h⟩
theorem M9{P:Program}{fn:Func}{tmps:Array Value}{R:Ending->World->Prop}:∀(l:List Deferred) (w:World) (X:XS),nv w X l ->
  (∀ w',w'.heap.size=w.heap.size->(∀ b,w'.heap[b]? ≠ w.heap[b]? -> X b/\X.z b)->eE w w'->∃ v,(results fn tmps).run P w'=.ok v w'/\R (.returned v) w')->LeavesInM (fz none) 0 P fn tmps R l .returning w
 | [],w,X,_,h=>h w rfl (fun b hb=>(hb rfl).elim) (eE.refl w)
 | d::l,w,X,hm,h=>by
  obtain⟨D,e,h1,y,I⟩:=hm.2 d bZ;subst e;have U:D<w.heap.size:=(k5.1 h1).1;have g:∀ b,b≠D->(w.putObj D (.deferred none)).heap[b]? = w.heap[b]? := fun b hb=>World.putObj_heap_other hb;have u:(w.putObj D (.deferred none)).heap.size=w.heap.size:=by simp[World.putObj]
  refine⟨by simp,.inl ⟨D,_,rfl,run_takeDeferred h1,M9 l _ X ⟨(nq.1 hm.1).2,fun d' k=>?_⟩ fun w' g1 g2 g3=>h w' (by rw[g1,u]) (fun b hb=>?_) (eE.trans ⟨rfl,rfl,rfl,by first|exact fun _=>aB _|exact fun _=>Nat.le_add_right _ _⟩ g3)⟩⟩
  ·obtain ⟨q, e', M, N, O⟩ := hm.2 d' (List.mem_cons_of_mem _ k)
   refine⟨q,e',?_,N,O⟩;rw[g q (fun e=>(nq.1 hm.1).1 (by rw[<-e,<-e']; exact k))];exact M
  ·by_cases e : b = D
   ·subst e
    exact⟨y,I⟩
   ·refine g2 b ?_
    rw[g b e];exact hb
theorem M_{P:Program}{f:FuncId}{fn:Func}{c:Code}{args:Array Value}{w:World}{R:Ending->World->Prop}(k:P.funcs[f]? = some fn)(hb:fn.body=some c)
  (h : c.wpIn (fz none) 0 P (fun e g d => (e = .normal \/ e = .ret) /\ ∃ X, nv d X g.defers /\ ∀ w', w'.heap.size = d.heap.size -> (∀ b, w'.heap[b]? ≠ d.heap[b]? -> X b /\ X.z b) -> eE d w' -> ∃ v, (results fn g.tmps).run P w' = .ok v w' /\ R (.returned v) w')
   { tmps:=args++te (fn.ntmps-args.size) undef,defers:=[] } w):Calls P f args w R:=by
 refine(callsIn_wide (n:=0)).1 (callsIn_of_wp_marks (F:=fz none) k hb trivial (wpIn_mono h fun e g d q=>?_));obtain⟨he,X,h1,u⟩:=q;have:=M9 (P:=P) (fn:=fn) (tmps:=g.tmps) (R:=R) g.defers d X h1 u;rcases he with rfl|rfl
 ·exact this
 ·exact this
theorem Na{m:Nat}{E:Env}{s':St}{g:List (Option (Nat × Nat))}{X':XS}{q:Act}{d w':World}(HE:al E)(I:df s' { w:=d,H:=s'.H,loc:=g,X:=X' } q)
  (hle:({ E with X:=⟨E.X.x,fun _=>False,E.X.r⟩ }:Env).fS m { w:=d,H:=s'.H,loc:=g,X:=X' }) (h1:w'.heap.size=d.heap.size) (u:∀ b,w'.heap[b]? ≠ d.heap[b]? -> X' b/\X'.z b) (M:eE d w') :
  df s' { w:=w',H:=s'.H,loc:=g,X:=E.X.re X'.r } { q with defers:=[] }/\E.fS m { w:=w',H:=s'.H,loc:=g,X:=E.X.re X'.r }:=by
 have y:∀ b,b<E.w.heap.size->w'.heap[b]? = d.heap[b]? := fun b hb=>alR fun k=>((hle.X b hb).2.1 (u b k).2).elim;have N:E.w.heap.size<=d.heap.size:=hle.size;have ir:lT { w:=d,H:=s'.H,loc:=g,X:=X' } { w:=w',H:=s'.H,loc:=g,X:=E.X.re X'.r } :=
  ⟨rfl, rfl, by show d.heap.size <= w'.heap.size; omega, fun b hb v => ⟨fun he => v ((hle.X b (HE.X b he)).1.2 he), alR fun k => v (u b k).1⟩, fun b hb => by
   have:=HE.X b hb;show b<w'.heap.size
   omega,rfl⟩
 refine⟨I.ir ir (Ew _ _),⟨hle.past,by show E.w.heap.size<=w'.heap.size; omega,fun b hb ho=>?_,hle.own,hle.live,fun b _=>⟨Iff.rfl,Iff.rfl⟩,hle.rl,hle.env.trans M,hle.grow⟩⟩;show w'.heap[b]? = E.w.heap[b]?
 rw[y b hb];exact hle.same b hb ho
theorem Nb{E:Env}(HE:al E):lT E { E with X:=⟨E.X.x,fun _=>False,E.X.r⟩ }:=⟨rfl,rfl,aB _,fun b _ d=>⟨d,rfl⟩,HE.X,rfl⟩
theorem YL{P:Program}{f:FuncId}{args:List AV}{v:AV}{H1:List ab}(h:dn P f args [] v H1)(ha:AV.bu args=true)(O:v.closed=true):c7 P f args v:=by
 intro H E cargs hH HE I
 let E0:Env:={ w:=E.w,H:=[],loc:=[],X:=(E.X.or E.own).re dZ }
 have g:∀ b,¬ E0.own b:=by rintro b (⟨id,c,hid⟩|⟨l,k,c,hk⟩); simp[E0]at hid; simp[E0,dZ]at hk
 have hC:E.bE E0:=⟨fun b hb=>⟨⟨hb.1,g b,fun d=>d.elim hb.2.2 hb.2.1⟩,rfl⟩⟩
 have N:al E0:=by
  refine⟨rfl,?_,?_,?_,?_,HE.fY.bE hC,fun l k l' k' b m n hk=>by simp[E0,dZ]at hk,fun i b m l k n hi=>by simp[E0]at hi,fun l k b m hk=>by simp[E0,dZ]at hk,fun i j o o' l hi=>by simp[E0]at hi,fun l _ k q hk=>by simp[E0,dZ]at hk⟩
  ·intro i j b m n hi; simp[E0]at hi
  ·intro i b m hi; simp[E0]at hi
  ·rintro b (d | ho)
   ·exact HE.X b d
   ·exact(HE.AA ho).1
  ·intro i o hi; simp[E0]at hi
 refine(h E0 cargs rfl N (pz hC args ha I)).mono ?_;rintro _ w' ⟨c,y,H',rfl,⟨rfl,rfl⟩,M,r',g1,g2,g3⟩;have u:Ext E.w w':=⟨g3.size,fun b hb=>g3.same b hb (g b),g3.env⟩
 refine⟨c,y,H,rfl,⟨rfl,rfl⟩,E.loc,E.X.r,?_,?_,?_⟩
 ·rw [<- hH]
  exact eQ (E:={ w:=w',H:=H',loc:=M,X:=E0.X.re r' }) (E':={ w:=w',H:=E.H,loc:=E.loc,X:=E.X })
   ⟨fun b hb=>⟨⟨hb.1,fun ho=>hb.2.2 (Or.inr ho),fun d=>hb.2.2 (Or.inl d)⟩,rfl⟩⟩ y O g1
 ·rw[<-hH]; exact HE.ext u
 ·rw[<-hH]; exact Env.kl u
end Go.AL

namespace Go.AL
open Go
variable [Dr]
variable {P:Program} {pf:FuncId->Bool} {ops:Array Oper}
def mL(r:Operand->AV):Op->Option Nat
 | .load _ a=>match r a with
  |.ptr id _ _ _ _=>some id
  |.sptr id _ _ _ _ _=>some id
  |_=>none
 | .lookup _ m _ _=>match r m with
  |.map id=>some id
  |.sub id _ _=>some id
  |_=>none
 | .call c=>match c.args.toList with
  | [a]=>match r a with
   |.map id=>some id
   |_=>none
  |_=>none
 |_=>none
theorem Nc{r:Operand->AV}{H H2:List ab}:∀{op:Op},(∀ id,mL r op=some id->H2[id]? = H[id]?)->fQ P r H2 op=fQ P r H op:=by
 intro op h;cases op<;>simp only[fQ]
 case load t a =>
  simp only[mL]at h;unfold lM;cases ha:r a with
  | ptr id ver w row col =>
   rw[ha]at h;have:=h id rfl;simp only[this]
  | sptr id l j w row col =>
   rw[ha]at h;have:=h id rfl;simp only[this]
  |_=>rfl
 case lookup t m k ok =>
  simp only[mL]at h;have d:lh P t (r m) (r k) ok H2=lh P t (r m) (r k) ok H:=X8 (fun id e=>by rw[e]at h; exact h id rfl) (fun id l j e=>by rw[e]at h; exact h id rfl);rw[d];have h1:gl P t (r m) (r k) ok H2=gl P t (r m) (r k) ok H:=by
   unfold gl;cases c6 P t with
   |none=>rfl
   | some p =>
    obtain⟨g,q⟩:=p;cases hm:r m with
    | map id =>
     rw[hm]at h;have:=h id rfl;simp only[this]
    |_=>rfl
  rw[h1]
 case call c =>
  simp only[mL]at h;unfold pN;split
  ·rename_i a t u ha v
   rw[ha]at h;simp only[]at h;cases c6 P t with
   |none=>rfl
   | some p =>
    cases hm:r a with
    | map id =>
     rw[hm]at h;have:=h id rfl;simp only[this]
    |_=>rfl
  ·rfl
theorem Nd{r r':Operand->AV}(o:Op)(h:∀ x∈o.operands,r x=r' x):mL r o=mL r' o:=by
 cases o<;>simp only[mL]
 case load t a =>
  simp only[dY]at h;rw[h a (by simp)]
 case lookup t m k ok =>
  simp only[dY]at h;rw[h m (by simp)]
 case call c =>
  split
  ·rename_i a ha
   have:a∈(Op.call c).operands:=by
    show a∈c.operands
    have h1:a∈c.args:=by
     have:a∈c.args.toList:=by rw[ha]; simp
     simpa using this
    simp[td,h1]
   rw[h a this]
  ·rfl
abbrev jf:=List (Nat × List Nat × Nat)
abbrev jT:=List (Nat × Nat)
def kept(W:jf)(j A:Nat):Prop:=∀ e∈W,e.1=j->A∉e.2.1/\A<e.2.2
def Ft(ops:Array Oper):Bool :=
 (dB ops.size).any fun j => (dB j).any fun i => match ops[i]?, ops[j]? with
  |some x,some y=>eS x.op&&eS y.op && !waits ops ops.size j i
  |_,_=>false
def rL:Op->Bool
 | .call c=>match c.callee with
  |.value (.func _)=>true
  |_=>false
 |_=>false
def isVar:Op->Bool
 |.alloc _=>true
 |_=>false
theorem uc{op:Op}(h:isVar op=true):eS op=true:=by
 unfold isVar at h;split at h
 ·rfl
 ·cases h
def A'(ops:Array Oper):Bool :=
 (dB ops.size).any fun j => (dB j).any fun i => match ops[i]?, ops[j]? with
  |some x,some y=>rL x.op&&isVar y.op && !waits ops ops.size j i
  |_,_=>false
def jU:Op->Bool
 |.mapEntry ..=>true
 |.entryStore ..=>true
 |_=>false
def Fu(ops:Array Oper):Bool :=
 (dB ops.size).any fun j => (dB j).any fun i => match ops[i]?, ops[j]? with
  |some x,some y=>eS x.op&&jU y.op && !waits ops ops.size j i
  |_,_=>false
def lU(ops:Array Oper):Bool:=(Ft ops||A' ops)||Fu ops
theorem Nf{pf:FuncId->Bool}{op:Op}(h:jU op=true):cX pf op=.write:=by
 unfold jU at h;split at h
 ·rfl
 ·rfl
 ·cases h
theorem YM{op:Op}(h:jU op=true):eS op=false:=by
 unfold jU at h;split at h
 ·rfl
 ·rfl
 ·cases h
theorem oI{pf:FuncId->Bool}{op:Op}(h:eS op=true):cX pf op=.write:=by
 unfold eS at h;split at h
 ·rfl
 ·rfl
 ·cases h
theorem Ba{pf:FuncId->Bool}{op:Op}{X:Prop}(h:cX pf op≠.write):eS op=true->X:=fun ha=>(h (oI ha)).elim
def mM:Op->Bool
 |.buildSlice ..=>true
 | .call c=>match c.callee with
  |.builtin .append=>true
  |_=>false
 |_=>false
def lV(ops:Array Oper)(op:Op):Bool:=(rL op&&A' ops)||(mM op&&lU ops)
theorem nI{ops:Array Oper}{op:Op}(h:eS op=true):lV ops op=false:=by
 unfold eS at h;split at h
 ·rfl
 ·rfl
 ·cases h
theorem YN{ops:Array Oper}{op:Op}(h:jU op=true):lV ops op=false:=by
 unfold jU at h;split at h
 ·rfl
 ·rfl
 ·cases h
theorem YO{ops:Array Oper}{op:Op}(h:lV ops op=true):lU ops=true:=by
 unfold lV at h;rw[qZ,ax,ax]at h;rcases h with h|h
 ·unfold lU
  rw[h.2];simp
 ·exact h.2
def lW(σ:List (Nat × ab))(H:List ab):List ab:=σ.foldl (fun H p=>H.set p.1 p.2) H
def Bb(W:jf)(j:Nat)(H:List ab)(σ:List (Nat × ab)):Prop:=∀ p∈σ,kept W j p.1/\∃ k r,H[p.1]? = some (.vec k 0 [])/\p.2=.vec k 1 r
def Step(P:Program)(pf:FuncId->Bool)(ops:Array Oper)(R:jT)(W:jf)(j:Nat)(o:Oper)(s:St)(v:AV)(H':List ab):Prop :=
 (cX pf o.op = .write -> ∀ A, kept W j A -> H'[A]? = s.H[A]?) /\ (cX pf o.op = .read -> bY ops s.fr o = some true -> ∀ id, mL s.eval o.op = some id -> (j, id) ∈ R) /\
  (eS o.op=true->lU ops=true->bY ops s.fr o=some true->H'.length=s.H.length/\∀ id,H'[id]? ≠ s.H[id]? -> ∃ e∈W,e.1=j/\id∈e.2.1) /\
  (lV ops o.op=true->cX pf o.op=.write->bY ops s.fr o=some true->∀ σ,Bb W j s.H σ->Yields P pf ops o ⟨s.fr,lW σ s.H⟩ v (lW σ H'))
def Ng(R:jT)(W:jf)(i j:Nat):Prop:=∀ id,(i,id)∈R->kept W j id
def Bc(pf:FuncId->Bool)(ops:Array Oper)(R:jT)(W:jf)(i:Nat)(x:Oper)(j:Nat)(y:Oper):Prop :=
 oH pf x y=true\/(cX pf x.op=.read/\cX pf y.op=.write/\Ng R W i j)\/(cX pf x.op=.write/\cX pf y.op=.read/\Ng R W j i)\/(eS x.op=true/\eS y.op=true/\lU ops=true) \/
  (cX pf x.op=.write/\lV ops x.op=true/\isVar y.op=true/\∀ e∈W,e.1=j->∀ id∈e.2.1,kept W i id) \/
  (eS x.op=true/\jU y.op=true/\lU ops=true/\∀ e∈W,e.1=i->∀ id∈e.2.1,kept W j id)
theorem Nh{o:Oper}{s:St}{v:AV}{H':List ab}(ho:isVar o.op=true)(h:Yields P pf ops o s v H')(g:bY ops s.fr o=some true->H'.length=s.H.length) :
  (bY ops s.fr o = some false /\ v = .tuple [] /\ H' = s.H) \/
   (bY ops s.fr o=some true/\∃ t id z k m,o.op=.alloc t/\eR P t=some z/\s.H[id]? = some (.vec k 0 [])/\k=z.length/\v=.ptr id 1 k 0 0/\H'=s.H.set id (.vec k 1 [er m z])):=by
 unfold Yields at h;cases hw:bY ops s.fr o with
 |none=>rw[hw]at h; exact h.elim
 | some b =>
  rw[hw]at h;cases b with
  |false=>exact .inl ⟨rfl,h.1,h.2⟩
  | true =>
   right;refine⟨rfl,?_⟩;simp only[oI (uc ho)]at h;have g:=g hw;rcases h with(h|⟨f,args,h1,_⟩)|(⟨t,id,m,d,u⟩|⟨t,id,d,u⟩)|q
   ·unfold isVar at ho
    split at ho
    ·rename_i t d
     rw[d]at h;simp only[cW,ru]at h;split at h
     ·split at h
      ·cases h
       simp at g
      ·cases h
     ·split at h
      ·cases h
       simp at g
      ·cases h
    ·cases ho
   ·unfold isVar at ho
    split at ho
    ·rename_i t d
     rw[d]at h1;cases h1
    ·cases ho
   ·obtain ⟨z, k, h1, y, I, M, N⟩ := MU u
    exact⟨t,id,z,k,m,d,h1,y,I,M,N⟩
   ·rw [d] at ho
    cases ho
   ·unfold isVar at ho
    split at ho
    ·rename_i t d
     rw[d]at q;exact q.elim
    ·cases ho
def kq(P:Program)(op:Op)(id:Nat)(y:ab)(v:AV)(x:ab):Prop :=
 (∃ t z k m,op=.alloc t/\eR P t=some z/\k=z.length/\y=.vec k 0 []/\v=.ptr id 1 k 0 0/\x=.vec k 1 [er m z])\/∃ t,op=.makeMap t none/\y=.eP/\v=.map id/\x=.map [] 0
theorem kq.ne{op g:Op}{id k:Nat}{y d x q:ab}{v u:AV}(h:kq P op id y v x)(h':kq P g k d u q):x≠d:=by
 rcases h with⟨_,_,_,_,_,_,_,_,_,rfl⟩|⟨_,_,_,_,rfl⟩<;>rcases h' with⟨_,_,_,_,_,_,_,rfl,_,_⟩|⟨_,_,rfl,_,_⟩<;>intro e<;>cases e
theorem Fv{o:Oper}{s:St}{v:AV}{H':List ab}(ho:eS o.op=true)(h:Yields P pf ops o s v H')(q:bY ops s.fr o=some true->H'.length=s.H.length) :
  (bY ops s.fr o = some false /\ v = .tuple [] /\ H' = s.H) \/
   (bY ops s.fr o=some true/\∃ id y x,kq P o.op id y v x/\s.H[id]? = some y/\H'=s.H.set id x):=by
 cases g:isVar o.op with
 | true =>
  rcases Nh g h q with h|⟨h1,t,id,z,k,m,I,M,O,U,V,W⟩
  ·exact .inl h
  ·exact .inr ⟨h1,id,_,_,.inl ⟨t,z,k,m,I,M,U,rfl,V,rfl⟩,O,W⟩
 | false =>
  have hm:∃ t,o.op=.makeMap t none:=by
   unfold eS at ho;split at ho
   ·rename_i t d
    rw[d]at g;cases g
   ·rename_i t d
    exact⟨t,d⟩
   ·cases ho
  obtain⟨t,d⟩:=hm;unfold Yields at h;cases hw:bY ops s.fr o with
  |none=>rw[hw]at h; exact h.elim
  | some b =>
   rw[hw]at h;cases b with
   |false=>exact .inl ⟨rfl,h.1,h.2⟩
   | true =>
    right;refine⟨rfl,?_⟩;simp only[oI ho]at h;have q:=q hw;rcases h with(h|⟨f,args,h1,_⟩)|(⟨t',id,m,u,g⟩|⟨t',id,u,g⟩)|N
    ·rw [d] at h
     simp only[cW]at h;cases h;simp at q
    ·rw [d] at h1
     cases h1
    ·rw [d] at u
     cases u
    ·obtain ⟨h1, I, M⟩ := EZ g
     exact⟨id,_,_,.inr ⟨t,d,rfl,I,rfl⟩,h1,M⟩
    ·rw [d] at N
     exact N.elim
theorem Ni{o:Oper}{s:St}{t:TypeId}{id k:Nat}{z:List Value}(hw:bY ops s.fr o=some true)(ho:o.op=.alloc t)(d:eR P t=some z)(hid:s.H[id]? = some (.vec k 0 []))(hk:k=z.length) (m:List (Option (List Kd))) :
  Yields P pf ops o s (.ptr id 1 k 0 0) (s.H.set id (.vec k 1 [er m z])):=by
 unfold Yields;rw[hw,ho];exact .inr (.inl (.inl ⟨t,id,m,rfl,MV m d hid hk⟩))
theorem Fw{o:Oper}{s:St}{id:Nat}{v:AV}{x y:ab}(hw:bY ops s.fr o=some true)(d:kq P o.op id y v x)(hid:s.H[id]? = some y):Yields P pf ops o s v (s.H.set id x):=by
 rcases d with⟨t,z,k,m,h1,g,q,rfl,rfl,rfl⟩|⟨t,h1,rfl,rfl,rfl⟩
 ·exact Ni hw h1 g hid q m
 ·unfold Yields
  rw[hw,h1];exact .inr (.inl (.inr ⟨t,id,rfl,Mj hid⟩))
def mN:ab->Bool
 |.aJ ..=>false
 |.mm ..=>false
 |.b_ ..=>false
 |.bp ..=>false
 |_=>true
theorem kq.no{op:Op}{id:Nat}{y x:ab}{v:AV}(h:kq P op id y v x):mN x=true/\mN y=true/\x≠.dead:=by
 rcases h with⟨_,_,_,_,_,_,_,rfl,_,rfl⟩|⟨_,_,rfl,_,rfl⟩
 ·exact⟨rfl,rfl,fun e=>by cases e⟩
 ·exact⟨rfl,rfl,fun e=>by cases e⟩
theorem YP{t:TypeId}{id:Nat}{k:AV}{H:List ab}{x:ab}(h:H[id]? = some x)(d:mN x=true):ju P t (.map id) k H=none/\kp P t (.map id) k H=none:=by
 unfold ju kp;cases c6 P t with
 |none=>exact⟨rfl,rfl⟩
 | some p =>
  simp only[h];cases x<;>first|exact⟨rfl,rfl⟩|cases d
theorem YQ{t:TypeId}{id a:Nat}{k:AV}{H:List ab}{x:ab}(d:id≠a)(ha:a<H.length):ju P t (.map id) k (H.set a x)=(ju P t (.map id) k H).map fun p=>(p.1,p.2.set a x):=by
 unfold ju;cases c6 P t with
 |none=>rfl
 | some p =>
  simp only[aQ (Ne.symm d),List.length_set];split
  ·split
   ·split
    ·split
     ·split
      ·simp only [dS]
       rw[Ah _ _ (by simpa using ha),mv _ _ d]
      ·rfl
     ·simp only [dS]
      rw[Ah _ _ (by simpa using ha),mv _ _ d]
     ·rfl
    ·rfl
   ·rfl
  ·rfl
theorem YR{t:TypeId}{id a:Nat}{k:AV}{H:List ab}{x:ab}(d:id≠a):kp P t (.map id) k (H.set a x)=(kp P t (.map id) k H).map fun p=>(p.1,p.2.set a x):=by
 unfold kp;cases c6 P t with
 |none=>rfl
 | some p =>
  simp only[aQ (Ne.symm d)];split
  ·split
   ·split
    ·simp only [dS]
     rw[mv _ _ d]
    ·rfl
   ·rfl
  ·rfl
theorem YS{t:TypeId}{id a:Nat}{k v:AV}{H H':List ab}(d:id≠a)(ha:a<H.length)(h:ju P t (.map id) k H=some (v,H')):H'[a]? = H[a]? := by
 unfold ju at h;split at h
 case h_2=>cases h
 rename_i he;cases he;split at h
 case h_2=>cases h
 split at h
 case h_2=>cases h
 split at h
 case h_2=>cases h
 split at h
 ·split at h
  ·cases h
   rw[cK (by simpa using ha),aQ d]
  ·cases h
 ·cases h
  rw[cK (by simpa using ha),aQ d]
 ·cases h
theorem YT{t:TypeId}{id a:Nat}{k v:AV}{H H':List ab}(d:id≠a)(h:kp P t (.map id) k H=some (v,H')):H'[a]? = H[a]? := by
 unfold kp at h;split at h
 case h_2=>cases h
 rename_i he;cases he;split at h
 case h_2=>cases h
 split at h
 case h_2=>cases h
 split at h
 ·cases h
  rw[aQ d]
 ·cases h
theorem YU{m s v:AV}{a:Nat}{x y:ab}{H k:List ab}(I:H[a]? = some y)(M:mN x=true/\mN y=true/\x≠.dead)(h:lQ m s v (H.set a x)=some k)(hk:k[a]? = some x) :
  ∃ H1,lQ m s v H=some H1/\k=H1.set a x/\H1[a]? = some y:=by
 have u:=aG I;unfold lQ at h|-;split at h
 case h_2=>cases h
 rename_i id st w j ver off n;have d:id≠a:=fun e=>by
  subst e;rw[bf u]at h;obtain⟨h1,_⟩:=M;cases x<;>first|cases h|cases h1
 rw[aQ (Ne.symm d)]at h;split at h
 case h_2=>cases h
 rename_i l w' es cl V U rows g1 g2;split at h
 case isFalse=>cases h
 rename_i O;split at h
 case h_2=>cases h
 rename_i i hi;split at h
 case h_2=>cases h
 rename_i key q bn hb;split at h
 case h_2=>cases h
 rename_i N;cases h;have g:j≠a:=fun e=>by
  subst e;rw[bf (by simpa using u)]at hk;exact M.2.2 (iM hk).symm
 rw[aQ (Ne.symm g)]at g2;rw[g1,g2];simp only[if_pos O,hi,hb,N];refine⟨_,rfl,?_,?_⟩
 ·rw[mv _ _ (Ne.symm d),mv _ _ (Ne.symm g)]
 ·rw[aQ g,aQ d,I]
theorem YV{m s v:AV}{a:Nat}{x y:ab}{H k:List ab}(u:H[a]? = some y)(I:mN x=true/\mN y=true/\x≠.dead)(h:mI m s v (H.set a x)=some k)(hk:k[a]? = some x) :
  ∃ H1,mI m s v H=some H1/\k=H1.set a x/\H1[a]? = some y:=by
 have q:=aG u;unfold mI at h|-;split at h
 case h_2=>cases h
 rename_i id st j;have d:id≠a:=fun e=>by
  subst e;rw[bf q]at h;obtain⟨h1,_⟩:=I;cases x<;>first|cases h|cases h1
 rw[aQ (Ne.symm d)]at h;split at h
 case h_2=>cases h
 rename_i l es ms cl M clk g1 g2;split at h
 case h_2=>cases h
 rename_i i hi;split at h
 case h_2=>cases h
 rename_i key bn hb;cases h;have g:j≠a:=fun e=>by
  subst e;rw[bf (by simpa using q)]at hk;exact I.2.2 (iM hk).symm
 rw[aQ (Ne.symm g)]at g2;rw[g1,g2];simp only[hi,hb];refine⟨_,rfl,?_,?_⟩
 ·rw[mv _ _ (Ne.symm d),mv _ _ (Ne.symm g)]
 ·rw[aQ g,aQ d,u]
theorem YW{m s v:AV}{a:Nat}{x y:ab}{H:List ab}(d:H[a]? = some y)(g:mN x=true/\mN y=true/\x≠.dead){H2:List ab}(hm:mI m s v H=some H2):lQ m s v H=none:=by
 unfold mI at hm;split at hm
 case h_2=>cases hm
 rfl
theorem YX{op:Op}(N:jU op=true){r:Operand->AV}{H O:List ab}{a:Nat}{x y:ab}{u:AV}(d:H[a]? = some y)(q:mN x=true/\mN y=true/\x≠.dead)(h:cW P r (H.set a x) op=some (u,O))(hk:O[a]? = some x) :
  ∃ H1,cW P r H op=some (u,H1)/\O=H1.set a x/\H1[a]? = some y:=by
 have I:=aG d;unfold jU at N;split at N
 ·rename_i t m k
  simp only[cW]at h|-;cases hm:r m with
  | map id =>
   rw[hm]at h;by_cases g:id=a
   ·subst g
    obtain⟨W,n2⟩:=YP (P:=P) (t:=t) (k:=r k) (bf (a:=x) I) q.1;rw[W,n2]at h;cases h
   ·rw [YQ g I, YR g] at h
    cases he:ju P t (.map id) (r k) H with
    | some p =>
     rw[he]at h;simp only[dS]at h;obtain⟨p1,U⟩:=p;cases h;exact⟨U,rfl,rfl,by rw[YS g I he,d]⟩
    | none =>
     rw[he]at h;simp only[Option.map_none]at h;cases M:kp P t (.map id) (r k) H with
     | some p =>
      rw[M]at h;simp only[dS]at h;obtain⟨p1,U⟩:=p;cases h;exact⟨U,rfl,rfl,by rw[YT g M,d]⟩
     | none =>
      rw[M]at h;cases h
  | _ =>
   rw[hm]at h;unfold ju kp at h;cases V:c6 P t with
   |none=>rw[V]at h; cases h
   |some p=>rw[V]at h; cases h
 ·rename_i t m s v
  simp only[cW]at h|-;cases he:lQ (r m) (r s) (r v) (H.set a x)with
  | some H2 =>
   rw[he]at h;cases h;obtain⟨H1,g1,g2,g3⟩:=YU d q he hk;rw[g1];exact⟨H1,rfl,g2,g3⟩
  | none =>
   rw[he]at h;cases hm:mI (r m) (r s) (r v) (H.set a x)with
   |none=>rw[hm]at h; cases h
   | some H2 =>
    rw[hm]at h;cases h;obtain⟨H1,g1,g2,g3⟩:=YV d q hm hk;rw[YW d q g1,g1];exact⟨H1,rfl,g2,g3⟩
 ·cases N
theorem YY{o:Oper}{s:St}{u:AV}{q:List ab}(g:jU o.op=true)(h:Yields P pf ops o s u q)(hw:bY ops s.fr o=some true):cW P s.eval s.H o.op=some (u,q):=by
 unfold Yields at h;simp only[hw,Nf g]at h;rcases h with(h|⟨f,args,h1,_⟩)|(⟨t,id,m,d,_⟩|⟨t,id,d,_⟩)|k
 ·exact h
 ·unfold jU at g
  split at g
  ·rename_i d
   rw[d]at h1;cases h1
  ·rename_i d
   rw[d]at h1;cases h1
  ·cases g
 ·rw [d] at g
  cases g
 ·rw [d] at g
  cases g
 ·unfold jU at g
  split at g
  ·rename_i d
   rw[d]at k;exact k.elim
  ·rename_i d
   rw[d]at k;exact k.elim
  ·cases g
theorem YZ{R:jT}{W:jf}{i j:Nat}{y g:Oper}{s:St}{v u:AV}{O d:List ab}(h1:y.apart ops g=true)(h2:g.apart ops y=true)(hc:Bc pf ops R W i y j g)
  (hi:Yields P pf ops y s v O) (si:Step P pf ops R W i y s v O) (U:Yields P pf ops g (s.put y.dst v O) u d) (sj:Step P pf ops R W j g (s.put y.dst v O) u d) :
  ∃ Hj1,Yields P pf ops g s u Hj1/\Step P pf ops R W j g s u Hj1/\Yields P pf ops y (s.put g.dst u Hj1) v d/\Step P pf ops R W i y (s.put g.dst u Hj1) v d:=by
 obtain⟨a1,a2,a3⟩:=Lg h1;have wj:bY ops (s.put y.dst v O).fr g=bY ops s.fr g:=A8 a1;have wi:∀ H2,bY ops (s.put g.dst u H2).fr y=bY ops s.fr y:=fun H2=>A8 a3;have ej:∀ x∈g.op.operands,(s.put y.dst v O).eval x=s.eval x:=fun x hx=>eval_put a1 hx;have ei:∀ H2,∀ x∈y.op.operands,(s.put g.dst u H2).eval x=s.eval x:=fun H2 x hx=>eval_put a3 hx;have cj:=Nd g.op ej;have ci:=fun H2=>Nd y.op (ei H2);have evj:=MR (P:=P) (H:=O) g.op ej;have readJ:cX pf g.op=.read->Step P pf ops R W j g s u s.H:=fun hr=>⟨fun hw=>(by rw[hr]at hw; cases hw),fun _ hw id hid=>sj.2.1 hr (by rw[wj]; exact hw) id (by rw[cj]; exact hid),Ba (by rw[hr]; simp),fun _ hw=>(by rw[hr]at hw; cases hw)⟩
 have readI:cX pf y.op=.read->∀ H2 H3,Step P pf ops R W i y (s.put g.dst u H2) v H3:=fun hr H2 H3=>⟨fun hw=>(by rw[hr]at hw; cases hw),fun _ hw id hid=>si.2.1 hr (by rw[wi]at hw; exact hw) id (by rw[ci]at hid; exact hid),Ba (by rw[hr]; simp),fun _ hw=>(by rw[hr]at hw; cases hw)⟩
 have frj:∀{H2 H3:List ab} {v':AV},Yields P pf ops g ⟨(s.put y.dst v O).fr,H2⟩ v' H3->Yields P pf ops g ⟨s.fr,H2⟩ v' H3:=fun {H2 _ _} h=>(gp (s1:=⟨(s.put y.dst v O).fr,H2⟩) (s:=⟨s.fr,H2⟩) wj (fun x hx=>by
  have:=ej x hx;cases x<;>exact this) rfl).1 h
 have fri:∀{H1 H2 H3:List ab} {v':AV},Yields P pf ops y ⟨s.fr,H2⟩ v' H3->Yields P pf ops y ⟨(s.put g.dst u H1).fr,H2⟩ v' H3:=fun {H1 H2 _ _} h=>(gp (s1:=⟨(s.put g.dst u H1).fr,H2⟩) (s:=⟨s.fr,H2⟩) (wi H1) (fun x hx=>by
  have:=ei H1 x hx;cases x<;>exact this) rfl).2 h
 have toJ:O=s.H->Step P pf ops R W j g s u d:=by
  intro e;subst e;exact⟨fun hw A hA=>sj.1 hw A hA,fun hr hw id hid=>sj.2.1 hr (by rw[wj]; exact hw) id (by rw[cj]; exact hid),fun ha ht hw=>sj.2.2.1 ha ht (by rw[wj]; exact hw),
   fun N hw hwa σ hσ=>frj (sj.2.2.2 N hw (by rw[wj]; exact hwa) σ hσ)⟩
 have toI:d=O->Step P pf ops R W i y (s.put g.dst u s.H) v d:=by
  intro e;subst e;exact⟨fun hw A hA=>si.1 hw A hA,fun hr hw id hid=>si.2.1 hr (by rw[wi]at hw; exact hw) id (by rw[ci]at hid; exact hid),fun ha ht hw=>si.2.2.1 ha ht (by rw[wi]at hw; exact hw),
   fun N hw hwa σ hσ=>fri (si.2.2.2 N hw (by rw[wi]at hwa; exact hwa) σ hσ)⟩
 have old:oH pf y g=true->∃ Hj1,Yields P pf ops g s u Hj1/\Yields P pf ops y (s.put g.dst u Hj1) v d:=fun hc=>MW h1 h2 hc hi U;cases I:cX pf y.op with
 | pure =>
  obtain⟨V,g1⟩:=xn I hi;subst V;refine⟨d,(gp wj ej rfl).1 U,toJ rfl,
   (gp (s1:=s.put g.dst u d) (s:=⟨s.fr,d⟩) (wi d) (fun x hx=>by rw[ei d x hx]; cases x<;>rfl) rfl).2 (g1 d),⟨fun hw=>(by rw[I]at hw; cases hw),fun hr=>(by rw[I]at hr; cases hr),Ba (by rw[I]; simp),fun _ hw=>(by rw[I]at hw; cases hw)⟩⟩
 | read =>
  have V:=rI I hi;subst V;have hj':=(gp wj ej rfl).1 U;refine⟨d,hj',toJ rfl,?_,readI I _ _⟩;have key:∀ H2:List ab,St.eval ⟨s.fr,H2⟩=s.eval:=fun H2=>by funext x; cases x<;>rfl
  have same:bY ops s.fr y=some true->fQ P s.eval d y.op=fQ P s.eval s.H y.op:=by
   intro hw;cases M:cX pf g.op with
   | pure =>
    have:=(xn M hj').1;rw[this]
   | read =>
    have:=rI M hj';rw[this]
   | write =>
    rcases hc with hc|⟨_,_,hap⟩|⟨hw',_,_⟩|⟨hw',_,_⟩|⟨hw',_⟩|⟨hw',_⟩
    ·obtain ⟨Hj1, q1, q2⟩ := old hc
     have q3:=(gp (s1:=s.put g.dst u Hj1) (s:=⟨s.fr,Hj1⟩) (wi Hj1) (fun x hx=>by rw[ei Hj1 x hx]; cases x<;>rfl) rfl).1 q2;have e2:d=Hj1:=rI I q3;subst e2;unfold Yields at q3 hi;simp only[I,hw]at q3 hi;rw[key]at q3;rw[q3.2,hi.2]
    ·exact Nc fun id hid=>sj.1 M id (hap id (si.2.1 I hw id hid))
    ·rw [I] at hw'
     cases hw'
    ·rw [oI hw'] at I
     cases I
    ·rw [I] at hw'
     cases hw'
    ·rw [oI hw'] at I
     cases I
  refine(gp (s1:=s.put g.dst u d) (s:=⟨s.fr,d⟩) (wi d) (fun x hx=>by rw[ei d x hx]; cases x<;>rfl) rfl).2 ?_;unfold Yields at hi|-;simp only[I]at hi|-;cases hw:bY ops s.fr y with
  |none=>rw[hw]at hi; exact hi.elim
  | some b =>
   rw[hw]at hi;cases b with
   |false=>exact⟨hi.1,by simp⟩
   | true =>
    refine⟨by simp,?_⟩;rw[key,same hw];exact hi.2
 | write =>
  cases M:cX pf g.op with
  | pure =>
   obtain⟨V,g1⟩:=xn M U;have e1':d=O:=V;subst e1';refine⟨s.H,?_,⟨fun hw=>(by rw[M]at hw; cases hw),fun hr=>(by rw[M]at hr; cases hr),Ba (by rw[M]; simp),fun _ hw=>(by rw[M]at hw; cases hw)⟩,(gp (s1:=s.put g.dst u s.H) (s:=s) (wi s.H) (ei s.H) rfl).2 hi,toI rfl⟩;exact(gp (s1:=⟨(s.put y.dst v d).fr,s.H⟩) (s:=s) wj (fun x hx=>by
    have:=ej x hx;cases x<;>exact this) rfl).1 (g1 s.H)
  | read =>
   have e2:=rI M U;have e2':d=O:=e2;subst e2';refine⟨s.H,?_,readJ M,(gp (s1:=s.put g.dst u s.H) (s:=s) (wi s.H) (ei s.H) rfl).2 hi,toI rfl⟩;have same:bY ops s.fr g=some true->fQ P s.eval d g.op=fQ P s.eval s.H g.op:=by
    intro hw;rcases hc with hc|⟨hr',_,_⟩|⟨_,_,hap⟩|⟨_,hr',_⟩|⟨_,_,hr',_⟩|⟨_,hr',_⟩
    ·unfold oH at hc
     rw[I,M]at hc;cases hc
    ·rw [I] at hr'
     cases hr'
    ·exact Nc fun id hid=>si.1 I id (hap id (sj.2.1 M (by rw[wj]; exact hw) id (by rw[cj]; exact hid)))
    ·rw [oI hr'] at M
     cases M
    ·rw [oI (uc hr')] at M
     cases M
    ·rw [Nf hr'] at M
     cases M
   unfold Yields at U|-;simp only[M]at U|-;rw[wj]at U;cases hw:bY ops s.fr g with
   |none=>rw[hw]at U; exact U.elim
   | some b =>
    rw[hw]at U;cases b with
    |false=>exact⟨U.1,by simp⟩
    | true =>
     refine⟨by simp,?_⟩;rw[<-same hw,<-evj];exact U.2
  | write =>
   rcases hc with hc|⟨hr',_,_⟩|⟨_,hr',_⟩|⟨hai,haj,htw⟩|⟨_,hvi,haj,hap⟩|⟨hai,hqj,htw,hap⟩
   ·unfold oH at hc
    rw[I,M]at hc;cases hc
   ·rw [I] at hr'
    cases hr'
   ·rw [M] at hr'
    cases hr'
   ·-- two allocations, each in its own place
    have ck:∀{f:Option Bool},f=some true->f=some false->False:=fun h1 h2=>by rw[h1]at h2; cases h2
    rcases Fv hai hi (fun hw=>(si.2.2.1 hai htw hw).1)with⟨wi',rfl,V⟩|⟨wi',idi,yi,xi,ni,z2,V⟩
    ·subst V
     refine⟨d,(gp wj ej rfl).1 U,toJ rfl,?_,⟨fun _ A _=>rfl,fun hr=>(by rw[I]at hr; cases hr),fun _ _ _=>⟨rfl,fun _ h=>(h rfl).elim⟩,fun N=>(by rw[nI hai]at N; cases N)⟩⟩;unfold Yields;rw[wi,wi'];exact⟨rfl,rfl⟩
    ·rcases Fv haj U (fun hw => (sj.2.2.1 haj htw hw).1) with ⟨wj', rfl, e2⟩ | ⟨wj', q, yj, xj, nj, y2, e2⟩
     ·have e2' : d = O := e2
      subst e2';refine⟨s.H,?_,⟨fun _ A _=>rfl,fun hr=>(by rw[M]at hr; cases hr),fun _ _ _=>⟨rfl,fun _ h=>(h rfl).elim⟩,fun N=>(by rw[nI haj]at N; cases N)⟩,(gp (s1:=s.put g.dst (.tuple []) s.H) (s:=s) (wi s.H) (ei s.H) rfl).2 hi,toI rfl⟩;unfold Yields;rw[wj]at wj';rw[wj'];exact⟨rfl,rfl⟩
     ·have e2' : d = O.set q xj := e2
      have y2':O[q]? = some yj:=y2;have hne:q≠idi:=by
       intro e;subst e;rw[V,bf (aG z2)]at y2';exact kq.ne ni nj (iM y2')
      have y2s:s.H[q]? = some yj:=by rw[V,aQ (Ne.symm hne)]at y2'; exact y2'
      have wjs:bY ops s.fr g=some true:=by rw[<-wj]; exact wj'
      have hjj:∀ A,kept W j A->A≠q:=by
       intro A hA e;subst e;have h:=sj.1 M A hA;have h':d[A]? = O[A]? := h;rw[e2',bf (aG y2'),y2']at h';exact kq.ne nj nj (iM h')
      have hii:∀ A,kept W i A->A≠idi:=by
       intro A hA e;subst e;have h:=si.1 I A hA;rw[V,bf (aG z2),z2]at h;exact kq.ne ni ni (iM h)
      have hcomm:d=(s.H.set q xj).set idi xi:=by rw[e2',V,mv _ _ (Ne.symm hne)]
      refine⟨s.H.set q xj,Fw wjs nj y2s,⟨fun _ A hA=>aQ (Ne.symm (hjj A hA)),fun hr=>(by rw[M]at hr; cases hr),fun _ _ _=>⟨by simp,fun id hne=>?_⟩,fun N=>(by rw[nI haj]at N; cases N)⟩,?_,
       ⟨fun _ A hA=>?_,fun hr=>(by rw[I]at hr; cases hr),fun _ _ _=>⟨?_,fun id hne=>?_⟩,fun N=>(by rw[nI hai]at N; cases N)⟩⟩
      ·have e : id = q := Ea fun e => hne (aQ (Ne.symm e))
       subst e;refine(sj.2.2.1 haj htw wj').2 id ?_;show d[id]? ≠ O[id]?
       rw[e2',bf (aG y2'),y2'];exact fun e=>kq.ne nj nj (iM e)
      ·rw [hcomm]
       refine Fw (s:=s.put g.dst u (s.H.set q xj)) (by rw[wi]; exact wi') ni ?_;show (s.H.set q _)[idi]? = _
       rw[aQ hne];exact z2
      ·show d[A]? = (s.H.set q _)[A]?
       rw[hcomm,aQ (Ne.symm (hii A hA))]
      ·show d.length = (s.H.set q _).length
       rw[hcomm];simp
      ·have e:id=idi:=Ea fun e=>hne (by
        show d[id]? = (s.H.set q _)[id]?
        rw[hcomm,aQ (Ne.symm e)])
       subst e;refine(si.2.2.1 hai htw wi').2 id ?_;rw[V,bf (aG z2),z2];exact fun e=>kq.ne ni ni (iM e)
   ·-- a call, and an allocation in a place that it does not touch
    have hih:lU ops=true:=YO hvi;rcases Nh haj U (fun hw=>(sj.2.2.1 (uc haj) hih hw).1)with⟨wj',rfl,e2⟩|⟨wj',tj,q,zj,kj,mj,oj',y1,y2,y3,rfl,e2⟩
    ·have e2' : d = O := e2
     subst e2';refine⟨s.H,?_,⟨fun _ A _=>rfl,fun hr=>(by rw[M]at hr; cases hr),fun _ _ _=>⟨rfl,fun _ h=>(h rfl).elim⟩,fun N=>(by rw[nI (uc haj)]at N; cases N)⟩,(gp (s1:=s.put g.dst (.tuple []) s.H) (s:=s) (wi s.H) (ei s.H) rfl).2 hi,toI rfl⟩;unfold Yields;rw[wj]at wj';rw[wj'];exact⟨rfl,rfl⟩
    ·have e2' : d = O.set q (.vec kj 1 [er mj zj]) := e2
     have y2':O[q]? = some (.vec kj 0 []):=y2;obtain⟨e,he,hej,hid⟩:=(sj.2.2.1 (uc haj) hih wj').2 q (by
      show d[q]? ≠ O[q]?
      rw[e2',bf (aG y2'),y2'];simp)
     have hk:=hap e he hej q hid;have y2s:s.H[q]? = some (.vec kj 0 []):=by rw[<-si.1 I q hk]; exact y2'
     have wjs:bY ops s.fr g=some true:=by rw[<-wj]; exact wj'
     have hjj:∀ A,kept W j A->A≠q:=by
      intro A hA e;subst e;have h:=sj.1 M A hA;have h':d[A]? = O[A]? := h;rw[e2',bf (aG y2'),y2']at h';simp at h'
     have hfill:Bb W i s.H [(q,.vec kj 1 [er mj zj])]:=by
      intro p hp;rw[List.mem_singleton.1 hp];exact⟨hk,kj,_,y2s,rfl⟩
     have hcall:Yields P pf ops y ⟨s.fr,s.H.set q (.vec kj 1 [er mj zj])⟩ v d/\(bY ops s.fr y=some true->∀ σ,Bb W i (s.H.set q (.vec kj 1 [er mj zj])) σ->Yields P pf ops y ⟨s.fr,lW σ (s.H.set q (.vec kj 1 [er mj zj]))⟩ v (lW σ d)):=by
      cases hw:bY ops s.fr y with
      | none =>
       unfold Yields at hi;rw[hw]at hi;exact hi.elim
      | some b =>
       cases b with
       | false =>
        refine⟨?_,fun h=>by cases h⟩;unfold Yields at hi|-;rw[hw]at hi;rw[show bY ops (St.mk s.fr (s.H.set q (.vec kj 1 [er mj zj]))).fr y=some false from hw];refine⟨hi.1,?_⟩;show d=s.H.set q _
        rw[e2',hi.2]
       | true =>
        have h4:=si.2.2.2 hvi I hw;refine⟨?_,fun _ σ hσ=>?_⟩
        ·have := h4 _ hfill
         rw[e2'];exact this
        ·have:=h4 ((q,.vec kj 1 [er mj zj])::σ) (by
          intro p hp;rcases List.mem_cons.1 hp with rfl|hp
          ·exact hfill _ bZ
          ·obtain ⟨a2, k, r, a3, a4⟩ := hσ p hp
           refine⟨a2,k,r,?_,a4⟩;have hne:p.1≠q:=fun e=>by
            rw[e,bf (aG y2s)]at a3;simp at a3
           rwa [aQ (Ne.symm hne)]at a3)
         rw[e2'];exact this
     refine⟨s.H.set q (.vec kj 1 [er mj zj]),Ni wjs oj' y1 y2s y3 mj,⟨fun _ A hA=>aQ (Ne.symm (hjj A hA)),fun hr=>(by rw[M]at hr; cases hr),fun _ _ _=>⟨by simp,fun id hne=>?_⟩,fun N=>(by rw[nI (uc haj)]at N; cases N)⟩,fri (H1:=s.H.set q (.vec kj 1 [er mj zj])) hcall.1,
      ⟨fun _ A hA=>?_,fun hr=>(by rw[I]at hr; cases hr),fun ha=>(by rw[nI ha]at hvi; cases hvi),fun _ _ hwa σ hσ=>fri (H1:=s.H.set q (.vec kj 1 [er mj zj])) (hcall.2 (by rw[wi]at hwa; exact hwa) σ hσ)⟩⟩
     ·have e : id = q := Ea fun e => hne (aQ (Ne.symm e))
      subst e;exact⟨_,he,hej,hid⟩
     ·show d[A]? = (s.H.set q _)[A]?
      have h1:O[A]? = s.H[A]? := si.1 I A hA;by_cases e:A=q
      ·subst e
       rw[e2',bf (aG y2'),bf (aG y2s)]
      ·rw[e2',aQ (Ne.symm e),aQ (Ne.symm e),h1]
   ·-- an allocation in its place, and an operation that does not touch it
    rcases Fv hai hi (fun hw=>(si.2.2.1 hai htw hw).1)with⟨wi',rfl,V⟩|⟨wi',idi,yi,xi,ni,z2,V⟩
    ·subst V
     refine⟨d,(gp wj ej rfl).1 U,toJ rfl,?_,⟨fun _ A _=>rfl,fun hr=>(by rw[I]at hr; cases hr),fun _ _ _=>⟨rfl,fun _ h=>(h rfl).elim⟩,fun N=>(by rw[nI hai]at N; cases N)⟩⟩;unfold Yields;rw[wi,wi'];exact⟨rfl,rfl⟩
    ·have hii:∀ A,kept W i A->A≠idi:=by
      intro A hA e;subst e;have h:=si.1 I A hA;rw[V,bf (aG z2),z2]at h;exact kq.ne ni ni (iM h)
     obtain⟨e,he,hei,hid⟩:=(si.2.2.1 hai htw wi').2 idi (by
      rw[V,bf (aG z2),z2];exact fun e=>kq.ne ni ni (iM e))
     have hk:kept W j idi:=hap e he hei idi hid;have hHi:O[idi]? = some xi:=by rw[V,bf (aG z2)]
     have hjk:d[idi]? = some xi:=by rw[sj.1 M idi hk]; exact hHi
     have hback:∃ H1,Yields P pf ops g s u H1/\d=H1.set idi xi/\H1[idi]? = some yi:=by
      cases hw:bY ops s.fr g with
      | none =>
       unfold Yields at U;rw[wj,hw]at U;exact U.elim
      | some b =>
       cases b with
       | false =>
        unfold Yields at U;rw[wj,hw]at U;refine⟨s.H,?_,?_,z2⟩
        ·unfold Yields
         rw[hw];exact⟨U.1,rfl⟩
        ·rw [U.2]
         exact V
       | true =>
        have h1:=YY hqj U (by rw[wj]; exact hw);have h2:cW P s.eval (s.H.set idi xi) g.op=some (u,d):=by
         rw[<-V];have:=MS (P:=P) (H:=O) g.op ej;rw[<-this];exact h1
        obtain⟨H1,g1,g2,g3⟩:=YX hqj z2 ni.no h2 hjk;refine⟨H1,?_,g2,g3⟩;unfold Yields;simp only[hw,M];exact .inl (.inl g1)
     obtain⟨H1,q1,q2,q3⟩:=hback;refine⟨H1,q1,⟨fun _ A hA=>?_,fun hr=>(by rw[M]at hr; cases hr),fun ha=>(by rw[YM hqj]at ha; cases ha),fun N=>(by rw[YN hqj]at N; cases N)⟩,?_,⟨fun _ A hA=>?_,fun hr=>(by rw[I]at hr; cases hr),fun _ _ _=>⟨?_,fun id hne=>?_⟩,fun N=>(by rw[nI hai]at N; cases N)⟩⟩
     ·by_cases hA2 : A = idi
      ·rw[hA2,q3,z2]
      ·have h3 : d[A]? = O[A]? := sj.1 M A hA
       rw[q2,aQ (Ne.symm hA2),V,aQ (Ne.symm hA2)]at h3;exact h3
     ·rw [q2]
      exact Fw (s:=s.put g.dst u H1) (by rw[wi]; exact wi') ni q3
     ·show d[A]? = H1[A]?
      rw[q2,aQ (Ne.symm (hii A hA))]
     ·show d.length = H1.length
      rw[q2];simp
     ·have e2:id=idi:=Ea fun e2=>hne (by
       show d[id]? = H1[id]?
       rw[q2,aQ (Ne.symm e2)])
      subst e2;exact⟨e,he,hei,hid⟩
def xo(P:Program)(pf:FuncId->Bool)(ops:Array Oper)(R:jT)(W:jf)(i:Nat)(K:St->Prop)(s:St):Prop :=
 match ops[i]? with
 |none=>K s
 |some o=>∃ v H',Yields P pf ops o s v H'/\Step P pf ops R W i o s v H'/\K (s.put o.dst v H')
def xp(P:Program)(pf:FuncId->Bool)(ops:Array Oper)(R:jT)(W:jf)(s':St):Nat->Array Bool->St->Prop
 |0,listed,s=>mw .any ops listed=[]/\s=s'
 |fuel+1,listed,s=>(mw .any ops listed=[]->s=s')/\∀ i∈mw .any ops listed,xo P pf ops R W i (xp P pf ops R W s' fuel (listed.setIfInBounds i true)) s
theorem Fx{R:jT}{W:jf}{s':St}:∀(fuel:Nat) (listed:Array Bool) (s:St),xp P pf ops R W s' fuel listed s->tZ P pf ops s' fuel listed s
 |0,_,_,h=>h
 | fuel+1,listed,s,h=>by
  refine⟨h.1,fun i hi=>?_⟩;have h1:=h.2 i hi;unfold xo at h1;unfold tY;cases ho:ops[i]? with
  |none=>rw[ho]at h1; exact Fx fuel _ _ h1
  | some o =>
   rw[ho]at h1;obtain⟨v,H',g1,_,g2⟩:=h1;exact⟨v,H',g1,Fx fuel _ _ g2⟩
theorem Y0{R:jT}{W:jf}{s':St}{i:Nat}{g:Oper}(hi:ops[i]? = some g):∀(fuel:Nat) (listed:Array Bool) (s:St) (v:AV) (H':List ab),rJ ops listed ->
  (∀ j q,ops[j]? = some q->j≠i->listed.getD j true=false->waits ops ops.size j i=false->g.apart ops q=true/\q.apart ops g=true/\Bc pf ops R W i g j q) ->
  i∈mw .any ops listed->Yields P pf ops g s v H'->Step P pf ops R W i g s v H'->xp P pf ops R W s' fuel (listed.setIfInBounds i true) (s.put g.dst v H')->xp P pf ops R W s' (fuel+1) listed s:=by
 intro fuel
 induction fuel with
 | zero =>
  intro listed s v H' _ _ hr M I H;refine⟨fun h=>(by rw[h]at hr; cases hr),fun j y=>?_⟩;by_cases d:j=i
  ·subst d
   unfold xo;simp only[hi];exact⟨v,H',M,I,H⟩
  ·have := ready_mono y d
   rw[H.1]at this;cases this
 | succ fuel ih =>
  intro listed s v H' V O hr M I H;refine⟨fun h=>(by rw[h]at hr; cases hr),fun j y=>?_⟩;by_cases d:j=i
  ·subst d
   unfold xo;simp only[hi];exact⟨v,H',M,I,H⟩
  ·have h1 := H.2 j (ready_mono y d)
   obtain⟨U,q,hoj,hall⟩:=mem_ready.1 y;unfold xo at h1|-;simp only[hoj]at h1|-;obtain⟨u,Hj,hyj,hsj,hrest⟩:=h1;have hnw:waits ops ops.size j i=false:=by
    cases hw:waits ops ops.size j i with
    |false=>rfl
    | true =>
     have:=Fm V _ _ _ (Fo y) hw;rw[MY hr]at this;cases this
   obtain⟨a1,a2,a3⟩:=O j q hoj d U hnw;obtain⟨N,q1,q2,q3,q4⟩:=YZ a1 a2 a3 M I hyj hsj;refine⟨u,N,q1,q2,?_⟩;refine ih (listed.setIfInBounds j true) (s.put q.dst u N) v Hj (A9 V y) ?_ (ready_mono hr (Ne.symm d)) q3 q4 ?_
   ·intro k ok hk hki hun hno
    refine O k ok hk hki ?_ hno;by_cases hjk:j=k
    ·subst hjk; exact U
    ·rw[getD_set_ne true hjk]at hun; exact hun
   ·rw [alP _ _ d]
    have:=MX s g.dst q.dst v u H' Hj N (Lg a1).2.1;rw[<-this];exact hrest
def ud(P:Program)(pf:FuncId->Bool)(ops:Array Oper)(R:jT)(W:jf):List Oper->Nat->St->St->Prop
 | [],_,s,s'=>s=s'
 |o::l,j,s,s'=>∃ v H',Yields P pf ops o s v H'/\Step P pf ops R W j o s v H'/\ud P pf ops R W l (j+1) (s.put o.dst v H') s'
def Fy(pf:FuncId->Bool)(x y:Oper):Bool :=
 oH pf x y||((match cX pf x.op,cX pf y.op with
  |.read,.write=>true
  |.write,.read=>true
  |_,_=>false)||((eS x.op&&eS y.op)||((match cX pf x.op with
  |.write=>rL x.op&&isVar y.op
  |_=>false)||(eS x.op&&jU y.op))))
theorem Y1{i j:Nat}{x y:Oper}(hi:ops[i]? = some x)(d:ops[j]? = some y)(g:i<j)(hw:waits ops ops.size j i=false)(k:eS x.op=true)(q:eS y.op=true):Ft ops=true:=by
 unfold Ft;refine lI.2 ⟨j,fu.2 (k5.1 d).1,lI.2 ⟨i,fu.2 g,?_⟩⟩;rw[hi,d];simp[k,q,hw]
theorem Y2{i j:Nat}{x y:Oper}(hi:ops[i]? = some x)(d:ops[j]? = some y)(g:i<j)(hw:waits ops ops.size j i=false)(k:eS x.op=true)(q:jU y.op=true):Fu ops=true:=by
 unfold Fu;refine lI.2 ⟨j,fu.2 (k5.1 d).1,lI.2 ⟨i,fu.2 g,?_⟩⟩;rw[hi,d];simp[k,q,hw]
theorem Y3{i j:Nat}{x y:Oper}(hi:ops[i]? = some x)(d:ops[j]? = some y)(g:i<j)(hw:waits ops ops.size j i=false)(k:rL x.op=true)(q:isVar y.op=true):A' ops=true:=by
 unfold A';refine lI.2 ⟨j,fu.2 (k5.1 d).1,lI.2 ⟨i,fu.2 g,?_⟩⟩;rw[hi,d];simp[k,q,hw]
def Fz(pf:FuncId->Bool)(ops:Array Oper)(x y:Oper):Bool:=match cX pf x.op with
 |.write=>mM x.op&&(isVar y.op&&lU ops)
 |_=>false
def ue(pf:FuncId->Bool)(ops:Array Oper):Bool :=
  alO ops &&
  (dB ops.size).all fun j=>(match ops[j]? with
    | some d=>(d.after.toList.all fun e => !Lf .any e||e.on<j) &&
      ((dB j).all fun i => match ops[i]? with
        |some g=>waits ops ops.size j i||(g.apart ops d&&d.apart ops g&&(Fy pf g d||Fz pf ops g d))
        |none=>true)
    |none=>true)
def rM(ops:Array Oper)(R:jT)(W:jf):Prop:=(∀ i id,(i,id)∈R->∀ e∈W,(i<e.1->waits ops ops.size e.1 i=false->id∉e.2.1/\id<e.2.2)/\(e.1<i->waits ops ops.size i e.1=false->id∉e.2.1/\id<e.2.2)) /\
 (∀ e∈W,∀ e'∈W,e.1<e'.1->waits ops ops.size e'.1 e.1=false->∀ id∈e'.2.1,id∉e.2.1/\id<e.2.2) /\
 ∀ e∈W,∀ e'∈W,e.1<e'.1->waits ops ops.size e'.1 e.1=false->∀ id∈e.2.1,id<e'.2.2
theorem Y4{R:jT}{W:jf}(q:rM ops R W){i j:Nat}{x y:Oper}(hi:ops[i]? = some x)(k:ops[j]? = some y)(g:i<j)(hw:waits ops ops.size j i=false)(d:Fy pf x y=true):Bc pf ops R W i x j y:=by
 unfold Fy at d;simp only[qZ]at d;rcases d with d|d|d|d|d
 ·exact .inl d
 ·split at d
  ·rename_i h1 M
   refine .inr (.inl ⟨h1,M,fun id hid e he k=>?_⟩);subst k;exact(q.1 i id hid e he).1 g hw
  ·rename_i h1 M
   refine .inr (.inr (.inl ⟨h1,M,fun id hid e he k=>?_⟩));subst k;exact(q.1 j id hid e he).2 g hw
  ·cases d
 ·simp only [ax] at d
  refine .inr (.inr (.inr (.inl ⟨d.1,d.2,?_⟩)));unfold lU;rw[Y1 hi k g hw d.1 d.2];rfl
 ·split at d
  ·rename_i h1
   simp only[ax]at d;refine .inr (.inr (.inr (.inr (.inl ⟨h1,by unfold lV; rw[d.1,Y3 hi k g hw d.1 d.2]; rfl,d.2,fun e he v id hid e' u I=>?_⟩))));subst v I;exact q.2.1 e' u e he g hw id hid
  ·cases d
 ·simp only [ax] at d
  refine .inr (.inr (.inr (.inr (.inr ⟨d.1,d.2,?_,fun e he I id hid e' u v=>?_⟩))))
  ·unfold lU
   rw[Y2 hi k g hw d.1 d.2];simp
  ·subst I v
   exact⟨fun hm=>(q.2.1 e he e' u g hw id hm).1 hid,q.2.2 e he e' u g hw id hid⟩
theorem Y5{R:jT}{W:jf}(v:rM ops R W){i j:Nat}{x y:Oper}(g:i<j)(hw:waits ops ops.size j i=false)(d:Fz pf ops x y=true):Bc pf ops R W i x j y:=by
 unfold Fz at d;split at d
 ·rename_i h1
  simp only[ax]at d;refine .inr (.inr (.inr (.inr (.inl ⟨h1,by unfold lV; rw[d.1,d.2.2]; simp,d.2.1,fun e he k id hid e' q u=>?_⟩))));subst k u;exact v.2.1 e' q e he g hw id hid
 ·cases d
theorem Nj{R:jT}{W:jf}{s':St}(hB:ue pf ops=true)(N:rM ops R W):∀(l:List Oper) (k:Nat) (listed:Array Bool) (s:St),l=ops.toList.drop k->rJ ops listed->listed.size=ops.size ->
  (∀ j,j<ops.size->(listed.getD j true=false↔k<=j))->ud P pf ops R W l k s s'->xp P pf ops R W s' l.length listed s
 | [],k,listed,s,y,_,U,hk,h=>by
  simp only[ud]at h;refine⟨?_,h⟩;apply alQ.2;intro j d;obtain⟨h0,o,ho,_⟩:=mem_ready.1 d;have u:j<ops.size:=(k5.1 ho).1;have:=(hk j u).1 h0;have hlen:(ops.toList.drop k).length=0:=by rw[<-y]; rfl
  simp at hlen;omega
 | o::l,k,listed,s,y,V,U,hk,h=>by
  obtain⟨v,H',hy,hst,hrest⟩:=h;have h0:ops[k]? = some o:=by
   have:(ops.toList.drop k)[0]? = some o:=by rw[<-y]; rfl
   simpa using this
  have u:k<ops.size:=(k5.1 h0).1;simp only[ue,ax,da,fu]at hB;obtain⟨_,I⟩:=hB;have hlistedlt:∀ j,j<k->listed.getD j false=true:=by
   intro j d;have hn:¬ (listed.getD j true=false):=fun e=>by have:=(hk j (by omega)).1 e; omega
   have:j<listed.size:=by omega
   simp[this]at hn|-;exact hn
  have O:k∈mw .any ops listed:=by
   refine mem_ready.2 ⟨(hk k u).2 (aB _),o,h0,fun e he hb=>?_⟩;have:=I k u;rw[h0]at this;simp only[ax,da]at this;have h1:=this.1 e (by simpa using he);simp only[hb,Aj,wK,decide_eq_true_eq]at h1;exact hlistedlt e.on h1
  refine Y0 h0 l.length listed s v H' V ?_ O hy hst ?_
  ·intro j oj d hjk hun M
   have q:j<ops.size:=(k5.1 d).1;have hkj:k<=j:=(hk j q).1 hun;have:=I j q;rw[d]at this;simp only[ax,da,fu]at this;have h1:=this.2 k (by omega);rw[h0]at h1;simp only[M,wK,ax]at h1;exact⟨h1.1.1,h1.1.2,by
    have g:=h1.2;rw[qZ]at g;rcases g with g|g
    ·exact Y4 N h0 d (by omega) M g
    ·exact Y5 N (by omega) M g⟩
  ·refine Nj (by simp only [ue, ax, da, fu]; exact ⟨‹_›, I⟩) N l (k + 1) _ _ ?_ (A9 V O) (by simpa using U) ?_ hrest
   ·rw[<-qV,<-y]; rfl
   ·intro j q
    by_cases e:k=j
    ·subst e
     have:k<listed.size:=by omega
     simp[this]
    ·rw [getD_set_ne true e, hk j q]
     omega
theorem Y6{R:jT}{W:jf}{id:Nat}{s s':St}{E:Env}{a:Act}{Q:Exit->Act->World->Prop}(hm:P.follows .mixedOrders=true)(hB:ue pf ops=true)(u:rM ops R W)(d:df s E a)
  (h:ud P pf ops R W ops.toList 0 s s') (v:∀ g w',fR E s' g w'->Q .normal g w'):∀ ro:Option Nat,(Code.region id ops true).wpIn (fz ro) 0 P Q a E.w:=by
 intro ro;have q:df s { E with w:={ E.w with drawn:=E.w.drawn+1 } } a:=⟨d.H,dw (Env.kl (Ext.drawn E.w _)) _ d.fr,Ex d.heap (Env.kl (Ext.drawn E.w _)) d.defers,d.heap.ext (Ext.drawn E.w _)⟩
 refine wpIn_region_any hm (A7 (pf:=pf) _ _ s { E with w:={ E.w with drawn:=E.w.drawn+1 } } a q ?_ (fun g w' y=>v g w' (fR.after (Env.kl (Ext.drawn E.w _)) y)) ro);have:=Fx _ _ _ (Nj (P:=P) (s':=s') hB u ops.toList 0 (te ops.size false) s (by simp) (by
  intro j k;exfalso;rcases kU j ops.size with h'|h'
  ·simp[h']at k
  ·simp[Lh (xs:=te ops.size false) (by simpa using h')]at k) (by simp) (by intro j k; simp[k]) h)
 simpa using this
end Go.AL
