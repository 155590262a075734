/-
 What is proved here: every operation that the logic knows,put together,with calls; what an operation leaves. No program in sight; no condition.
-/
import Derived.Test.YtmhkodhaodcfdaaGreatDoorMAB
set_option linter.all false
open Array renaming ext'->g_,getElem?_eq_some_iff->je,toList_append->E9,getElem?_eq_none->E_,setIfInBounds_comm->aj1,replicate->pz
open Bool renaming and_eq_true->aE,not_true->AS,or_eq_true->nu,false_or->iz
open Classical renaming byContradiction->aj3
open Decidable renaming byContradiction->sC
open Function renaming comp_def->Tb
open Go renaming Value->ak,FuncId->bC,TypeId->aD,World->a6,Program->ai,Operand->bX,Oper->aQ
open Go.Builtin renaming len_->Ta
open Go.Call renaming operands->uI
open Go.Op renaming operands->eV
open Go.Oper renaming wpIn->uG,semAt_eq->sB,apart_spec->J4
open Go.Region renaming wanted->Td,binds->J3,noSelect->aj0,ready->nt
open Go.Result renaming andThen_ok->bY
open Go.Sem renaming run_bind->cg,run_pure->e_
open Go.Value.slice renaming injEq->lv
open List renaming range->jc,length_cons->bW,getElem?_append_left->dr,getElem?_set_self->bK,getElem?_set_ne->bc,all_eq_true->cq,drop_drop->pq,map_map->nh,replicate->dz,mem_cons_self->cZ,nodup_cons->uF,set_comm->nr,set_append_left->A3,map_congr_left->uH,any_eq_true->mh,eq_nil_iff_forall_not_mem->aj2,mem_range->ke
open Nat renaming le_refl->aY,lt_of_lt_of_le->eF,lt_or_ge->kJ
open Option renaming map_some->fk
open Option.some renaming injEq->a_,inj->iA
namespace Go.AL
open Go
variable [Dr]
def mv(x:bX):Bool:=x matches .const _
def Ge:AV->AV->Option AV
 |.lit (.int k a),.lit (.int _ b)=>some (.lit (.int k (if b>a then b else a)))
 |_,_=>none
def Gf:AV->AV->Option AV
 |.lit (.int k a),.lit (.int _ b)=>some (.lit (.int k (if b<a then b else a)))
 |_,_=>none
def vl(f:AV->AV->Option AV):AV->List AV->Option AV
 |x,[]=>some x
 | x,y::l=>match f x y with
  |some z=>vl f z l
  |none=>none
def UQ:List AV->Option AV
 | []=>none
 |x::rest=>vl Ge x rest
def UR:List AV->Option AV
 | []=>none
 |x::rest=>vl Gf x rest
def BJ(k:SK)(x:AV):Option AV :=
 match k,x with
 |.str,.lit (.string s)=>some (.int s.size)
 |.slice _ _ _,.lit (.string _)=>none
 | .slice _ _ _,x=>match Bj x with
  |some n=>some (.int n)
  |none=>none
 |_,_=>none
def Gg(P:ai)(b:Builtin)(fQ:List aD)(args:List AV):Option AV :=
 match b with
 | .len=>match fQ[0]?,args[0]? with
  |some t,some x=>BJ (cI P t) x
  |_,_=>none
 |.max=>UQ args
 |.min=>UR args
 | .cap=>match fQ,args with
  | t::_,.lit (.slice none 0 0)::_=>match cI P t with
   |.slice _ _ _=>some (.int 0)
   |_=>none
  |_,_=>none
 |_=>none
def Gh(r:bX->AV)(fn:Fn)(first caps:Array bX):Option AV :=
 match fn with
 |.func f=>if first.toList.isEmpty then some (.clo f (caps.toList.map r)) else none
 |_=>none
def Gi(P:ai)(r:bX->AV)(c:Call):Option AV :=
 match c.callee with
 |.builtin b=>Gg P b c.argTypes.toList (c.args.toList.map r)
 |_=>none
def jh(P:ai)(r:bX->AV):Op->Option AV
 |.move x | .assign x=>some (r x)
 | .pick c a b=>match r c with
  |.lit (.bool t)=>some (bif t then r a else r b)
  |_=>none
 | .extract t i=>match r t with
  |.tuple h=>h[i]?
  |_=>none
 | .field t x f=>match uS P t f with
  |some k=>FQ k (r x)
  |none=>none
 | .fieldAddr t x f=>match uS P t f with
  |some k=>FC k (r x)
  |none=>none
 |.indexAddr t x i=>jS (cI P t) (r x) (r i)
 |.index t x i=>qU (cI P t) (r x) (r i)
 |.binOp op t x y _=>iF P op t (mv x||mv y) (r x) (r y)
 |.unOp op _ x=>u7 op (r x)
 |.convert s d x=>u_ P s d (r x)
 |.build t parts=>FR P t (parts.toList.map fun p=>(p.1,r p.2))
 |.buildSlice t n parts=>vh P t n (parts.toList.map fun p=>(p.1,r p.2))
 |.slice t x lo hi mx=>kl P t (r x) (lo.map r) (hi.map r) (mx.map r)
 |.makeFunc fn first caps=>Gh r fn first caps
 | .nilCheck x=>match r x with
  |.ptr id al k row g=>some (.ptr id al k row g)
  |.cptr cells=>some (.cptr cells)
  |.clo f caps=>some (.clo f caps)
  |_=>none
 | .makeInterface t _=>match P.underlying t with
  |some (.interface _)=>none
  |some _=>some .ifc
  |none=>none
 |.call c=>Gi P r c
 |_=>none
def sZ{E:ae}{r:bX->AV}{ρ:bX->ak}(h:∀ x,ab E (r x) (ρ x)):∀(l:List bX),ar E (l.map r) (l.map ρ)
 | []=>by simp[ar]
 |x::l=>by simp only[List.map_cons,ar]; exact⟨h x,sZ h l⟩
def Gj{E:ae}{r:bX->AV}{ρ:bX->ak}(h:∀ x,ab E (r x) (ρ x))(o:Option bX):qS E (o.map r) (o.map ρ):=by
 cases o with
 |none=>simp[qS]
 |some x=>simpa[qS]using h x
def iW(E:ae)(v:AV)(u:ak)(w':a6):Prop:=Ext E.w w'/\ab { E with w:=w' } v u
def iW.same{E:ae}{v:AV}{u:ak}(h:ab E v u):iW E v u E.w:=⟨Ext.refl _,h⟩
def qX{P:ai}{s:Sem ak}{w w':a6}{u:ak}(h:s.run P w=.ok u w'):(do pure (Next.value (<- s)):Sem Next).run P w=.ok (.value u) w':=by
 simp[h]
def Gk{P:ai}{E:ae}{f:AV->AV->Option AV}{g:ak->ak->Sem ak}
  (q:∀ x y c d z,f x y=some z->ab E x c->ab E y d->∃ u,(g c d).run P E.w=.ok u E.w/\ab E z u) :
  ∀(rest:List AV) (x:AV) (c:ak) (a:List ak) (v:AV),ab E x c->ar E rest a->vl f x rest=some v ->
   ∃ u,(a.foldlM g c).run P E.w=.ok u E.w/\ab E v u
 | [],x,c,a,v,k,b,h=>by
  cases a with
  |nil=>simp[vl]at h; subst h; exact⟨c,rfl,k⟩
  |cons _ _=>simp[ar]at b
 | y::rest,x,c,a,v,k,b,h=>by
  cases a with
  |nil=>simp[ar]at b
  | cons d a =>
   simp only[ar]at b;simp only[vl]at h;split at h
   ·rename_i z t
    obtain⟨u,A,B⟩:=q x y c d z t k b.1;obtain⟨F,I,J⟩:=Gk q rest z u a v B b.2 h;exact⟨F,by simp only[List.foldlM_cons,cg,A,bY]; exact I,J⟩
   ·cases h
def US{P:ai}{E:ae}(x y:AV)(c d:ak)(z:AV)(h:Ge x y=some z)(a:ab E x c)(b:ab E y d) :
  ∃ u,(Builtin.max2 c d).run P E.w=.ok u E.w/\ab E z u:=by
 unfold Ge at h;split at h
 ·cases h
  simp only[ab]at a b;subst a; subst b;exact⟨_,rfl,by simp[ab]⟩
 ·cases h
def UT{P:ai}{E:ae}(x y:AV)(c d:ak)(z:AV)(h:Gf x y=some z)(a:ab E x c)(b:ab E y d) :
  ∃ u,(Builtin.min2 c d).run P E.w=.ok u E.w/\ab E z u:=by
 unfold Gf at h;split at h
 ·cases h
  simp only[ab]at a b;subst a; subst b;exact⟨_,rfl,by simp[ab]⟩
 ·cases h
def UU{P:ai}{E:ae}{b:Builtin}{fQ:Array aD}{ty:aD}{consts:Array Bool}{args:List AV}{cargs:Array ak}{v:AV}
  (h:Gg P b fQ.toList args=some v) (a:ar E args cargs.toList):∃ u,(builtin b fQ ty consts cargs).run P E.w=.ok (.value u) E.w/\ab E v u:=by
 cases b<;>simp only[Gg]at h<;>try cases h
 case len =>
  split at h
  case h_2=>cases h
  rename_i t x A U;obtain⟨c,B,d⟩:=pK a U;have q:fQ[0]? = some t:=by simpa using A
  have y:cargs[0]? = some c:=by simpa using B
  unfold BJ at h;split at h
  ·rename_i s k
   cases h;simp only[ab]at d;subst d;refine⟨goInt s.size,?_,by simp[ab,goInt]⟩;simp[builtin,Ta,q,y,Sem.bH (sL k)]
  ·cases h
  ·rename_i e sz N k O
   split at h
   ·rename_i n z
    cases h;obtain⟨F,_⟩:=iR k;rcases TA z d with⟨s,rfl,_⟩|⟨aN,cap,rfl⟩
    ·exfalso
     unfold Bj at z;split at z
     ·rename_i s'
      exact O s' rfl
     all_goals first
      |(simp[ab,eX]at d; done)
      |cases z
    ·refine ⟨goInt n, ?_, by simp [ab, goInt]⟩
     simp[builtin,Ta,q,y,Sem.bH F]
   ·cases h
  ·cases h
 case max =>
  cases args with
  |nil=>cases h
  | cons x rest =>
   cases g:cargs.toList with
   |nil=>rw[g]at a; simp[ar]at a
   | cons c I =>
    rw[g]at a;simp only[ar]at a;obtain⟨u,J,M⟩:=Gk (P:=P) US rest x c I v a.1 a.2 h;refine⟨u,?_,M⟩;simp[builtin,Builtin.max_,g,J]
 case min =>
  cases args with
  |nil=>cases h
  | cons x rest =>
   cases g:cargs.toList with
   |nil=>rw[g]at a; simp[ar]at a
   | cons c I =>
    rw[g]at a;simp only[ar]at a;obtain⟨u,J,M⟩:=Gk (P:=P) UT rest x c I v a.1 a.2 h;refine⟨u,?_,M⟩;simp[builtin,Builtin.min_,g,J]
 case cap =>
  split at h
  case h_2=>cases h
  rename_i t V as A;obtain⟨c,B,d⟩:=pK (i:=0) a rfl;have q:fQ[0]? = some t:=by
   have:fQ.toList[0]? = some t:=by rw[A]; rfl
   simpa using this
  have y:cargs[0]? = some c:=by simpa using B
  simp only[ab]at d;subst d;split at h
  ·rename_i e sz N k
   cases h;obtain⟨F,_⟩:=iR k;refine⟨goInt 0,?_,by simp[ab,goInt]⟩;simp[builtin,Builtin.cap_,q,y,Sem.bH F]
  ·cases h
def UW{P:ai}{E:ae}(HE:aG E){r:bX->AV}{ρ:bX->ak}(g:∀ x,ab E (r x) (ρ x)){o:aQ}{v:AV}(h:jh P r o.op=some v) :
  ∃ u w',(execOp ρ o).run P E.w=.ok (.value u) w'/\iW E v u w':=by
 obtain⟨dst,op,U,pos,after,guard⟩:=o;have same:∀{s:Sem ak},(∃ u,s.run P E.w=.ok u E.w/\ab E v u)->∃ u w',(do pure (Next.value (<- s)):Sem Next).run P E.w=.ok (.value u) w'/\iW E v u w':=by
  rintro s ⟨u,z,B⟩;exact⟨u,E.w,qX z,iW.same B⟩
 cases op<;>simp only[jh]at h<;>try cases h
 case move x=>exact⟨ρ x,E.w,rfl,iW.same (g x)⟩
 case assign x=>exact⟨ρ x,E.w,rfl,iW.same (g x)⟩
 case pick c a b =>
  split at h
  ·rename_i t J
   cases h;have A:=g c;rw[J]at A;simp only[ab]at A;refine⟨if t then ρ a else ρ b,E.w,?_,?_⟩
   ·simp[execOp,A,asBool]
   ·cases t
    ·exact iW.same (g b)
    ·exact iW.same (g a)
  ·cases h
 case build t parts =>
  obtain⟨u,z,B⟩:=TQ (E:=E) (cparts:=parts.toList.map fun p=>(p.1,ρ p.2)) h (by simp) (by
   simp only[nh];have:=sZ g (parts.toList.map (·.2));simpa[nh,Tb]using this)
  have e:(parts.toList.map fun p=>(p.1,ρ p.2)).toArray=parts.map fun(i,x)=>(i,ρ x):=by
   apply g_; simp
  rw[e]at z;exact same ⟨u,z,B⟩
 case buildSlice t n parts =>
  obtain⟨u,w',z,B,W⟩:=Ua HE (cparts:=parts.toList.map fun p=>(p.1,ρ p.2)) h (by simp) (by
   simp only[nh];have:=sZ g (parts.toList.map (·.2));simpa[nh,Tb]using this)
  have e:(parts.toList.map fun p=>(p.1,ρ p.2)).toArray=parts.map fun(i,x)=>(i,ρ x):=by
   apply g_; simp
  rw[e]at z;exact⟨u,w',qX z,B,W⟩
 case nilCheck x =>
  have q:=g x;split at h
  ·rename_i id al k row col he
   cases h;rw[he]at q;have F:=q;simp only[ab]at F;obtain⟨⟨b,o,A⟩,_⟩:=F;exact⟨ρ x,E.w,by simp[execOp,A],iW.same q⟩
  ·rename_i cells he
   cases h;rw[he]at q;have F:=q;simp only[ab]at F;obtain⟨_,b,o,A,_⟩:=F;exact⟨ρ x,E.w,by simp[execOp,A],iW.same q⟩
  ·rename_i f caps he
   cases h;rw[he]at q;have F:=q;simp only[ab]at F;obtain⟨M,A,_⟩:=F;exact⟨ρ x,E.w,by simp[execOp,A],iW.same q⟩
  ·cases h
 case binOp op t x y _ =>
  refine same (TL (x:=x) (y:=y) (fun I=>?_) h (g x) (g y));cases x<;>cases y<;>first|rfl|exact I
 case unOp op _ x=>exact same (TM h (g x))
 case convert s d x=>exact same (TN h (g x))
 case makeInterface t x =>
  split at h
  ·cases h
  ·rename_i d N O
   cases h;refine same ⟨.iface t (ρ x),?_,by simp only[ab]; exact⟨_,_,rfl⟩⟩;simp only[Instr.makeInterface,cg,Sem.bH O,bY];cases d<;>first|rfl|(exact(N _ O).elim)|(exact(N _ rfl).elim)
  ·cases h
 case makeFunc fn first caps =>
  cases fn<;>simp only[Gh]at h<;>try cases h
  rename_i f;split at h
  ·rename_i X
   cases h;refine⟨.func (.func f) (first.map ρ) (caps.map ρ),E.w,rfl,iW.same ?_⟩;simp only[ab];refine⟨caps.map ρ,?_,by simpa using sZ g caps.toList⟩;have:first=#[]:=by
    apply g_;simpa using X
   simp[this]
  ·cases h
 case slice t x lo hi mx=>exact same (TG h (g x) (Gj g lo) (Gj g hi) (Gj g mx))
 case fieldAddr t x f =>
  split at h
  ·rename_i k I; exact same (TC I h (g x))
  ·cases h
 case field t x f =>
  split at h
  ·rename_i k I; exact same (TP I h (g x))
  ·cases h
 case indexAddr t x i=>exact same (TD HE h (g x) (g i))
 case index t x i=>exact same (TO h (g x) (g i))
 case extract t i =>
  split at h
  ·rename_i vs J
   have q:=g t;rw[J]at q;simp only[ab]at q;obtain⟨M,A,Y⟩:=q;obtain⟨u,z,B⟩:=pK Y h;refine same ⟨u,?_,B⟩;have V:M[i]? = some u:=by simpa using z
   simp[Instr.extract,A,V]
  ·cases h
 case call c =>
  obtain⟨callee,args,argTypes⟩:=c;cases callee<;>simp only[Gi]at h<;>try cases h
  rename_i b;obtain⟨u,z,B⟩:=UU (P:=P) (E:=E) (b:=b) (fQ:=argTypes) (ty:=U) (consts:=args.map fun | .const _=>true|_=>false) (cargs:=args.map ρ) h
   (by simpa using sZ g args.toList)
  exact⟨u,E.w,by simp only[execOp,resolve,cg,e_,bY,invoke]; exact z,iW.same B⟩
def BK(P:ai)(r:bX->AV)(H:List ah)(c:Call):Option (AV × List ah) :=
 match c.callee with
 | .builtin .append=>match c.args.toList,c.argTypes.toList with
  | [s,x],[t,xt]=>match sR P t xt (r s) (r x) H with
   |some y=>some y
   |none=>vf P t xt (r s) (r x) H
  |_,_=>none
 | .builtin .clear=>match c.args.toList,c.argTypes.toList with
  | [x],[t]=>match xN P t (r x) H with
   |some H'=>some (.tuple [],H')
   |none=>none
  |_,_=>none
 | .builtin .delete=>match c.args.toList,c.argTypes.toList with
  | [x,k],t::_=>match xM P t (r x) (r k) H with
   |some H'=>some (.tuple [],H')
   |none=>none
  |_,_=>none
 |_=>none
def du(P:ai)(r:bX->AV)(H:List ah):Op->Option (AV × List ah)
 |.alloc t=>sO P t H
 |.box _ x=>Bz (r x) H
 | .store t a x=>match lK P t (r a) (r x) H with
  |some H'=>some (.undef,H')
  | none=>match sY P t (r a) (r x) H with
   |some H'=>some (.undef,H')
   | none=>match xS P t (r a) (r x) H with
    |some H'=>some (.undef,H')
    |none=>none
 |.makeSlice t l c=>xH P t (r l) (r c) H
 |.buildSlice t n parts=>xO P t n (parts.toList.map fun p=>(p.1,r p.2)) H
 |.range t x=>BC P t (r x) H
 |.next it isString=>BD (r it) isString H
 |.makeMap _ none=>some (.map H.length,H++[.map [] 0])
 | .mapUpdate t m k v=>match mr P t (r m) (r k) (r v) H with
  |some H'=>some (.undef,H')
  | none=>match pQ P t (r m) (r k) (r v) H with
   |some H'=>some (.undef,H')
   | none=>match sW P t (r m) (r k) (r v) H with
    |some H'=>some (.undef,H')
    | none=>match xU P t (r m) (r k) (r v) H with
     |some H'=>some (.undef,H')
     |none=>none
 | .insert t m k v=>match mr P t (r m) (r k) (r v) H with
  |some H'=>some (.undef,H')
  |none=>none
 | .lookup t m k false=>match gM P t (r m) (r k) false H with
  |some v=>some (v,H)
  | none=>match sS P t (r m) (r k) H with
   |some y=>some y
   |none=>xT P t (r m) (r k) H
 | .mapEntry t m k=>match jT P t (r m) (r k) H with
  |some y=>some y
  |none=>kR P t (r m) (r k) H
 | .entryStore _ m s x=>match mu (r m) (r s) (r x) H with
  |some H'=>some (.undef,H')
  | none=>match nI (r m) (r s) (r x) H with
   |some H'=>some (.undef,H')
   |none=>none
 |.call c=>BK P r H c
 |_=>none
def di.of_le{E:ae}{w':a6}{H':List ah}(a:aG { w:=w',H:=H',ad:=E.ad,X:=E.X })(b:E.le { w:=w',H:=H',ad:=E.ad,X:=E.X })(u:ak) :
  di E .undef H' u w':=⟨E.ad,E.X.r,by simp[ab],a,b⟩
def iW.toOp{E:ae}(HE:aG E){v:AV}{u:ak}{w':a6}(h:iW E v u w'):di E v E.H u w' :=
 ⟨E.ad,E.X.r,h.2,HE.ext h.1,ae.iE h.1⟩
def UX{P:ai}{E:ae}(HE:aG E){r:bX->AV}{ρ:bX->ak}(b:∀ x,ab E (r x) (ρ x)){o:aQ}{v:AV}{H':List ah}
  (h:du P r E.H o.op=some (v,H')) :
  ∃ n u w',(execOp ρ o).run P E.w=.ok n w'/\(n=.value u\/n=.skip/\u=undef)/\di E v H' u w':=by
 obtain⟨dst,op,M,pos,after,guard⟩:=o;have same:∀{s:Sem ak},(∃ u w',s.run P E.w=.ok u w'/\di E v H' u w') ->
   ∃ n u w',(do pure (Next.value (<- s)):Sem Next).run P E.w=.ok n w'/\(n=.value u\/n=.skip/\u=undef)/\di E v H' u w':=by
  rintro s ⟨u,w',d,g⟩;exact⟨_,u,w',qX d,.inl rfl,g⟩
 cases op<;>simp only[du]at h<;>try cases h
 case alloc t=>exact same (TZ HE h)
 case box t x=>exact same (T7 HE h (b x))
 case store t a x =>
  split at h
  ·rename_i H1 q
   cases h;obtain⟨w',d,g,z⟩:=KN HE q (b a) (b x);exact⟨.skip,undef,w',by simp[execOp,d],.inr ⟨rfl,rfl⟩,di.of_le g z _⟩
  ·split at h
   ·rename_i H1 q
    cases h;obtain⟨w',d,g,z⟩:=UK HE q (b a) (b x);exact⟨.skip,undef,w',by simp[execOp,d],.inr ⟨rfl,rfl⟩,di.of_le g z _⟩
   ·split at h
    ·rename_i H1 q
     cases h;obtain⟨w',d,g⟩:=UL HE q (b a) (b x);exact⟨.skip,undef,w',by simp[execOp,d],.inr ⟨rfl,rfl⟩,g _⟩
    ·cases h
 case makeSlice t l c=>exact same (T_ HE h (b l) (b c))
 case buildSlice t n parts =>
  obtain⟨u,w',d,g⟩:=Uo HE (cparts:=parts.toList.map fun p=>(p.1,ρ p.2)) h (by simp) (by
   simp only[nh];have:=sZ b (parts.toList.map (·.2));simpa[nh,Tb]using this)
  have e:(parts.toList.map fun p=>(p.1,ρ p.2)).toArray=parts.map fun(i,x)=>(i,ρ x):=by
   apply g_; simp
  rw[e]at d;exact same ⟨u,w',d,g⟩
 case range t x=>exact same (Uc HE h (b x))
 case next it isString=>exact same (Ud HE h (b it))
 case makeMap t res =>
  cases res with
  |some _=>cases h
  | none =>
   cases h;exact same ⟨_,_,by simp[Instr.makeMap,newObj]; rfl,Uf HE⟩
 case mapUpdate t m k x =>
  split at h
  ·rename_i H1 q
   cases h;obtain⟨w',d,g,z⟩:=K7 HE q (b m) (b k) (b x);exact⟨.skip,undef,w',by simp[execOp,d],.inr ⟨rfl,rfl⟩,di.of_le g z _⟩
  ·split at h
   ·rename_i H1 q
    cases h;obtain⟨w',d,g⟩:=Uu HE q (b m) (b k) (b x);exact⟨.skip,undef,w',by simp[execOp,d],.inr ⟨rfl,rfl⟩,g _⟩
   ·split at h
    ·rename_i H1 q
     cases h;obtain⟨w',d,g,z⟩:=UF HE q (b m) (b k) (b x);exact⟨.skip,undef,w',by simp[execOp,d],.inr ⟨rfl,rfl⟩,di.of_le g z _⟩
    ·split at h
     ·rename_i H1 q
      cases h;obtain⟨w',d,g⟩:=UP HE q (b m) (b k) (b x);exact⟨.skip,undef,w',by simp[execOp,d],.inr ⟨rfl,rfl⟩,g _⟩
     ·cases h
 case lookup t m k ok =>
  cases ok with
  |true=>cases h
  | false =>
   simp only[]at h;split at h
   ·rename_i V U
    cases h;obtain⟨u,d,g⟩:=K3 HE U (b m) (b k);exact same ⟨u,_,d,iW.toOp HE ⟨Ext.refl _,g⟩⟩
   ·split at h
    ·rename_i y A
     cases h;exact same (Ut HE A (b m) (b k))
    ·exact same (UN HE h (b m) (b k))
 case mapEntry t m k =>
  split at h
  ·rename_i y A
   cases h;exact same (Uy HE A (b m) (b k))
  ·exact same (UG HE h (b m) (b k))
 case entryStore t m s x =>
  split at h
  ·rename_i H1 q
   cases h;obtain⟨w',d,g⟩:=UA (P:=P) (t:=t) HE q (b m) (b s) (b x);exact⟨.skip,undef,w',by simp[execOp,d],.inr ⟨rfl,rfl⟩,g _⟩
  ·split at h
   ·rename_i H1 q
    cases h;obtain⟨w',d,g⟩:=UI (P:=P) (t:=t) HE q (b m) (b s) (b x);exact⟨.skip,undef,w',by simp[execOp,d],.inr ⟨rfl,rfl⟩,g _⟩
   ·cases h
 case insert t m k x =>
  split at h
  ·rename_i H1 q
   cases h;obtain⟨w',d,g,z⟩:=K7 HE q (b m) (b k) (b x);exact⟨.skip,undef,w',by simp[execOp,d],.inr ⟨rfl,rfl⟩,di.of_le g z _⟩
  ·cases h
 case call c =>
  obtain⟨callee,args,argTypes⟩:=c;unfold BK at h;split at h
  ·rename_i B
   simp only[]at B;subst B;simp only[]at h;split at h
   case h_2=>cases h
   rename_i s x t xt I J;have F:args=#[s,x]:=by apply g_; simpa using I
   have N:argTypes=#[t,xt]:=by apply g_; simpa using J
   subst F;subst N;split at h
   ·rename_i y A
    cases h;obtain⟨u,w',d,g⟩:=Un (P:=P) (ty:=M) HE A (b s) (b x);refine⟨.value u,u,w',?_,.inl rfl,g⟩;simp[execOp,resolve,invoke,builtin,d]
   ·obtain ⟨u, w', d, g⟩ := TW (P := P) (ty := M) HE h (b s) (b x)
    refine⟨.value u,u,w',?_,.inl rfl,g⟩;simp[execOp,resolve,invoke,builtin,d]
  ·rename_i B
   simp only[]at B;subst B;simp only[]at h;split at h
   case h_2=>cases h
   rename_i x t I J;have F:args=#[x]:=by apply g_; simpa using I
   have N:argTypes=#[t]:=by apply g_; simpa using J
   subst F;subst N;split at h
   ·rename_i H1 A
    cases h;obtain⟨w',d,g,z⟩:=Ul (P:=P) (ty:=M) (fQ:=#[t]) (cs:=#[ρ x]) HE A rfl rfl (b x);refine⟨.value (.tuple #[]),.tuple #[],w',?_,.inl rfl,E.ad,E.X.r,by simp[ab,ar],g,z⟩;simp[execOp,resolve,invoke,builtin,d]
   ·cases h
  ·rename_i B
   simp only[]at B;subst B;simp only[]at h;split at h
   case h_2=>cases h
   rename_i x k t W I J;have F:args=#[x,k]:=by apply g_; simpa using I
   subst F;split at h
   ·rename_i H1 A
    cases h;have O:argTypes[0]? = some t:=by
     have:argTypes.toList[0]? = some t:=by rw[J]; rfl
     simpa using this
    obtain⟨w',d,g,z⟩:=Uj (P:=P) (ty:=M) (fQ:=argTypes) (cs:=#[ρ x,ρ k]) HE A O rfl rfl (b x) (b k);refine⟨.value (.tuple #[]),.tuple #[],w',?_,.inl rfl,E.ad,E.X.r,by simp[ab,ar],g,z⟩;simp[execOp,resolve,invoke,builtin,d]
   ·cases h
  ·cases h
def kq(P:ai)(f:bC)(args:List AV)(H:List ah)(Q:AV->List ah->Prop):Prop :=
 ∀(E:ae) (a:Array ak),E.H=H->aG E->ar E args a.toList ->
  Calls P f a E.w fun e w'=>∃ c v H',e=.returned c/\Q v H'/\di E v H' c w'
def nJ(P:ai)(f:bC)(args:List AV)(v:AV):Prop:=∀ H,kq P f args H fun a H'=>a=v/\H'=H
def kq.mono{P:ai}{f:bC}{args:List AV}{H:List ah}{Q a:AV->List ah->Prop}(h:kq P f args H Q)(d:∀ v H',Q v H'->a v H'):kq P f args H a :=
 fun E b g k t=>(h E b g k t).mono fun _ _ ⟨c,v,H',e,q,r⟩=>⟨c,v,H',e,d v H' q,r⟩
def fM(P:ai)(f:bC):Bool :=
 match P.funcs[f]? with
 |some fn => !(fn.name == "runtime.NumGoroutine")&&fn.body.isSome
 |none=>false
def Lu{P:ai}{f:bC}(h:fM P f=true)(args:Array ak)(w:a6):(callFunc f args).run P w=.ok (.enter f args) w:=by
 unfold fM at h;split at h
 ·rename_i fn a
  simp only[aE,Bool.not_eq_true']at h;have b:fn.name ≠ "runtime.NumGoroutine" := by simpa using h.1
  have d:fn.body≠none:=fun e=>by rw[e]at h; simp at h
  simp[callFunc,a,b,d]
 ·cases h
def BL(r:bX->AV)(c:Call):Option (bC × List AV) :=
 match c.callee with
 | .value g=>match r g with
  |.clo f caps=>some (f,c.args.toList.map r++caps)
  |_=>none
 |_=>none
def iX(r:bX->AV):Op->Option (bC × List AV)
 |.call c=>BL r c
 |_=>none
def Lv{P:ai}{E:ae}{r:bX->AV}{ρ:bX->ak}(d:∀ x,ab E (r x) (ρ x)){o:aQ}{f:bC}{args:List AV}
  (h:iX r o.op=some (f,args)) (k:fM P f=true):∃ b:Array ak,(execOp ρ o).run P E.w=.ok (.enter f b) E.w/\ar E args b.toList:=by
 obtain⟨dst,op,z,pos,after,guard⟩:=o;cases op<;>simp only[iX]at h<;>try cases h
 rename_i c;obtain⟨callee,as,argTypes⟩:=c;cases callee<;>simp only[BL]at h<;>try cases h
 rename_i g;split at h
 case h_2=>cases h
 rename_i A caps q;cases h;have a:=d g;rw[q]at a;simp only[ab]at a;obtain⟨t,v,y⟩:=a;refine⟨as.map ρ++t,?_,?_⟩
 ·simp[execOp,resolve,v,Deferred.ofValue,invoke,Lu k]
 ·simp only [E9, Array.toList_map]
  exact nD (sZ d as.toList) y
end Go.AL

namespace Go.AL
open Go
variable [Dr]
inductive UY where
 |pure|read|write
 deriving DecidableEq
def UZ(pf:bC->Bool)(c:Call):Bool :=
 match c.argTypes.toList with
 | [t]=>pf (t+1000000)
 |_=>false
def db(pf:bC->Bool):Op->UY
 |.load ..=>.read
 |.lookup t _ _ _=>if pf (t+1500000) then .write else .read
 |.buildSlice t n _=>if pf (t+100000*n+2000000) then .write else .pure
 |.alloc .. | .box .. | .store .. | .makeSlice .. | .mapUpdate .. | .insert .. | .makeMap .. | .mapEntry .. | .entryStore .. | .range .. | .next .. | .entry ..=>.write
 |.go .. | .defer .. | .panic .. | .send .. | .recv .. | .select .. | .makeChan .. | .ready .. | .waits ..=>.write
 | .call c=>match c.callee with
  | .builtin .len=>match UZ pf c with
   |true=>.read
   |false=>.pure
  |.builtin .max | .builtin .min | .builtin .cap=>.pure
  |.value (.func f)=>if pf f then .pure else .write
  |_=>.write
 |_=>.pure
def qY(P:ai)(r:bX->AV)(H:List ah)(c:Call):Option AV :=
 match c.callee,c.args.toList,c.argTypes.toList with
 | .builtin .len,[a],[t]=>match dJ P t,r a with
  | some _,.map id=>match H[id]? with
   |some (.map b _)=>some (.int b.length)
   |_=>none
  |_,_=>none
 |_,_,_=>none
def U0{P:ai}{E:ae}(HE:aG E){r:bX->AV}{ρ:bX->ak}(F:∀ x,ab E (r x) (ρ x)){o:aQ}{c:Call}{v:AV}(I:o.op=.call c)(h:qY P r E.H c=some v) :
  ∃ u,(execOp ρ o).run P E.w=.ok (.value u) E.w/\ab E v u:=by
 obtain⟨dst,op,W,pos,after,guard⟩:=o;subst I;obtain⟨callee,args,argTypes⟩:=c;unfold qY at h;split at h
 case h_2=>cases h
 rename_i a t g d k;simp only[]at g d k;subst g;have z:args=#[a]:=by apply g_; simpa using d
 have A:argTypes=#[t]:=by apply g_; simpa using k
 subst z;subst A;split at h
 case h_2=>cases h
 rename_i p id J B;split at h
 case h_2=>cases h
 rename_i X cl hH;cases h;have q:=F a;rw[B]at q;obtain⟨b,n,y,M,Y,N,O⟩:=xK HE hH q;obtain⟨kt,et⟩:=p;have U:=(fb.1 O).1;have V:(getObj b).run P E.w=.ok (.map y cl) E.w:=by simp[getObj,Sem.run,N]
 refine⟨goInt y.size,?_,by simp[ab,goInt,U]⟩;simp only[execOp,resolve,cg,e_,bY,invoke];simp[builtin,Ta,Sem.bH (gb J),M,V]
def fS(P:ai)(r:bX->AV)(H:List ah):Op->Option AV
 |.load t a=>kP P t (r a) H
 | .lookup t m k ok=>match gM P t (r m) (r k) ok H with
  |some v=>some v
  |none=>lL P t (r m) (r k) ok H
 |.call c=>qY P r H c
 |_=>none
def U1{P:ai}{E:ae}(HE:aG E){r:bX->AV}{ρ:bX->ak}(b:∀ x,ab E (r x) (ρ x)){o:aQ}{v:AV}(h:fS P r E.H o.op=some v) :
  ∃ u,(execOp ρ o).run P E.w=.ok (.value u) E.w/\ab E v u:=by
 obtain⟨dst,op,y,pos,after,guard⟩:=o;cases op<;>simp only[fS]at h<;>try cases h
 case load t a =>
  obtain⟨u,d,g⟩:=Kt HE h (b a);exact⟨u,qX d,g⟩
 case lookup t m k ok =>
  split at h
  ·rename_i z q
   cases h;obtain⟨u,d,g⟩:=K3 HE q (b m) (b k);exact⟨u,qX d,g⟩
  ·obtain ⟨u, d, g⟩ := UD HE h (b m) (b k)
   exact⟨u,qX d,g⟩
 case call c=>exact U0 HE b rfl h
def eK(P:ai)(f:bC)(args:List AV)(H:List ah)(v:AV)(H':List ah):Prop:=kq P f args H fun a H1=>a=v/\H1=H'
def cr(af:Array aQ)(fr:List AV)(o:aQ):Option Bool :=
 match o.guard with
 |none=>some true
 | some (j,a)=>match (af[j]?).bind (·.dst) with
  | some t=>match fr[t]? with
   |some (.lit (.bool b))=>some (b==a)
   |some (.tuple [])=>some false
   |_=>none
  |none=>none
def U2(H:List ah)(v a:AV)(H1:List ah):Prop :=
 ∃(id al:Nat) (ks:List Kd) (rZ:List (List G)),((v=.vQ ks.length id al 0 rZ.length/\a=.listF ks rZ)\/∃ b,v=.agg (.vQ ks.length id al 0 rZ.length::b)/\a=.agg (.listF ks rZ::b))/\H[id]? = some (.vQ ks.length al (rZ.map (a8 ks)))/\H1=H.set id .dead
def Gl{E:ae}(HE:aG E){id al:Nat}{ks:List Kd}{rZ:List (List G)} (v:E.H[id]? = some (.vQ ks.length al (rZ.map (a8 ks)))) {c:ak} (q:ab E (.vQ ks.length id al 0 rZ.length) c) :
  ab { w:=E.w,H:=E.H.set id .dead,ad:=E.ad.set id none,X:=E.X } (.listF ks rZ) c:=by
 have F:=ae.Bi HE id;have h:=HE.obj id _ v;rw[ki];simp only[ab]at q|-;obtain⟨⟨aN,cap,rfl,B,_⟩,_,t⟩:=q;obtain⟨U,J⟩:=t ⟨_,v,rfl⟩;have y:fg (rZ.map (a8 ks)):=by
  intro r q;obtain⟨g,_,rfl⟩:=List.mem_map.1 q;exact gI ks g
 refine⟨y,aN,cap,by simp,by simpa using B,?_⟩;simp only[aV]at h;rcases h with⟨d,z⟩|⟨b,mm,d,z,t,_,M⟩
 ·exact .inl z
 ·obtain ⟨V, o, N, A⟩ := J b mm d
  by_cases hm:rZ=[]
  ·subst hm; exact .inl rfl
  ·right
   have:0<rZ.length:=by cases rZ with|nil=>exact(hm rfl).elim|cons _ _=>simp
   simp at t;have h:=N (by omega);simp at h;subst h;simp only[lv]at A;refine⟨b,0,A.1,⟨(HE.lt id b mm d).1,?_,(HE.lt id b mm d).2⟩,kh F.toC _ y rfl M⟩;rintro(⟨j,O,a⟩|⟨l,k,O,a⟩)
   case inr=>exact HE.dm _ _ _ _ _ _ d a
   simp only[List.getElem?_set]at a;split at a
   ·split at a<;>cases a
   ·rename_i I
    exact I (HE.inj _ _ _ _ _ d a)
def vm(P:ai)(r:bX->AV)(H:List ah)(v:AV)(H':List ah):Op->Prop
 |.store t a x=>∃ b H1,U2 H (r x) b H1/\lK P t (r a) b H1=some H'/\v=.undef
 |_=>False
def U3{P:ai}{r b:bX->AV}{H:List ah}{v:AV}{H':List ah}(o:Op)(h:∀ x∈o.operands,r x=b x):vm P r H v H' o=vm P b H v H' o:=by
 cases o<;>try rfl
 rename_i t a x;simp only[vm];rw[h a (by simp[eV]),h x (by simp[eV])]
def U4{P:ai}{E:ae}(HE:aG E){r:bX->AV}{ρ:bX->ak}(B:∀ x,ab E (r x) (ρ x)){o:aQ}{v:AV}{H':List ah}(h:vm P r E.H v H' o.op) :
  ∃ w',(execOp ρ o).run P E.w=.ok .skip w'/\di E v H' undef w':=by
 obtain⟨dst,op,U,pos,after,guard⟩:=o;cases op<;>try exact h.elim
 rename_i t a x;obtain⟨I,H1,⟨id,al,ks,rZ,d,y,rfl⟩,J,rfl⟩:=h;have g:=B x;have q:=ae.Bi HE id;have F:ab { w:=E.w,H:=E.H.set id .dead,ad:=E.ad.set id none,X:=E.X } I (ρ x):=by
  rcases d with⟨d,rfl⟩|⟨M,d,rfl⟩
  ·rw [d] at g
   exact Gl HE y g
  ·rw [d, ab] at g
   obtain⟨l,e,k,b⟩:=g;rw[e,ab];refine⟨l,rfl,k,?_⟩;cases A:l.toList with
   |nil=>rw[A]at b; simp[ar]at b
   | cons u V =>
    rw[A]at b;simp only[ar]at b|-;exact⟨Gl HE y b.1,dX q M b.2⟩
 obtain⟨w',z,N,O⟩:=KN (E:={ w:=E.w,H:=E.H.set id .dead,ad:=E.ad.set id none,X:=E.X }) (aG.drop HE id fun o k=>by rw[y]at k; cases k; rfl) J (bG q _ (B a)) F;have z:(Instr.storeAt t (ρ a) (ρ x)).run P E.w=.ok () w':=z;exact⟨w',by simp[execOp,z],E.ad.set id none,E.X.r,by simp[ab],N,q.trans O⟩
def Yields(P:ai)(pf:bC->Bool)(af:Array aQ)(o:aQ)(s:St)(v:AV)(H':List ah):Prop :=
 match cr af s.fr o with
 |none=>False
 |some false=>v=.tuple []/\H'=s.H
 | some true=>match db pf o.op with
  |.pure=>H'=s.H/\(jh P s.eval o.op=some v\/∃ f args,iX s.eval o.op=some (f,args)/\fM P f=true/\nJ P f args v)
  |.read=>H'=s.H/\fS P s.eval s.H o.op=some v
  |.write=>(du P s.eval s.H o.op=some (v,H')\/∃ f args,iX s.eval o.op=some (f,args)/\fM P f=true/\eK P f args s.H v H')\/(((∃ t id m,o.op=.alloc t/\qV P t id m s.H=some (v,H'))\/∃ t id,o.op=.makeMap t none/\sQ id s.H=some (v,H'))\/vm P s.eval s.H v H' o.op)
def kS(fr:List AV)(dst:Option Tmp)(v:AV):List AV :=
 match dst with
 |some d=>fr.set d v
 |none=>fr
def St.put(s:St)(dst:Option Tmp)(v:AV)(H':List ah):St:=⟨kS s.fr dst v,H'⟩
def Gm{E:ae}:∀{as:List AV} {b:List ak} {a:AV} {v:ak} (d:Nat),ar E as b->ab E a v->ar E (as.set d a) (b.set d v)
 | [],[],_,_,_,_,_=>by simp[ar]
 | [],_::_,_,_,_,h,_=>by simp[ar]at h
 |_::_,[],_,_,_,h,_=>by simp[ar]at h
 |_::as,_::b,a,v,0,h,g=>by simp only[ar]at h; simp only[List.set_cons_zero,ar]; exact⟨g,h.2⟩
 |_::as,_::b,a,v,d+1,h,g=>by simp only[ar]at h; simp only[List.set_cons_succ,ar]; exact⟨h.1,Gm d h.2 g⟩
def Lw{E E':ae}{s:St}{a:Act}(h:ar E s.fr a.tmps.toList)(b:E.le E')(dst:Option Tmp){v:AV}{u:ak}(g:ab E' v u) :
  ar E' (kS s.fr dst v) (a.put dst u).tmps.toList:=by
 have h':=dX b _ h;cases dst with
 |none=>exact h'
 | some d =>
  simp only[kS,Act.put,Array.toList_setIfInBounds];exact Gm d h' g
def fz(r:Option Nat):Fence:={ Fence.wide with round:=r }
def Lx{r:Option Nat}{n:Nat}{P:ai}{f:bC}{args:Array ak}{w:a6}{R:Ending->a6->Prop}(h:Calls P f args w R):CallsIn (fz r) n P f args w R:=(callsIn_wide (n:=n)).2 h
def put_defers(a:Act)(dst:Option Tmp)(v:ak):(a.put dst v).defers=a.defers:=by cases dst<;>rfl
def Ly{af:Array aQ}{s:St}{E:ae}{a:Act}(h:c9 s E a){o:aQ}{b:Bool}(d:cr af s.fr o=some b) :
  Td o (yielded af a.tmps)=b:=by
 unfold cr at d;unfold Td;cases w:o.guard with
 |none=>rw[w]at d; simpa using d
 | some z =>
  obtain⟨j,F⟩:=z;rw[w]at d;simp only[]at d|-;split at d
  case h_2=>cases d
  rename_i t y;split at d
  ·rename_i A q
   cases d;obtain⟨u,v,g⟩:=pK h.fr q;simp only[ab]at g;subst g;have k:a.tmps[t]? = some (.bool A):=by simpa using v
   simp[yielded,y,k]
  ·rename_i q
   cases d;obtain⟨u,v,g⟩:=pK h.fr q;simp only[ab]at g;obtain⟨B,rfl,_⟩:=g;have k:a.tmps[t]? = some (.tuple B):=by simpa using v
   simp[yielded,y,k]
  ·cases d
def fT(E:ae)(s':St)(d:Act)(w':a6):Prop :=
 ∃ a b,c9 s' { w:=w',H:=s'.H,ad:=a,X:=E.X.re b } d/\E.le { w:=w',H:=s'.H,ad:=a,X:=E.X.re b }
def Gn{P:ai}{pf:bC->Bool}{af:Array aQ}{s:St}{E:ae}{a:Act}(d:c9 s E a){i:Nat}{o:aQ}(hi:af[i]? = some o){v:AV}{H':List ah}
  (b:Yields P pf af o s v H') {K:Act->a6->Prop} {Q:Exit->Act->a6->Prop} (hK:∀ Y w',fT E (s.put o.dst v H') Y w'->K Y w') (ro:Option Nat):wpOpIn (fz ro) 0 P af Q i K a E.w:=by
 have B:=d.eval;have hH:=d.H;have y:∀{u:ak} {w':a6},di E v H' u w'->K (a.put o.dst u) w':=by
  rintro u w' ⟨loc',r',z,I,A⟩;exact hK _ _ ⟨loc',r',⟨rfl,Lw d.fr A o.dst z,by rw[put_defers]; exact FB d.heap A d.defers,I⟩,A⟩
 have W:H'=s.H->∀{u:ak} {w':a6},iW E v u w'->di E v H' u w':=by
  intro e u w' J;have:=J.toOp d.heap;rw[hH,<-e]at this;exact this
 have V:(fz ro).depth.isSome=true->1<=0:=fun h=>by cases h
 unfold wpOpIn;simp only[hi];unfold Yields at b;split at b
 ·cases b
 ·rename_i U
  rw[Ly d U];simp only[Bool.false_eq_true,if_false];obtain⟨rfl,e⟩:=b;refine⟨fun _ _=>trivial,y ?_⟩;rw[e,<-hH];exact⟨E.ad,E.X.r,by simp only[ab]; exact⟨#[],rfl,by simp[ar]⟩,d.heap,ae.le.refl E⟩
 ·rename_i U
  rw[Ly d U];simp only[if_true];split at b
  ·obtain ⟨e, b⟩ := b
   rcases b with b|⟨f,args,z,I,A⟩
   ·have q : ∀ c, o.op ≠ .defer c := fun c e => by rw [e] at b; cases b
    obtain⟨u,w',g,k⟩:=UW d.heap B b;unfold uG;rw[sB _ _ _ q,g];exact⟨fun _ _=>trivial,y (W e k)⟩
   ·have q : ∀ c, o.op ≠ .defer c := fun c e => by rw [e] at z; cases z
    obtain⟨N,g,k⟩:=Lv B z I;unfold uG;rw[sB _ _ _ q,g];refine⟨fun _ _=>trivial,V,Lx ((A s.H E N hH d.heap k).mono ?_)⟩;rintro _ w' ⟨c,v',H1,rfl,⟨rfl,rfl⟩,J⟩;exact y (by rw[e]; exact J)
  ·obtain ⟨e, b⟩ := b
   rw[<-hH]at b;have q:∀ c,o.op≠.defer c:=fun c e=>by rw[e]at b; cases b
   obtain⟨u,g,k⟩:=U1 d.heap B b;unfold uG;rw[sB _ _ _ q,g];exact⟨fun _ _=>trivial,y (W e (iW.same k))⟩
  ·rcases b with (b | ⟨f, args, z, I, A⟩) | (⟨t, id, m, M, b⟩ | ⟨t, id, M, b⟩) | b
   ·have q : ∀ c, o.op ≠ .defer c := fun c e => by rw [e] at b; cases b
    rw[<-hH]at b;obtain⟨n,u,w',g,k,F⟩:=UX d.heap B b;unfold uG;rw[sB _ _ _ q,g];rcases k with rfl|⟨rfl,rfl⟩
    ·exact⟨fun _ _=>trivial,y F⟩
    ·exact⟨fun _ _=>trivial,y F⟩
   ·have q : ∀ c, o.op ≠ .defer c := fun c e => by rw [e] at z; cases z
    obtain⟨N,g,k⟩:=Lv B z I;unfold uG;rw[sB _ _ _ q,g];refine⟨fun _ _=>trivial,V,Lx ((A E N hH d.heap k).mono ?_)⟩;rintro _ w' ⟨c,v',H1,rfl,⟨rfl,rfl⟩,J⟩;exact y J
   ·rw [<- hH] at b
    obtain⟨u,w',g,k⟩:=T6 d.heap b;unfold uG;obtain⟨dst,op,O,pos,after,guard⟩:=o;simp only[]at M;subst M;have F:(execOp a.eval ⟨dst,.alloc t,O,pos,after,guard⟩).run P E.w=.ok (.value u) w':=qX g;rw[sB _ _ _ (fun c e=>by cases e),F];exact⟨fun _ _=>trivial,y k⟩
   ·rw [<- hH] at b
    obtain⟨u,w',g,k⟩:=Uh (P:=P) (t:=t) d.heap b;unfold uG;obtain⟨dst,op,O,pos,after,guard⟩:=o;simp only[]at M;subst M;have F:(execOp a.eval ⟨dst,.makeMap t none,O,pos,after,guard⟩).run P E.w=.ok (.value u) w':=qX g;rw[sB _ _ _ (fun c e=>by cases e),F];exact⟨fun _ _=>trivial,y k⟩
   ·have q : ∀ c, o.op ≠ .defer c := fun c e => by rw [e] at b; exact b
    rw[<-hH]at b;obtain⟨w',g,k⟩:=U4 d.heap B b;unfold uG;rw[sB _ _ _ q,g];exact⟨fun _ _=>trivial,y k⟩
def ji(P:ai)(pf:bC->Bool)(af:Array aQ):List aQ->St->St->Prop
 | [],s,s'=>s'=s
 |o::rest,s,s'=>∃ v H',Yields P pf af o s v H'/\ji P pf af rest (s.put o.dst v H') s'
def fT.after{E E':ae}{s':St}{a:Act}{w':a6}(h:E.le E')(h':fT E' s' a w'):fT E s' a w':=by
 obtain⟨b,d,g,k⟩:=h';refine⟨b,d,?_,?_⟩
 ·rw[<-XS.Kh h.X]; exact g
 ·rw[<-XS.Kh h.X]; exact h.trans k
def fT.refl{s:St}{E:ae}{a:Act}(h:c9 s E a):fT E s a E.w:=by
 obtain⟨w,H,ad,X⟩:=E;have:=h.H;simp only at this;subst this;exact⟨ad,X.r,h,ae.le.refl _⟩
def Lz{P:ai}{pf:bC->Bool}{af:Array aQ}{Q:Exit->Act->a6->Prop}:∀(l:List aQ) (k:Nat) (s s':St) (E:ae) (a:Act),
  l=af.toList.drop k->ji P pf af l s s'->c9 s E a->(∀ d w',fT E s' d w'->Q .normal d w')->∀ b:Option Nat,wpOpsIn (fz b) 0 P af Q (List.range' k l.length) a E.w
 | [],k,s,s',E,a,_,h,g,q,b=>by
  simp only[ji]at h;subst h;exact q _ _ (fT.refl g)
 | o::l,k,s,s',E,a,t,h,g,q,b=>by
  obtain⟨v,H',B,y⟩:=h;simp only[bW,List.range'_succ];rw[wpOpsIn_cons];have F:af[k]? = some o:=by
   have:(af.toList.drop k)[0]? = some o:=by rw[<-t]; rfl
   simpa using this
  refine Gn g F B (fun d w' I=>?_) b;obtain⟨z,J,M,N⟩:=I;refine Lz l (k+1) _ s' { w:=w',H:=H',ad:=z,X:=E.X.re J } d ?_ y M (fun O U A=>q O U ?_) b
  ·rw[<-pq,<-t]; rfl
  ·exact fT.after N A
def waits(af:Array aQ):Nat->Nat->Nat->Bool
 |0,_,_=>false
 | n+1,j,i=>match af[j]? with
  |some o=>o.after.toList.any fun e=>J3 .any e&&(e.on==i||waits af n e.on i)
  |none=>false
def fm:Op->Bool
 |.alloc _=>true
 |.makeMap _ none=>true
 |_=>false
def pR(pf:bC->Bool)(x y:aQ):Bool :=
 match db pf x.op,db pf y.op with
 |.pure,_|_,.pure | .read,.read=>true
 |.read,.write=>fm y.op
 |_,_=>false
def qZ(pf:bC->Bool)(af:Array aQ):Bool :=
  aj0 af &&
  (jc af.size).all fun j=>(match af[j]? with
    | some a=>(a.after.toList.all fun e => !J3 .any e||e.on<j) &&
      ((jc j).all fun i => match af[i]? with
        |some b=>waits af af.size j i||(b.apart af a&&a.apart af b&&pR pf b a)
        |none=>true)
    |none=>true)
def vn(P:ai)(pf:bC->Bool)(af:Array aQ)(i:Nat)(K:St->Prop)(s:St):Prop :=
 match af[i]? with
 |none=>K s
 |some o=>∃ v H',Yields P pf af o s v H'/\K (s.put o.dst v H')
def vo(P:ai)(pf:bC->Bool)(af:Array aQ)(s':St):Nat->Array Bool->St->Prop
 |0,a,s=>nt .any af a=[]/\s=s'
 |b+1,a,s=>(nt .any af a=[]->s=s')/\∀ i∈nt .any af a,vn P pf af i (vo P pf af s' b (a.setIfInBounds i true)) s
def BM{P:ai}{pf:bC->Bool}{af:Array aQ}{s':St}{Q:Exit->Act->a6->Prop}:∀(b:Nat) (z:Array Bool) (s:St) (E:ae) (a:Act),
  c9 s E a->vo P pf af s' b z s->(∀ t w',fT E s' t w'->Q .normal t w')->∀ d:Option Nat,wpAnyIn (fz d) 0 P .any af Q b z a E.w
 |0,_,s,E,a,g,h,k,_=>⟨h.1,k _ _ (h.2▸fT.refl g)⟩
 | b+1,z,s,E,a,g,h,k,d=>by
  refine⟨fun F=>k _ _ (h.1 F▸fT.refl g),fun i hi=>?_⟩;have q:=h.2 i hi;unfold vn at q;cases y:af[i]? with
  | none =>
   rw[y]at q;unfold wpOpIn;simp only[y];exact BM b _ s E a g q k d
  | some o =>
   rw[y]at q;obtain⟨v,H',I,J⟩:=q;refine Gn g y I (fun t w' M=>?_) d;obtain⟨A,N,O,U⟩:=M;exact BM b _ _ { w:=w',H:=H',ad:=A,X:=E.X.re N } t O J (fun V W B=>k V W (fT.after U B)) d
def U5{af:Array aQ}{o:aQ}{t:Tmp}(h:Operand.tmp t∈o.op.operands):t∈o.looksAt af :=
 List.mem_append_left _ (List.mem_filterMap.2 ⟨.tmp t,by simpa using h,rfl⟩)
def U6{fr:List AV}{d t:Nat}{v:AV}(h:d≠t):(fr.set d v).getD t .undef=fr.getD t .undef:=by
 simp[List.getD_eq_getElem?_getD,bc h]
def eval_put{af:Array aQ}{s:St}{o:aQ}{dst:Option Tmp}{v:AV}{H':List ah}(h:∀ d,dst=some d->d∉o.looksAt af){x:bX}(b:x∈o.op.operands) :
  (s.put dst v H').eval x=s.eval x:=by
 cases dst with
 |none=>cases x<;>rfl
 | some d =>
  cases x with
  | tmp t =>
   have a:d≠t:=fun e=>h d rfl (e▸U5 b);simp only[St.eval,St.put,kS];exact U6 a
  |_=>rfl
def BN{af:Array aQ}{fr:List AV}{o:aQ}{dst:Option Tmp}{v:AV}(h:∀ d,dst=some d->d∉o.looksAt af) :
  cr af (kS fr dst v) o=cr af fr o:=by
 cases dst with
 |none=>rfl
 | some d =>
  unfold cr;cases b:o.guard with
  |none=>rfl
  | some k =>
   obtain⟨g,w⟩:=k;simp only[];cases q:(af[g]?).bind (·.dst)with
   |none=>rfl
   | some t =>
    have a:d≠t:=fun e=>h d rfl (by subst e; simp[Oper.looksAt,b,q]);simp only[kS,bc a]
def U7(fr:List AV){x y:Option Tmp}(v u:AV)(h:∀ d,x=some d->y≠some d):kS (kS fr x v) y u=kS (kS fr y u) x v:=by
 cases x with
 |none=>rfl
 | some d =>
  cases y with
  |none=>rfl
  | some e =>
   have a:d≠e:=fun he=>h d rfl (he▸rfl);simp only[kS];rw[nr _ _ a]
def LA{P:ai}{r a:bX->AV}(o:Op)(h:∀ x∈o.operands,r x=a x):jh P r o=jh P a o:=by
 cases o<;>simp only[jh]<;>simp only[eV]at h
 case build t ps =>
  have:(ps.toList.map fun p=>(p.1,r p.2))=ps.toList.map fun p=>(p.1,a p.2):=uH fun p b=>by
   rw[h p.2 (by simp; exact⟨p.1,by simpa using b⟩)]
  rw[this]
 case buildSlice t n ps =>
  have:(ps.toList.map fun p=>(p.1,r p.2))=ps.toList.map fun p=>(p.1,a p.2):=uH fun p b=>by
   rw[h p.2 (by simp; exact⟨p.1,by simpa using b⟩)]
  rw[this]
 case makeFunc fn first captured =>
  unfold Gh;cases fn<;>try rfl
  have:(captured.toList.map r)=captured.toList.map a:=uH fun x d=>h x (by simp; right; simpa using d);simp only[this]
 case call c =>
  obtain⟨callee,args,argTypes⟩:=c;unfold Gi;cases callee<;>try rfl
  have:(args.toList.map r)=args.toList.map a:=uH fun x d=>h x (by simp[uI]; simpa using d);simp only[this]
 case slice t x lo hi mx=>cases lo<;>cases hi<;>cases mx<;>simp_all
 all_goals (first|rfl|(simp_all; done))
def LB{P:ai}{r b:bX->AV}{H:List ah}(o:Op)(h:∀ x∈o.operands,r x=b x):fS P r H o=fS P b H o:=by
 cases o<;>simp only[fS]<;>simp only[eV]at h
 case call c =>
  obtain⟨callee,args,argTypes⟩:=c;unfold qY;cases callee<;>try rfl
  split
  ·rename_i a t g d k
   have hm:a∈args:=by
    have:a∈args.toList:=by rw[show args.toList=[a] from d]; simp
    simpa using this
   have:r a=b a:=h a (by simp[uI]; simpa using hm);simp only[this,g,d,k]
  ·rfl
 all_goals (first|rfl|(simp_all; done))
def LC{P:ai}{r g:bX->AV}{H:List ah}(o:Op)(h:∀ x∈o.operands,r x=g x):du P r H o=du P g H o:=by
  cases o<;>simp only[du]<;>simp only[eV]at h
  case buildSlice t n ps =>
    have:(ps.toList.map fun p=>(p.1,r p.2))=ps.toList.map fun p=>(p.1,g p.2):=uH fun p v=>by
      rw[h p.2 (by simp; exact⟨p.1,by simpa using v⟩)]
    rw[this]
  case call c =>
    obtain⟨callee,args,argTypes⟩:=c;unfold BK;cases callee<;>try rfl
    rename_i b;have d:∀ x,x∈args.toList->r x=g x:=fun x w=>h x (by simp[uI]; simpa using w);cases b<;>try rfl
    all_goals simp only[]
    all_goals split
    all_goals first
      |rfl
      | (rename_i s x t xt a q
         rw[d s (by rw[a]; simp),d x (by rw[a]; simp)])
      | (rename_i x t a q
         rw[d x (by rw[a]; simp)])
      | (rename_i x k t y a q
         rw[d x (by rw[a]; simp),d k (by rw[a]; simp)])
  case makeMap t res=>cases res<;>rfl
  case lookup t m k ok =>
    cases ok with
    |true=>rfl
    |false=>simp only[h m (by simp),h k (by simp)]
  case mapEntry t m k=>simp only[h m (by simp),h k (by simp)]
  case entryStore t m s x=>simp only[h m (by simp),h s (by simp),h x (by simp)]
  all_goals (first|rfl|(simp_all; done))
def LD{r a:bX->AV}(o:Op)(h:∀ x∈o.operands,r x=a x):iX r o=iX a o:=by
 cases o<;>simp only[iX]<;>simp only[eV]at h
 rename_i c;obtain⟨callee,args,argTypes⟩:=c;unfold BL;cases callee<;>try rfl
 rename_i g;have b:r g=a g:=h g (by simp[uI]);have d:(args.toList.map r)=args.toList.map a:=uH fun x k=>h x (by simp[uI]; right; simpa using k);simp only[b,d]
end Go.AL

namespace Go.AL
open Go
variable [Dr]
variable {P:ai} {pf:bC->Bool} {af:Array aQ}
theorem gO{o:aQ}{s s1:St}{v:AV}{H':List ah}(b:cr af s1.fr o=cr af s.fr o)(a:∀ x∈o.op.operands,s1.eval x=s.eval x)(hH:s1.H=s.H) :
  Yields P pf af o s1 v H'↔Yields P pf af o s v H':=by
 unfold Yields;rw[b,hH,LA o.op a,LB o.op a,LC o.op a,LD o.op a,U3 o.op a]
theorem xV{o:aQ}{s:St}{v:AV}{H':List ah}(g:db pf o.op=.pure)(h:Yields P pf af o s v H'):H'=s.H/\∀ a,Yields P pf af o ⟨s.fr,a⟩ v a:=by
 have key:∀ a:List ah,∀ x∈o.op.operands,St.eval ⟨s.fr,a⟩ x=s.eval x:=fun a x _=>by cases x<;>rfl
 unfold Yields at h;cases d:cr af s.fr o with
 |none=>rw[d]at h; exact h.elim
 | some b =>
  rw[d]at h;cases b with
  | false =>
   refine⟨h.2,fun a=>?_⟩;unfold Yields;rw[show cr af (St.mk s.fr a).fr o=some false from d];exact⟨h.1,rfl⟩
  | true =>
   simp only[g]at h;refine⟨h.1,fun a=>?_⟩;unfold Yields;rw[show cr af (St.mk s.fr a).fr o=some true from d];simp only[g];refine⟨trivial,?_⟩;rw[LA o.op (key a),LD o.op (key a)];exact h.2
theorem s7{o:aQ}{s:St}{v:AV}{H':List ah}(a:db pf o.op=.read)(h:Yields P pf af o s v H'):H'=s.H:=by
 unfold Yields at h;simp only[a]at h;split at h
 ·cases h
 ·exact h.2
 ·exact h.1
theorem U8{r:bX->AV}{H:List ah}{x:ah}{v:AV}:∀{op:Op},fS P r H op=some v->fS P r (H++[x]) op=some v:=by
 have get:∀{i:Nat} {y:ah},H[i]? = some y->(H++[x])[i]? = some y:=by
  intro i y h;rw[dr (List.getElem?_eq_some_iff.1 h).1];exact h
 intro op h;cases op<;>simp only[fS]at h|-<;>try cases h
 case load t a =>
  unfold kP at h|-;split at h
  ·rename_i n agg B
   split at h
   ·exact h
   ·rename_i id al w row g q
    cases hi:H[id]? with
    |none=>rw[hi]at h; cases h
    |some y=>rw[hi]at h; rw[get hi]; exact h
   ·rename_i id l j w row g q
    cases hi:H[id]? with
    |none=>rw[hi]at h; cases h
    |some y=>rw[hi]at h; rw[get hi]; exact h
   ·cases h
  ·cases h
 case lookup t m k ok =>
  split at h
  ·rename_i F b
   cases h;have d:gM P t (r m) (r k) ok (H++[x])=some v:=by
    unfold gM at b|-;split at b
    ·rename_i I J id hm A
     cases hi:H[id]? with
     |none=>rw[hi]at b; cases b
     |some y=>rw[hi]at b; rw[get hi]; exact b
    ·cases b
   rw[d]
  ·obtain ⟨d, z⟩ := Li (H2 := H ++ [x]) (fun i l M N cl hi => get hi) h
   rw[z,d]
 case call c =>
  unfold qY at h|-;split at h
  ·split at h
   ·rename_i id _ _
    cases hi:H[id]? with
    |none=>rw[hi]at h; cases h
    |some y=>rw[hi]at h; rw[get hi]; exact h
   ·cases h
  ·cases h
theorem U9{r:bX->AV}{H:List ah}{id:Nat}{x y:ah}{v:AV}(d:H[id]? = some y)(g:(∃ k,y=.vQ k 0 [])\/y=.dP):∀{op:Op},fS P r H op=some v->fS P r (H.set id x) op=some v:=by
 have get:∀{i:Nat},i≠id->(H.set id x)[i]? = H[i]? := fun h=>bc (Ne.symm h);intro op h;cases op<;>simp only[fS]at h|-<;>try cases h
 case load t a =>
  unfold kP at h|-;split at h
  ·rename_i n agg I
   split at h
   ·exact h
   ·rename_i i al w row z A
    by_cases e:i=id
    ·subst e
     rw[d]at h;rcases g with⟨k,rfl⟩|rfl<;>simp at h
    ·rw [get e]
     exact h
   ·rename_i i l j w row z A
    by_cases e:i=id
    ·subst e
     rw[d]at h;rcases g with⟨k,rfl⟩|rfl<;>simp at h
    ·rw [get e]
     exact h
   ·cases h
  ·cases h
 case lookup t m k ok =>
  split at h
  ·rename_i J b
   cases h;have q:gM P t (r m) (r k) ok (H.set id x)=some v:=by
    unfold gM at b|-;split at b
    ·rename_i M N i hm F
     by_cases e:i=id
     ·subst e
      rw[d]at b;rcases g with⟨k,rfl⟩|rfl<;>simp at b
     ·rw [get e]
      exact b
    ·cases b
   rw[q]
  ·obtain ⟨q,B⟩:=Li (H2:=H.set id x) (fun i l O U cl hi=>by
    have e:i≠id:=fun e=>by
     rw[e,d]at hi;rcases g with⟨k,rfl⟩|rfl<;>cases hi
    rw[get e];exact hi) h
   rw[B,q]
 case call c =>
  unfold qY at h|-;split at h
  ·split at h
   ·rename_i i _ _
    by_cases e:i=id
    ·subst e
     rw[d]at h;rcases g with⟨k,rfl⟩|rfl<;>simp at h
    ·rw [get e]
     exact h
   ·cases h
  ·cases h
def pS(z:List ak) (m:List (Option (List Kd))) (id:Nat) (y:ah) (v:AV) (x:ah):Prop :=
 (y=.vQ z.length 0 []/\v=.ptr id 1 z.length 0 0/\x=.vQ z.length 1 [jD m z])\/(y=.dP/\v=.ptr id 0 0 0 0/\x=.box (z.map .lit))
def xW(y:ah):Prop:=(∃ k,y=.vQ k 0 [])\/y=.dP
theorem pS.hole{z:List ak}{m:List (Option (List Kd))}{id:Nat}{y x:ah}{v:AV}(h:pS z m id y v x):xW y:=by
 rcases h with⟨rfl,_,_⟩|⟨rfl,_,_⟩
 ·exact .inl ⟨_,rfl⟩
 ·exact .inr rfl
theorem pS.full{z:List ak}{m:List (Option (List Kd))}{id:Nat}{y x a:ah}{v:AV}(h:pS z m id y v x)(h':xW a):x≠a:=by
 rcases h with⟨_,_,rfl⟩|⟨_,_,rfl⟩<;>rcases h' with⟨k,rfl⟩|rfl<;>intro e<;>cases e
theorem LF{P:ai}{t:aD}{id:Nat}{m:List (Option (List Kd))}{H H':List ah}{v:AV}(h:qV P t id m H=some (v,H')) :
  ∃ z y x,fl P t=some z/\H[id]? = some y/\pS z m id y v x/\H'=H.set id x:=by
 unfold qV at h;split at h
 ·rename_i z k b a
  split at h
  ·rename_i d
   subst d;cases h;exact⟨z,_,_,b,a,.inl ⟨rfl,rfl,rfl⟩,rfl⟩
  ·cases h
 ·rename_i z b a
  cases h;exact⟨z,_,_,b,a,.inr ⟨rfl,rfl,rfl⟩,rfl⟩
 ·cases h
theorem Gp{P:ai}{t:aD}{id:Nat}{H:List ah}{z:List ak}{y x:ah}{v:AV}{m:List (Option (List Kd))}(b:fl P t=some z)(a:H[id]? = some y)(d:pS z m id y v x) :
  qV P t id m H=some (v,H.set id x):=by
 unfold qV;rw[b,a];rcases d with⟨rfl,rfl,rfl⟩|⟨rfl,rfl,rfl⟩
 ·exact iP rfl
 ·rfl
theorem LH{h g:aQ}{s:St}{v u:AV}{N d:List ah}(B:h.apart af g=true)(_h2:g.apart af h=true)(w:pR pf h g=true)
  (hi:Yields P pf af h s v N) (O:Yields P pf af g (s.put h.dst v N) u d) :
  ∃ Hj1,Yields P pf af g s u Hj1/\Yields P pf af h (s.put g.dst u Hj1) v d:=by
 obtain⟨a1,a2,a3⟩:=J4 B;have V:cr af (s.put h.dst v N).fr g=cr af s.fr g:=BN a1;have W:∀ F,cr af (s.put g.dst u F).fr h=cr af s.fr h:=fun F=>BN a3;have X:∀ x∈g.op.operands,(s.put h.dst v N).eval x=s.eval x:=fun x A=>eval_put a1 A;have Y:∀ F,∀ x∈h.op.operands,(s.put g.dst u F).eval x=s.eval x:=fun F x A=>eval_put a3 A;unfold pR at w;split at w
 ·-- h only computes
  rename_i J;obtain⟨I,g1⟩:=xV J hi;subst I;refine⟨d,(gO V X rfl).1 O,?_⟩;exact(gO (s1:=s.put g.dst u d) (s:=⟨s.fr,d⟩) (W d) (fun x A=>by rw[Y d x A]; cases x<;>rfl) rfl).2 (g1 d)
 ·-- g only computes
  rename_i M _;obtain⟨I,g1⟩:=xV M O;have e1':d=N:=I;subst e1';refine⟨s.H,?_,?_⟩
  ·have := g1 s.H
   exact(gO (s1:=⟨(s.put h.dst v d).fr,s.H⟩) (s:=s) V (fun x A=>by
    have:=X x A;cases x<;>exact this) rfl).1 this
  ·exact(gO (s1:=s.put g.dst u s.H) (s:=s) (W s.H) (Y s.H) rfl).2 hi
 ·rename_i J M
  have I:=s7 J hi;subst I;have e2:=s7 M O;have e2':d=s.H:=e2;subst e2';exact⟨s.H,(gO V X rfl).1 O,(gO (s1:=s.put g.dst u s.H) (s:=s) (W s.H) (Y s.H) rfl).2 hi⟩
 ·rename_i J M
  have I:=s7 J hi;subst I;have a:=(gO V X rfl).1 O;refine⟨d,a,?_⟩;have hpush:d=s.H\/(∃ x,d=s.H++[x])\/∃ id y x,s.H[id]? = some y/\((∃ k,y=.vQ k 0 [])\/y=.dP)/\d=s.H.set id x:=by
   unfold Yields at a;simp only[M]at a;split at a
   ·exact a.elim
   ·exact .inl a.2
   ·rcases a with (a | ⟨f, args, B, _⟩) | (⟨t, id, m, q, hv⟩ | ⟨t, id, q, hv⟩) | U
    ·unfold fm at w
     split at w
     ·rename_i t q
      rw[q]at a;simp only[du,sO]at a;split at a
      ·split at a
       ·cases a; exact .inr (.inl ⟨_,rfl⟩)
       ·cases a
      ·split at a
       ·cases a; exact .inr (.inl ⟨_,rfl⟩)
       ·cases a
     ·rename_i t q
      rw[q]at a;simp only[du]at a;cases a;exact .inr (.inl ⟨_,rfl⟩)
     ·cases w
    ·unfold fm at w
     split at w
     ·rename_i t q
      rw[q]at B;cases B
     ·rename_i t q
      rw[q]at B;cases B
     ·cases w
    ·obtain ⟨z, y, x, _, h2, hn, h3⟩ := LF hv
     exact .inr (.inr ⟨id,y,x,h2,hn.hole,h3⟩)
    ·obtain ⟨B, _, h3⟩ := F7 hv
     exact .inr (.inr ⟨id,_,_,B,.inr rfl,h3⟩)
    ·unfold fm at w
     split at w
     ·rename_i t q
      rw[q]at U;exact U.elim
     ·rename_i t q
      rw[q]at U;exact U.elim
     ·cases w
  refine(gO (s1:=s.put g.dst u d) (s:=⟨s.fr,d⟩) (W d) (fun x A=>by rw[Y d x A]; cases x<;>rfl) rfl).2 ?_;have key:∀ F:List ah,St.eval ⟨s.fr,F⟩=s.eval:=fun F=>by funext x; cases x<;>rfl
  unfold Yields at hi|-;simp only[J]at hi|-;cases hw:cr af s.fr h with
  |none=>rw[hw]at hi; exact hi.elim
  | some b =>
   rw[hw]at hi;cases b with
   |false=>exact⟨hi.1,by simp⟩
   | true =>
    refine⟨by simp,?_⟩;rw[key];rcases hpush with rfl|⟨x,rfl⟩|⟨id,y,x,hid,hy,rfl⟩
    ·exact hi.2
    ·exact U8 hi.2
    ·exact U9 hid hy hi.2
 ·cases w
def Gq(af:Array aQ)(a:Array Bool)(j:Nat):Prop :=
 ∀ o,af[j]? = some o->∀ e∈o.after,J3 .any e=true->a.getD e.on false=true
def s9(af:Array aQ)(a:Array Bool):Prop:=∀ j,a.getD j false=true->Gq af a j
theorem Gr{a:Array Bool}(d:s9 af a):∀(n j i:Nat),Gq af a j->waits af n j i=true->a.getD i false=true
 |0,_,_,_,h=>by simp[waits]at h
 | n+1,j,i,k,h=>by
  unfold waits at h;split at h
  ·rename_i o q
   rw[mh]at h;obtain⟨e,he,b⟩:=h;simp only[aE,nu,beq_iff_eq]at b;have g:=k o q e (by simpa using he) b.1;rcases b.2 with rfl|t
   ·exact g
   ·exact Gr d n e.on i (d _ g) t
  ·cases h
theorem Gs{a:Array Bool}{j:Nat}(h:j∈nt .any af a):Gq af a j:=by
 obtain⟨_,o,g,d⟩:=mem_ready.1 h;intro o' b;rw[g]at b;cases b;exact d
theorem BO{a:Array Bool}(q:s9 af a){j:Nat}(t:j∈nt .any af a):s9 af (a.setIfInBounds j true):=by
 intro k v o d e he g;by_cases b:j=k
 ·subst b
  exact getD_set_true (Gs t o d e he g)
 ·have:a.getD k false=true:=by
   have h:=v;simp[Array.getElem?_setIfInBounds_ne b]at h;simpa using h
  exact getD_set_true (q k this o d e he g)
theorem LI(s:St)(x y:Option Tmp)(v u:AV)(H1 a b:List ah)(h:∀ d,x=some d->y≠some d):(s.put x v H1).put y u a=(s.put y u b).put x v a:=by
 simp only[St.put,U7 s.fr v u h]
theorem LJ{a:Array Bool}{i:Nat}(h:i∈nt .any af a):a.getD i false=false:=by
 obtain⟨b,_⟩:=mem_ready.1 h;rcases kJ i a.size with h'|h'
 ·simp[h']at b|-; exact b
 ·simp[E_ h']at b
theorem U_{s':St}{i:Nat}{g:aQ}(hi:af[i]? = some g):∀(w:Nat) (a:Array Bool) (s:St) (v:AV) (H':List ah),s9 af a ->
  (∀ j d,af[j]? = some d->j≠i->a.getD j true=false->waits af af.size j i=false->g.apart af d=true/\d.apart af g=true/\pR pf g d=true) ->
  i∈nt .any af a->Yields P pf af g s v H'->vo P pf af s' w (a.setIfInBounds i true) (s.put g.dst v H')->vo P pf af s' (w+1) a s:=by
 intro w
 induction w with
 | zero =>
  intro a s v H' _ _ q y H;refine⟨fun h=>(by rw[h]at q; cases q),fun j t=>?_⟩;by_cases b:j=i
  ·subst b
   unfold vn;simp only[hi];exact⟨v,H',y,H⟩
  ·have := ready_mono t b
   rw[H.1]at this;cases this
 | succ w ih =>
  intro a s v H' I B q y H;refine⟨fun h=>(by rw[h]at q; cases q),fun j t=>?_⟩;by_cases b:j=i
  ·subst b
   unfold vn;simp only[hi];exact⟨v,H',y,H⟩
  ·have A := H.2 j (ready_mono t b)
   obtain⟨F,d,J,hall⟩:=mem_ready.1 t;unfold vn at A|-;simp only[J]at A|-;obtain⟨u,O,W,V⟩:=A;have X:waits af af.size j i=false:=by
    cases hw:waits af af.size j i with
    |false=>rfl
    | true =>
     have:=Gr I _ _ _ (Gs t) hw;rw[LJ q]at this;cases this
   obtain⟨U,a2,a3⟩:=B j d J b F X;obtain⟨z,q1,q2⟩:=LH U a2 a3 y W;refine⟨u,z,q1,?_⟩;refine ih (a.setIfInBounds j true) (s.put d.dst u z) v O (BO I t) ?_ (ready_mono q (Ne.symm b)) q2 ?_
   ·intro k ok hk Y M hno
    refine B k ok hk Y ?_ hno;by_cases N:j=k
    ·subst N; exact F
    ·rw[getD_set_ne true N]at M; exact M
   ·rw [aj1 _ _ b]
    have:=LI s g.dst d.dst v u H' O z (J4 U).2.1;rw[<-this];exact V
theorem LK{s':St}(I:qZ pf af=true):∀(l:List aQ) (k:Nat) (a:Array Bool) (s:St),l=af.toList.drop k->s9 af a->a.size=af.size ->
  (∀ j,j<af.size->(a.getD j true=false↔k<=j))->ji P pf af l s s'->vo P pf af s' l.length a s
 | [],k,a,s,y,_,B,g,h=>by
  simp only[ji]at h;refine⟨?_,h.symm⟩;apply aj2.2;intro j q;obtain⟨d,o,W,_⟩:=mem_ready.1 q;have w:j<af.size:=(je.1 W).1;have:=(g j w).1 d;have O:(af.toList.drop k).length=0:=by rw[<-y]; rfl
  simp at O;omega
 | o::l,k,a,s,y,F,B,g,h=>by
  obtain⟨v,H',X,N⟩:=h;have d:af[k]? = some o:=by
   have:(af.toList.drop k)[0]? = some o:=by rw[<-y]; rfl
   simpa using this
  have w:k<af.size:=(je.1 d).1;simp only[qZ,aE,cq,ke]at I;obtain⟨_,z⟩:=I;have M:∀ j,j<k->a.getD j false=true:=by
   intro j q;have J:¬ (a.getD j true=false):=fun e=>by have:=(g j (by omega)).1 e; omega
   have:j<a.size:=by omega
   simp[this]at J|-;exact J
  have A:k∈nt .any af a:=by
   refine mem_ready.2 ⟨(g k w).2 (aY _),o,d,fun e he Y=>?_⟩;have:=z k w;rw[d]at this;simp only[aE,cq]at this;have b:=this.1 e (by simpa using he);simp only[Y,AS,iz,dT]at b;exact M e.on b
  refine U_ d l.length a s v H' F ?_ A X ?_
  ·intro j oj q hjk U V
   have t:j<af.size:=(je.1 q).1;have hkj:k<=j:=(g j t).1 U;have:=z j t;rw[q]at this;simp only[aE,cq,ke]at this;have b:=this.2 k (by omega);rw[d]at b;simp only[V,iz,aE]at b;exact⟨b.1.1,b.1.2,b.2⟩
  ·refine LK (by simp only [qZ, aE, cq, ke]; exact ⟨‹_›, z⟩) l (k + 1) _ _ ?_ (BO F A) (by simpa using B) ?_ N
   ·rw[<-pq,<-y]; rfl
   ·intro j t
    by_cases e:k=j
    ·subst e
     have:k<a.size:=by omega
     simp[this]
    ·rw [getD_set_ne true e, g j t]
     omega
theorem LM{id:Nat}{s s':St}{E:ae}{a:Act}{Q:Exit->Act->a6->Prop}(hm:P.follows .mixedOrders=true)(t:qZ pf af=true)(b:c9 s E a)
  (h:ji P pf af af.toList s s') (v:∀ d w',fT E s' d w'->Q .normal d w'):∀ k:Option Nat,(Code.region id af true).wpIn (fz k) 0 P Q a E.w:=by
 intro k;have q:c9 s { E with w:={ E.w with drawn:=E.w.drawn+1 } } a:=⟨b.H,dX (ae.iE (Ext.drawn E.w _)) _ b.fr,FB b.heap (ae.iE (Ext.drawn E.w _)) b.defers,b.heap.ext (Ext.drawn E.w _)⟩
 refine wpIn_region_any hm (BM (pf:=pf) _ _ s { E with w:={ E.w with drawn:=E.w.drawn+1 } } a q ?_ (fun d w' y=>v d w' (fT.after (ae.iE (Ext.drawn E.w _)) y)) k);have:=LK (P:=P) (s':=s') t af.toList 0 (pz af.size false) s (by simp) (by
  intro j g;exfalso;rcases kJ j af.size with h'|h'
  ·simp[h']at g
  ·simp[E_ (xs:=pz af.size false) (by simpa using h')]at g) (by simp) (by intro j g; simp[g]) h
 simpa using this
theorem LN{id:Nat}{s s':St}{E:ae}{a:Act}{Q:Exit->Act->a6->Prop}(g:c9 s E a)
  (h:ji P pf af af.toList s s') (k:∀ d w',fT E s' d w'->Q .normal d w'):∀ b:Option Nat,(Code.region id af false).wpIn (fz b) 0 P Q a E.w:=by
 intro b;refine wpIn_region ?_;have:=Lz (Q:=Q) af.toList 0 s s' E a (by simp) h g k b;rw[List.range_eq_range'];simpa using this
end Go.AL

namespace Go.AL
open Go
variable [Dr]
inductive cJ where
 |normal
 |exit (id:Nat)
 |ret
 deriving DecidableEq
def cJ.toExit:cJ->Exit
 |.normal=>.normal
 |.exit id=>.exit id
 |.ret=>.ret
structure ae.eZ (m:Nat) (E E':ae):Prop where
 bu:∀ id,id<m->E.bu id 0->E'.bu id 0
 size:E.w.heap.size<=E'.w.heap.size
 same:∀ b,b<E.w.heap.size->¬ E.bN b->E'.w.heap[b]? = E.w.heap[b]?
 bN:∀ b,b<E.w.heap.size->¬ E.bN b->¬ E'.bN b
 live:∀ id,id<m->E.bu id 0->E'.live id 0->E.live id 0/\E'.ad[id]? = E.ad[id]?
 X:∀ b,b<E.w.heap.size->(E'.X b↔E.X b)/\(E'.X.z b↔E.X.z b)
 rl:∀ l h,h<(E.X.r l).length->h<(E'.X.r l).length/\∀ q,(E'.X.r l)[h]? = some (some q)->(E.X.r l)[h]? = some (some q)
 env:eO E.w E'.w
 grow:∀ id,id<m->∀ l o,E.H[id]? = some o->o.dM=some l->E'.live id 0->(∃ t,E'.X.r l=E.X.r l++t)/\∃ o',E'.H[id]? = some o'/\o'.dM=some l
def ae.le.toM{m:Nat}{E E':ae}(h:E.le E'):E.eZ m E':=⟨fun id _ a=>h.bu id 0 a,h.size,h.same,h.bN,fun id _ a d=>h.live id 0 a d,fun b _=>by rw[show E'.X.x=E.X.x from h.X.1,show E'.X.z=E.X.z from h.X.2]; exact⟨Iff.rfl,Iff.rfl⟩,h.rl,h.env,fun id _ l o g k q=>h.grow id l o g k q⟩
def BP(H:List ah):Prop:=∀ o∈H,o.aU = some 0
def ae.eZ.full{m:Nat}{E E':ae}(h:E.eZ m E')(k:E'.X.x=E.X.x/\E'.X.z=E.X.z)(hm:E.H.length<=m)(q:BP E.H):E.le E':=by
 have key:∀ id al,E.bu id al->id<m/\al=0:=by
  rintro id al ⟨o,d,t⟩;have a:=aX d;have g:=t.2 0 (q o (List.mem_of_getElem? d));exact⟨by omega,by omega⟩
 refine⟨fun id al b=>?_,h.size,h.same,h.bN,fun id al b v=>?_,k,h.rl,h.env,fun id l o a g w=>h.grow id (eF (aX a) hm) l o a g w⟩
 ·obtain ⟨a, rfl⟩ := key id al b
  exact h.bu id a b
 ·obtain ⟨a, rfl⟩ := key id al b
  exact h.live id a b v
def ae.eZ.trans{m:Nat}{E E' I:ae}(h:E.eZ m E')(h':E'.eZ m I):E.eZ m I where
 bu:=fun id hi w=>h'.bu id hi (h.bu id hi w)
 size:=Nat.le_trans h.size h'.size
 same:=fun b a k=>by rw[h'.same b (eF a h.size) (h.bN b a k),h.same b a k]
 bN:=fun b a k=>h'.bN b (eF a h.size) (h.bN b a k)
 live:=fun id hi J U=>by
  obtain⟨y,z⟩:=h'.live id hi (h.bu id hi J) U;obtain⟨A,B⟩:=h.live id hi J y;exact⟨A,by rw[z,B]⟩
 X:=fun b a=>by
  have d:=h'.X b (eF a h.size);have g:=h.X b a;exact⟨d.1.trans g.1,d.2.trans g.2⟩
 rl:=fun l i hi=>by
  obtain⟨y,z⟩:=h.rl l i hi;obtain⟨A,B⟩:=h'.rl l i y;exact⟨A,fun q V=>z q (B q V)⟩
 env:=h.env.trans h'.env
 grow:=fun id hi l o d g F=>by
  have w:E.bu id 0:=⟨o,d,ah.Fp g,fun v F=>Nat.zero_le _⟩
  obtain⟨M,_⟩:=h'.live id hi (h.bu id hi w) F;obtain⟨⟨t,W⟩,o',Y,g2⟩:=h.grow id hi l o d g M;obtain⟨⟨t',N⟩,O,g3,g4⟩:=h'.grow id hi l o' Y g2 F;exact⟨⟨t++t',by rw[N,W,List.append_assoc]⟩,O,g3,g4⟩
def fU(m:Nat)(E:ae)(s':St)(d:Act)(w':a6):Prop :=
 ∃ a b,c9 s' { w:=w',H:=s'.H,ad:=a,X:=b } d/\E.eZ m { w:=w',H:=s'.H,ad:=a,X:=b }
def fT.toM{m:Nat}{E:ae}{s':St}{a:Act}{w:a6}(h:fT E s' a w):fU m E s' a w:=let ⟨ad,r,b,d⟩:=h; ⟨ad,E.X.re r,b,d.toM⟩
def fU.after{m:Nat}{E E':ae}{s':St}{a:Act}{w':a6}(h:E.eZ m E')(h':fU m E' s' a w'):fU m E s' a w':=by
 obtain⟨b,d,g,k⟩:=h';exact⟨b,d,g,h.trans k⟩
def fU.refl{m:Nat}{s:St}{E:ae}{a:Act}(h:c9 s E a):fU m E s a E.w:=(fT.refl h).toM
def gB:Code->Bool
 |.seq a b=>gB a&&gB b
 |.cond _ a b=>gB a&&gB b
 |.block _ c=>gB c
 |.loop c=>gB c
 |.scope c=>gB c
 |.rangeFunc ..=>false
 |_=>true
def jF(a:Option Nat)(c:Code):Prop:=a=none\/gB c=true
def jF.seq1{d:Option Nat}{a b:Code}(h:jF d (.seq a b)):jF d a:=h.imp id fun h=>by
 have h:(gB a&&gB b)=true:=h;exact(aE _ _▸h).1
def jF.U'{d:Option Nat}{a b:Code}(h:jF d (.seq a b)):jF d b:=h.imp id fun h=>by
 have h:(gB a&&gB b)=true:=h;exact(aE _ _▸h).2
def jF.cond{d:Option Nat}{o:bX}{a b:Code}(t:Bool)(h:jF d (.cond o a b)):jF d (if t then a else b):=h.imp id fun h=>by
 have h:(gB a&&gB b)=true:=h;cases t
 ·exact(aE _ _▸h).2
 ·exact(aE _ _▸h).1
def jF.block{b:Option Nat}{i:Nat}{a:Code}(h:jF b (.block i a)):jF b a:=h
def jF.loop{b:Option Nat}{a:Code}(h:jF b (.loop a)):jF b a:=h
def LO(c:Code):jF none c:=.inl rfl
def dC(P:ai)(m:Nat)(c:Code)(s:St)(x:cJ)(s':St):Prop :=
 ∀(b:Option Nat),jF b c->∀(E:ae) (a:Act),c9 s E a->c.wpIn (fz b) 0 P (fun e d g=>e=x.toExit/\fU m E s' d g) a E.w
def bD(m:Nat)(s s':St):Prop:=∀(E:ae) (a:Act),c9 s E a->fU m E s' a E.w
def bD.refl{m:Nat}(s:St):bD m s s:=fun _ _ h=>fU.refl h
def bD.trans{m:Nat}{s s1 s2:St}(h:bD m s s1)(h':bD m s1 s2):bD m s s2:=fun E a b=>by
 obtain⟨ad,X,d,g⟩:=h E a b;exact fU.after g (h' _ a d)
def fU.weaken{m:Nat}{E:ae}{s s':St}{a:Act}{w:a6}(h:fU m E s a w)(b:bD m s s'):fU m E s' a w:=by
 obtain⟨ad,X,d,g⟩:=h;exact fU.after g (b _ a d)
section rules
variable {P:ai} {m:Nat} {s s' s1:St} {x:cJ}
theorem s_{c:Code}(b:bD m s s1)(h:dC P m c s1 x s'):dC P m c s x s':=fun d g E a k=>by
 obtain⟨ad,X,q,t⟩:=b E a k;exact wpIn_mono (h d g { w:=E.w,H:=s1.H,ad:=ad,X:=X } a q) fun e z A ⟨v,y⟩=>⟨v,fU.after t y⟩
theorem xX{c:Code}(h:dC P m c s x s1)(b:bD m s1 s'):dC P m c s x s':=fun d g E a k =>
 wpIn_mono (h d g E a k) fun _ _ _ ⟨q,t⟩=>⟨q,t.weaken b⟩
theorem Va:dC P m .skip s .normal s:=fun _ _ _ _ a=>wpIn_skip ⟨rfl,fU.refl a⟩
theorem Vb:dC P m .ret s .ret s:=fun _ _ _ _ a=>wpIn_ret ⟨rfl,fU.refl a⟩
theorem Vc{id:Nat}:dC P m (.exit id) s (.exit id) s:=fun _ _ _ _ a=>wpIn_exit ⟨rfl,fU.refl a⟩
theorem Vd{pf:bC->Bool}{id:Nat}{af:Array aQ}{b:Bool}(hm:P.follows .mixedOrders=true)(q:b=true->qZ pf af=true)(h:ji P pf af af.toList s s') :
  dC P m (.region id af b) s .normal s':=fun g v E a k=>by
 cases b with
 |false=>exact LN k h (fun t w' d=>⟨rfl,d.toM⟩) g
 |true=>exact LM hm (q rfl) k h (fun t w' d=>⟨rfl,d.toM⟩) g
theorem BQ{c d:Code}(h:dC P m c s .normal s1)(h':dC P m d s1 x s'):dC P m (.seq c d) s x s':=fun b g E a k =>
 wpIn_seq (wpIn_mono (h b g.seq1 E a k) fun e q B ⟨t,v⟩=>by
  subst t;obtain⟨ad,X,w,y⟩:=v;exact wpIn_mono (h' b g.U' _ q w) fun _ _ _ ⟨z,A⟩=>⟨z,fU.after y A⟩)
theorem LP{c d:Code}(h:dC P m c s x s')(g:x≠.normal):dC P m (.seq c d) s x s':=fun k q E a t =>
 wpIn_seq (wpIn_mono (h k q.seq1 E a t) fun e w y ⟨v,b⟩=>by
  subst v;cases x with
  |normal=>exact(g rfl).elim
  |exit id=>exact⟨rfl,b⟩
  |ret=>exact⟨rfl,b⟩)
theorem LQ{o:bX}{c d:Code}{b:Bool}(k:s.eval o=.lit (.bool b))(h:dC P m (if b then c else d) s x s'):dC P m (.cond o c d) s x s':=fun q t E a g=>by
 have:=g.eval o;rw[k]at this;simp only[ab]at this;exact wpIn_cond this (h q (t.cond b) E a g)
def cJ.inBlock(id:Nat):cJ->cJ
 |.exit i=>if i=id then .normal else .exit i
 |x=>x
theorem LR{id:Nat}{c:Code}(h:dC P m c s x s'):dC P m (.block id c) s (x.inBlock id) s':=fun d g E a k =>
 wpIn_block (wpIn_mono (h d g E a k) fun e t v ⟨q,b⟩=>by
  subst q;cases x with
  |normal=>exact⟨rfl,b⟩
  | exit i =>
   simp only[cJ.toExit,Exit.inBlock,cJ.inBlock];split
   ·exact⟨rfl,b⟩
   ·exact⟨rfl,b⟩
  |ret=>exact⟨rfl,b⟩)
def vp(P:ai)(m:Nat)(c:Code):Nat->St->cJ->St->Prop
 |0,s,x,s'=>x≠.normal/\dC P m c s x s'
 |n+1,s,x,s'=>∃ s1,dC P m c s .normal s1/\vp P m c n s1 x s'
def mw(P:ai)(m:Nat)(c:Code)(s:St)(x:cJ)(s':St):Prop:=∃ n,vp P m c n s x s'
theorem mw.stop{c:Code}(h:dC P m c s x s')(a:x≠.normal):mw P m c s x s':=⟨0,a,h⟩
theorem mw.next{c:Code}(h:dC P m c s .normal s1)(h':mw P m c s1 x s'):mw P m c s x s':=let ⟨n,a⟩:=h'; ⟨n+1,s1,h,a⟩
theorem mw.pre{c:Code}(b:bD m s s1)(h:mw P m c s1 x s'):mw P m c s x s':=by
 obtain⟨n,a⟩:=h;cases n with
 |zero=>exact⟨0,a.1,s_ b a.2⟩
 | succ n =>
  obtain⟨s2,d,g⟩:=a;exact⟨n+1,s2,s_ b d,g⟩
theorem LS{c:Code}(h:mw P m c s x s'):dC P m (.loop c) s x s':=fun J U E a hs b k q O t v=>by
 obtain⟨n,hn⟩:=h;have key:∀(n:Nat) (s1:St) (d:ae) (a:Act),c9 s1 d a->E.eZ m d->vp P m c n s1 x s' ->
   ∃ e y w',(e=x.toExit/\fU m E s' y w')/\ArrivesIn (Machine.fenced P (fz J)) P (lone (b.atR a (.code c::.inLoop c::k)) q d.w) b k q e y w':=by
  intro n
  induction n with
  | zero =>
   intro s1 d a F I A;obtain⟨hx,B⟩:=A;obtain⟨e,M,V,⟨z,h4⟩,g⟩:=B J U.loop d a F b (.inLoop c::k) q O t v;refine⟨e,M,V,⟨z,fU.after I h4⟩,?_⟩;subst z;exact .pass (x:=.inLoop c) rfl (fun _ _=>.inl (by cases x<;>simp_all[cJ.toExit])) g
  | succ n ih =>
   intro s1 d a F I A;obtain⟨s2,B,W⟩:=A;obtain⟨e,M,V,⟨z,ad,X,h5,h6⟩,g⟩:=B J U.loop d a F b (.inLoop c::k) q O t v;subst z;obtain⟨e2,a2,w2,N,Y⟩:=ih s2 _ M h5 (I.trans h6) W;exact⟨e2,a2,w2,N,.of_steps (StepsIn.trans g (.one (fenced_calm t v rfl) stepR_inLoop)) Y⟩
 obtain⟨e,y,w',N,g⟩:=key n s E a hs (ae.le.refl E).toM hn;exact⟨e,y,w',N,.of_steps (.one (fenced_calm t v rfl) stepR_loop) g⟩
end rules
def BR(P:ai)(s:St):ResultVar->Option AV
 |.tmp t=>some (s.fr.getD t .undef)
 |.cell a t=>kP P t (s.fr.getD a .undef) s.H
def nK(P:ai)(s:St):List ResultVar->Option (List AV)
 | []=>some []
 | r::rs=>match BR P s r,nK P s rs with
  |some v,some a=>some (v::a)
  |_,_=>none
def dp:List AV->AV
 | [v]=>v
 |a=>.tuple a
def Gt(tmps:Array ak):ResultVar->Sem ak
 |.tmp t=>pure (tmps.getD t undef)
 |.cell a t=>do loadVar t (<- asAddr (tmps.getD a undef))
def Ve{P:ai}{s:St}{E:ae}{a:Act}(k:c9 s E a){r:ResultVar}{v:AV}(h:BR P s r=some v) :
  ∃ u,(Gt a.tmps r).run P E.w=.ok u E.w/\ab E v u:=by
 cases r with
 | tmp t =>
  simp only[BR,a_]at h;subst h;exact⟨_,rfl,k.eval (.tmp t)⟩
 | cell x t =>
  simp only[BR]at h;rw[<-k.H]at h;have d:=k.eval (.tmp x);simp only[St.eval,Act.eval]at d;obtain⟨u,q,y⟩:=Kt k.heap h d;refine⟨u,?_,y⟩;have z:∃ b o,a.tmps.getD x undef=.pointer (some ⟨b,o,none⟩):=by
   unfold kP at h;split at h
   case h_2=>cases h
   split at h
   ·rename_i g
    rw[g]at d;simp only[ab]at d;obtain⟨_,b,o,e,_⟩:=d;exact⟨b,o,e⟩
   ·rename_i g
    rw[g]at d;simp only[ab]at d;obtain⟨⟨b,o,e⟩,_⟩:=d;exact⟨b,o,e⟩
   ·rename_i g
    rw[g]at d;simp only[ab]at d;obtain⟨⟨b,o,e⟩,_⟩:=d;exact⟨b,o,e⟩
   ·cases h
  obtain⟨b,o,e⟩:=z;show (do loadVar t (<- asAddr (a.tmps.getD x undef)):Sem ak).run P E.w=.ok u E.w
  rw[e]at q|-;simpa[Instr.loadAt,Instr.sureAddr,asAddr]using q
def Gu{P:ai}{s:St}{E:ae}{a:Act}(g:c9 s E a):∀(rs:List ResultVar) (b:List AV),nK P s rs=some b ->
  ∃ d:List ak,(rs.mapM (Gt a.tmps)).run P E.w=.ok d E.w/\ar E b d
 | [],b,h=>by simp[nK]at h; subst h; exact⟨[],rfl,by simp[ar]⟩
 | r::rs,b,h=>by
  simp only[nK]at h;split at h
  case h_2=>cases h
  rename_i v k q t;cases h;obtain⟨u,y,z⟩:=Ve g q;obtain⟨d,A,B⟩:=Gu g rs k t;refine⟨u::d,?_,by simp only[ar]; exact⟨z,B⟩⟩;simp only[List.mapM_cons,cg];rw[y];simp only[bY];rw[A];rfl
def Gv(fn:Func)(tmps:Array ak):results fn tmps=(do let a <- fn.results.mapM (Gt tmps); pure (if h:a.size=1 then a[0] else .tuple a)):=by
 unfold results;congr 1
def Vg{P:ai}{fn:Func}{s:St}{E:ae}{a:Act}(q:c9 s E a){b:List AV}(h:nK P s fn.results.toList=some b) :
  ∃ u,(results fn a.tmps).run P E.w=.ok u E.w/\ab E (dp b) u:=by
 obtain⟨d,t,k⟩:=Gu q fn.results.toList b h;refine⟨if h:d.toArray.size=1 then d.toArray[0] else .tuple d.toArray,?_,?_⟩
 ·rw [Gv]
  simp only[cg];rw[Array.mapM_eq_mapM_toList,Sem.run_map,t];rfl
 ·have g := iC k
  cases d with
  | nil =>
   cases b with
   |nil=>simp[dp,ab,ar]
   |cons _ _=>simp at g
  | cons u d =>
   cases d with
   | nil =>
    cases b with
    |nil=>simp at g
    | cons v b =>
     cases b with
     |nil=>simp only[ar]at k; simpa[dp]using k.1
     |cons _ _=>simp at g
   | cons y d =>
    cases b with
    |nil=>simp at g
    | cons v b =>
     cases b with
     |nil=>simp at g
     | cons z b =>
      simp only[dp,ab];exact⟨(u::y::d).toArray,by simp,k⟩
def oE(args:List AV)(n:Nat):List AV:=args++dz (n-args.length) .undef
def BS{E:ae}:∀(a:List ak),ar E (dz a.length .undef) a
 | []=>by simp[ar]
 |_::a=>by simp only[bW,List.replicate_succ,ar,ab]; exact⟨trivial,BS a⟩
structure lM (E E':ae):Prop where
 H:E'.H=E.H
 ad:E'.ad=E.ad
 size:E.w.heap.size<=E'.w.heap.size
 same:∀ b,b<E.w.heap.size->¬ E.X b->¬ E'.X b/\E'.w.heap[b]? = E.w.heap[b]?
 X:∀ b,E'.X b->b<E'.w.heap.size
 r:E'.X.r=E.X.r
def lM.bN{E E':ae}(h:lM E E')(b:Nat):E'.bN b↔E.bN b:=by unfold ae.bN ae.sat; rw[h.ad,h.r]
def lM.toC{E E':ae}(h:lM E E'):E.bZ E' :=
 ⟨fun b a=>⟨⟨eF a.1 h.size,fun d=>a.2.1 ((h.bN b).1 d),(h.same b a.1 a.2.2).1⟩,(h.same b a.1 a.2.2).2⟩⟩
mutual
def xY{E E':ae}(h:lM E E'):∀(a:AV) {c:ak},ab E a c->ab E' a c
 |.undef,_,_=>by simp[ab]
 |.lit v,c,b=>by simpa only[ab]using b
 |.nils,c,b=>by simpa only[ab]using b
 |.list k rZ,c,b=>gy h.toC _ (by simp[AV.closed]) b
 |.listF ks rZ,c,b=>gy h.toC _ (by simp[AV.closed]) b
 | .agg cells,c,b=>by
  simp only[ab]at b|-;obtain⟨d,e,q,g⟩:=b;exact⟨d,e,q,oG h cells g⟩
 | .tuple cells,c,b=>by
  simp only[ab]at b|-;obtain⟨d,e,g⟩:=b;exact⟨d,e,oG h cells g⟩
 |.cptr cells,c,b=>gy h.toC _ (by simp[AV.closed]) b
 | .ptr id al k row t,c,b=>by
  simp only[ab,ae.bu,ae.live,h.H,h.ad]at b|-;exact b
 | .vQ k id al oF n,c,b=>by
  simp only[ab,ae.bu,ae.live,h.H,h.ad]at b|-;exact b
 | .map id,c,b=>by
  simp only[ab,ae.bu,ae.live,h.H,h.ad]at b|-;exact b
 | .clo f caps,c,b=>by
  simp only[ab]at b|-;obtain⟨d,e,g⟩:=b;exact⟨d,e,oG h caps g⟩
 |.ifc,c,b=>by simpa only[ab]using b
 |.emptyS n,c,b=>by simpa only[ab]using b
 | .sub id l j,c,b=>by
  simp only[ab,ae.bu,ae.live,ae.Ki,h.H,h.r]at b|-;exact b
 | .svec ..,c,b=>by
  simp only[ab,ae.bu,ae.live,ae.uN,h.H,h.r]at b|-;exact b
 | .sptr ..,c,b=>by
  simp only[ab,ae.bu,ae.live,ae.uN,h.H,h.r]at b|-;exact b
def oG{E E':ae}(h:lM E E'):∀(as:List AV) {d:List ak},ar E as d->ar E' as d
 | [],[],_=>by simp[ar]
 | [],_::_,b=>by simp[ar]at b
 |_::_,[],b=>by simp[ar]at b
 | a::as,v::d,b=>by
  simp only[ar]at b|-;exact⟨xY h a b.1,oG h as b.2⟩
end
def aG.iI{E E':ae}(H:aG E)(h:lM E E'):aG E' where
 gL:=H.gL.bZ h.toC
 len:=by rw[h.ad,h.H]; exact H.len
 inj:=by rw[h.ad]; exact H.inj
 lt:=fun i b m hi=>by
  rw[h.ad]at hi;have:=H.lt i b m hi;exact⟨eF this.1 h.size,(h.same b this.1 this.2).1⟩
 X:=h.X
 obj:=fun i o hi=>by
  rw[h.H]at hi;exact mo (fun a _ t=>xY h a t) (by rw[h.ad]) (fun b n q=>(h.same b (H.lt i b n q).1 (H.lt i b n q).2).2) (fun l _=>⟨by rw[h.r],fun k g m d=>(h.same g (H.cS l k g m d).1 (H.cS l k g m d).2).2⟩) (H.obj i o hi)
 fC:=by rw[h.r]; exact H.fC
 dm:=by rw[h.r,h.ad]; exact H.dm
 cS:=fun l k b m d=>by
  rw[h.r]at d;have:=H.cS l k b m d;exact⟨eF this.1 h.size,(h.same b this.1 this.2).1⟩
 uniq:=by rw[h.H]; exact H.uniq
 iD:=by rw[h.H,h.r]; exact H.iD
def c9.iI{s:St}{E E':ae}{a:Act}(b:c9 s E a)(h:lM E E'){l:List Deferred}(hm:mq E'.w E'.X l):c9 s E' { a with defers:=l } :=
 ⟨by rw[h.H]; exact b.H,oG h _ b.fr,hm,b.heap.iI h⟩
def LU{P:ai}{fn:Func}{tmps:Array ak}{R:Ending->a6->Prop}:∀(l:List Deferred) (w:a6) (X:XS),mq w X l ->
  (∀ w',w'.heap.size=w.heap.size->(∀ b,w'.heap[b]? ≠ w.heap[b]? -> X b/\X.z b)->eO w w'->∃ v,(results fn tmps).run P w'=.ok v w'/\R (.returned v) w')->LeavesInM (fz none) 0 P fn tmps R l .returning w
 | [],w,X,_,h=>h w rfl (fun b a=>(a rfl).elim) (eO.refl w)
 | d::l,w,X,hm,h=>by
  obtain⟨D,e,q,B,F⟩:=hm.2 d cZ;subst e;have W:D<w.heap.size:=(je.1 q).1;have g:∀ b,b≠D->(w.putObj D (.deferred none)).heap[b]? = w.heap[b]? := fun b a=>World.putObj_heap_other a;have A:(w.putObj D (.deferred none)).heap.size=w.heap.size:=by simp[World.putObj]
  refine⟨by simp,.inl ⟨D,_,rfl,run_takeDeferred q,LU l _ X ⟨(uF.1 hm.1).2,fun I k=>?_⟩ fun w' J M N=>h w' (by rw[J,A]) (fun b a=>?_) (eO.trans ⟨rfl,rfl,rfl,by first|exact fun _=>aY _|exact fun _=>Nat.le_add_right _ _⟩ N)⟩⟩
  ·obtain ⟨t, y, O, U, V⟩ := hm.2 I (List.mem_cons_of_mem _ k)
   refine⟨t,y,?_,U,V⟩;rw[g t (fun e=>(uF.1 hm.1).1 (by rw[<-e,<-y]; exact k))];exact O
  ·by_cases e : b = D
   ·subst e
    exact⟨B,F⟩
   ·refine M b ?_
    rw[g b e];exact a
def LV{P:ai}{f:bC}{fn:Func}{c:Code}{args:Array ak}{w:a6}{R:Ending->a6->Prop}(g:P.funcs[f]? = some fn)(k:fn.body=some c)
  (h : c.wpIn (fz none) 0 P (fun e d a => (e = .normal \/ e = .ret) /\ ∃ X, mq a X d.defers /\ ∀ w', w'.heap.size = a.heap.size -> (∀ b, w'.heap[b]? ≠ a.heap[b]? -> X b /\ X.z b) -> eO a w' -> ∃ v, (results fn d.tmps).run P w' = .ok v w' /\ R (.returned v) w')
   { tmps:=args++pz (fn.ntmps-args.size) undef,defers:=[] } w):Calls P f args w R:=by
 refine(callsIn_wide (n:=0)).1 (callsIn_of_wp_marks (F:=fz none) g k trivial (wpIn_mono h fun e d a q=>?_));obtain⟨he,X,t,y⟩:=q;have:=LU (P:=P) (fn:=fn) (tmps:=d.tmps) (R:=R) d.defers a X t y;rcases he with rfl|rfl
 ·exact this
 ·exact this
def LW{m:Nat}{E:ae}{s':St}{k:List (Option (Nat × Nat))}{g:XS}{t:Act}{d w':a6}(HE:aG E)(B:c9 s' { w:=d,H:=s'.H,ad:=k,X:=g } t)
  (a:({ E with X:=⟨E.X.x,fun _=>False,E.X.r⟩ }:ae).eZ m { w:=d,H:=s'.H,ad:=k,X:=g }) (M:w'.heap.size=d.heap.size) (v:∀ b,w'.heap[b]? ≠ d.heap[b]? -> g b/\g.z b) (F:eO d w') :
  c9 s' { w:=w',H:=s'.H,ad:=k,X:=E.X.re g.r } { t with defers:=[] }/\E.eZ m { w:=w',H:=s'.H,ad:=k,X:=E.X.re g.r }:=by
 have A:∀ b,b<E.w.heap.size->w'.heap[b]? = d.heap[b]? := fun b h=>aj3 fun q=>((a.X b h).2.1 (v b q).2).elim;have J:E.w.heap.size<=d.heap.size:=a.size;have iI:lM { w:=d,H:=s'.H,ad:=k,X:=g } { w:=w',H:=s'.H,ad:=k,X:=E.X.re g.r } :=
  ⟨rfl, rfl, by show d.heap.size <= w'.heap.size; omega, fun b h y => ⟨fun he => y ((a.X b (HE.X b he)).1.2 he), aj3 fun q => y (v b q).1⟩, fun b h => by
   have:=HE.X b h;show b<w'.heap.size
   omega,rfl⟩
 refine⟨B.iI iI (uU _ _),⟨a.bu,by show E.w.heap.size<=w'.heap.size; omega,fun b h I=>?_,a.bN,a.live,fun b _=>⟨Iff.rfl,Iff.rfl⟩,a.rl,a.env.trans F,a.grow⟩⟩;show w'.heap[b]? = E.w.heap[b]?
 rw[A b h];exact a.same b h I
def vq{E:ae}(HE:aG E):lM E { E with X:=⟨E.X.x,fun _=>False,E.X.r⟩ }:=⟨rfl,rfl,aY _,fun b _ a=>⟨a,rfl⟩,HE.X,rfl⟩
def Vh{P:ai}{f:bC}{fn:Func}{c:Code}{args:List AV}{H:List ah}{x:cJ}{s':St}{h:List AV}
  (y:P.funcs[f]? = some fn) (z:fn.body=some c) (A:dC P H.length c ⟨oE args fn.ntmps,H⟩ x s') (B:x=.normal\/x=.ret) (F:nK P s' fn.results.toList=some h) (w:BP H) :
  eK P f args H (dp h) s'.H:=by
 intro E d hH HE g;refine LV y z ?_;have k:=vq HE;have g:=oG k _ g;have t:c9 ⟨oE args fn.ntmps,H⟩ { E with X:=⟨E.X.x,fun _=>False,E.X.r⟩ } { tmps:=d++pz (fn.ntmps-d.size) undef,defers:=[] }:=by
  refine⟨hH,?_,uU _ _,HE.iI k⟩;simp only[oE,E9,Array.toList_replicate];refine nD g ?_;have:=iC g;have e:args.length=d.size:=by simpa using this
  rw[e];have:=BS (E:={ E with X:=⟨E.X.x,fun _=>False,E.X.r⟩ }) (dz (fn.ntmps-d.size) undef);simpa using this
 refine wpIn_mono (A none (LO _) { E with X:=⟨E.X.x,fun _=>False,E.X.r⟩ } _ t) fun e V W ⟨I,v,q,a,b⟩=>?_;refine⟨by subst I; rcases B with rfl|rfl; exact .inl rfl; exact .inr rfl,q,a.defers,fun w' J M N=>?_⟩;obtain⟨a,b⟩:=LW HE a b J M N;obtain⟨u,O,U⟩:=Vg a F;have b:=b.full ⟨rfl,rfl⟩ (by rw[hH]; exact aY _) (by rw[hH]; exact w);exact⟨u,O,u,dp h,s'.H,rfl,⟨rfl,rfl⟩,v,q.r,U,a.heap,b⟩
def Vi{P:ai}{f:bC}{args:List AV}{v:AV}{H1:List ah}(h:eK P f args [] v H1)(O:AV.cb args=true)(U:v.closed=true):nJ P f args v:=by
 intro H E F hH HE I
 let E0:ae:={ w:=E.w,H:=[],ad:=[],X:=(E.X.or E.bN).re iB }
 have z:∀ b,¬ E0.bN b:=by rintro b (⟨id,c,M⟩|⟨l,k,c,d⟩); simp[E0]at M; simp[E0,iB]at d
 have hC:E.bZ E0:=⟨fun b a=>⟨⟨a.1,z b,fun g=>g.elim a.2.2 a.2.1⟩,rfl⟩⟩
 have N:aG E0:=by
  refine⟨rfl,?_,?_,?_,?_,HE.gL.bZ hC,fun l k l' Y b m n d=>by simp[E0,iB]at d,fun i b m l k n hi=>by simp[E0]at hi,fun l k b m d=>by simp[E0,iB]at d,fun i j o o' l hi=>by simp[E0]at hi,fun l _ k q d=>by simp[E0,iB]at d⟩
  ·intro i j b m n hi; simp[E0]at hi
  ·intro i b m hi; simp[E0]at hi
  ·rintro b (g | t)
   ·exact HE.X b g
   ·exact(HE.Bg t).1
  ·intro i o hi; simp[E0]at hi
 refine(h E0 F rfl N (sJ hC args O I)).mono ?_;rintro _ w' ⟨c,B,H',rfl,⟨rfl,rfl⟩,J,V,W,g2,y⟩;have A:Ext E.w w':=⟨y.size,fun b a=>y.same b a (z b),y.env⟩
 refine⟨c,B,H,rfl,⟨rfl,rfl⟩,E.ad,E.X.r,?_,?_,?_⟩
 ·rw [<- hH]
  exact gy (E:={ w:=w',H:=H',ad:=J,X:=E0.X.re V }) (E':={ w:=w',H:=E.H,ad:=E.ad,X:=E.X })
   ⟨fun b a=>⟨⟨a.1,fun t=>a.2.2 (Or.inr t),fun g=>a.2.2 (Or.inl g)⟩,rfl⟩⟩ B U W
 ·rw[<-hH]; exact HE.ext A
 ·rw[<-hH]; exact ae.iE A
end Go.AL

namespace Go.AL
open Go
variable [Dr]
variable {P:ai} {pf:bC->Bool} {af:Array aQ}
def nM(r:bX->AV):Op->Option Nat
 | .load _ a=>match r a with
  |.ptr id _ _ _ _=>some id
  |.sptr id _ _ _ _ _=>some id
  |_=>none
 | .lookup _ m _ _=>match r m with
  |.map id=>some id
  |.sub id _ _=>some id
  |_=>none
 | .call c=>match c.args.toList with
  | [a]=>match r a with
   |.map id=>some id
   |_=>none
  |_=>none
 |_=>none
theorem LX{r:bX->AV}{H b:List ah}:∀{op:Op},(∀ id,nM r op=some id->b[id]? = H[id]?)->fS P r b op=fS P r H op:=by
 intro op h;cases op<;>simp only[fS]
 case load t a =>
  simp only[nM]at h;unfold kP;cases d:r a with
  | ptr id al w row g =>
   rw[d]at h;have:=h id rfl;simp only[this]
  | sptr id l j w row g =>
   rw[d]at h;have:=h id rfl;simp only[this]
  |_=>rfl
 case lookup t m k ok =>
  simp only[nM]at h;have q:lL P t (r m) (r k) ok b=lL P t (r m) (r k) ok H:=UE (fun id e=>by rw[e]at h; exact h id rfl) (fun id l j e=>by rw[e]at h; exact h id rfl);rw[q];have v:gM P t (r m) (r k) ok b=gM P t (r m) (r k) ok H:=by
   unfold gM;cases dJ P t with
   |none=>rfl
   | some p =>
    obtain⟨y,z⟩:=p;cases hm:r m with
    | map id =>
     rw[hm]at h;have:=h id rfl;simp only[this]
    |_=>rfl
  rw[v]
 case call c =>
  simp only[nM]at h;unfold qY;split
  ·rename_i a t A d B
   rw[d]at h;simp only[]at h;cases dJ P t with
   |none=>rfl
   | some p =>
    cases hm:r a with
    | map id =>
     rw[hm]at h;have:=h id rfl;simp only[this]
    |_=>rfl
  ·rfl
theorem LY{r b:bX->AV}(o:Op)(h:∀ x∈o.operands,r x=b x):nM r o=nM b o:=by
 cases o<;>simp only[nM]
 case load t a =>
  simp only[eV]at h;rw[h a (by simp)]
 case lookup t m k ok =>
  simp only[eV]at h;rw[h m (by simp)]
 case call c =>
  split
  ·rename_i a d
   have:a∈(Op.call c).operands:=by
    show a∈c.operands
    have g:a∈c.args:=by
     have:a∈c.args.toList:=by rw[d]; simp
     simpa using this
    simp[uI,g]
   rw[h a this]
  ·rfl
abbrev jG:=List (Nat × List Nat × Nat)
abbrev kr:=List (Nat × Nat)
def kept(W:jG)(j A:Nat):Prop:=∀ e∈W,e.1=j->A∉e.2.1/\A<e.2.2
def Gw(af:Array aQ):Bool :=
 (jc af.size).any fun j => (jc j).any fun i => match af[i]?, af[j]? with
  |some x,some y=>fm x.op&&fm y.op && !waits af af.size j i
  |_,_=>false
def tb:Op->Bool
 | .call c=>match c.callee with
  |.value (.func _)=>true
  |_=>false
 |_=>false
def isVar:Op->Bool
 |.alloc _=>true
 |_=>false
theorem vr{op:Op}(h:isVar op=true):fm op=true:=by
 unfold isVar at h;split at h
 ·rfl
 ·cases h
def BT(af:Array aQ):Bool :=
 (jc af.size).any fun j => (jc j).any fun i => match af[i]?, af[j]? with
  |some x,some y=>tb x.op&&isVar y.op && !waits af af.size j i
  |_,_=>false
def ku:Op->Bool
 |.mapEntry ..=>true
 |.entryStore ..=>true
 |_=>false
def Gx(af:Array aQ):Bool :=
 (jc af.size).any fun j => (jc j).any fun i => match af[i]?, af[j]? with
  |some x,some y=>fm x.op&&ku y.op && !waits af af.size j i
  |_,_=>false
def my(af:Array aQ):Bool:=(Gw af||BT af)||Gx af
theorem LZ{pf:bC->Bool}{op:Op}(h:ku op=true):db pf op=.write:=by
 unfold ku at h;split at h
 ·rfl
 ·rfl
 ·cases h
theorem Vj{op:Op}(h:ku op=true):fm op=false:=by
 unfold ku at h;split at h
 ·rfl
 ·rfl
 ·cases h
theorem pT{pf:bC->Bool}{op:Op}(h:fm op=true):db pf op=.write:=by
 unfold fm at h;split at h
 ·rfl
 ·rfl
 ·cases h
theorem BU{pf:bC->Bool}{op:Op}{X:Prop}(h:db pf op≠.write):fm op=true->X:=fun a=>(h (pT a)).elim
def nN:Op->Bool
 |.buildSlice ..=>true
 | .call c=>match c.callee with
  |.builtin .append=>true
  |_=>false
 |_=>false
def mz(af:Array aQ)(op:Op):Bool:=(tb op&&BT af)||(nN op&&my af)
theorem oH{af:Array aQ}{op:Op}(h:fm op=true):mz af op=false:=by
 unfold fm at h;split at h
 ·rfl
 ·rfl
 ·cases h
theorem Vk{af:Array aQ}{op:Op}(h:ku op=true):mz af op=false:=by
 unfold ku at h;split at h
 ·rfl
 ·rfl
 ·cases h
theorem Vl{af:Array aQ}{op:Op}(h:mz af op=true):my af=true:=by
 unfold mz at h;rw[nu,aE,aE]at h;rcases h with h|h
 ·unfold my
  rw[h.2];simp
 ·exact h.2
def mA(a:List (Nat × ah))(H:List ah):List ah:=a.foldl (fun H p=>H.set p.1 p.2) H
def BV(W:jG)(j:Nat)(H:List ah)(a:List (Nat × ah)):Prop:=∀ p∈a,kept W j p.1/\∃ y,H[p.1]? = some y/\xW y
def Step(P:ai)(pf:bC->Bool)(af:Array aQ)(R:kr)(W:jG)(j:Nat)(o:aQ)(s:St)(v:AV)(H':List ah):Prop :=
 (db pf o.op = .write -> ∀ A, kept W j A -> H'[A]? = s.H[A]?) /\ (db pf o.op = .read -> cr af s.fr o = some true -> ∀ id, nM s.eval o.op = some id -> (j, id) ∈ R) /\
  (fm o.op=true->my af=true->cr af s.fr o=some true->H'.length=s.H.length/\∀ id,H'[id]? ≠ s.H[id]? -> ∃ e∈W,e.1=j/\id∈e.2.1) /\
  (mz af o.op=true->db pf o.op=.write->cr af s.fr o=some true->∀ a,BV W j s.H a->Yields P pf af o ⟨s.fr,mA a s.H⟩ v (mA a H'))
def L1(R:kr)(W:jG)(i j:Nat):Prop:=∀ id,(i,id)∈R->kept W j id
def BW(pf:bC->Bool)(af:Array aQ)(R:kr)(W:jG)(i:Nat)(x:aQ)(j:Nat)(y:aQ):Prop :=
 pR pf x y=true\/(db pf x.op=.read/\db pf y.op=.write/\L1 R W i j)\/(db pf x.op=.write/\db pf y.op=.read/\L1 R W j i)\/(fm x.op=true/\fm y.op=true/\my af=true) \/
  (db pf x.op=.write/\mz af x.op=true/\isVar y.op=true/\∀ e∈W,e.1=j->∀ id∈e.2.1,kept W i id) \/
  (fm x.op=true/\ku y.op=true/\my af=true/\∀ e∈W,e.1=i->∀ id∈e.2.1,kept W j id)
theorem L2{o:aQ}{s:St}{v:AV}{H':List ah}(a:isVar o.op=true)(h:Yields P pf af o s v H')(g:cr af s.fr o=some true->H'.length=s.H.length) :
  (cr af s.fr o = some false /\ v = .tuple [] /\ H' = s.H) \/
   (cr af s.fr o=some true/\∃ t id z y x m,o.op=.alloc t/\fl P t=some z/\s.H[id]? = some y/\pS z m id y v x/\H'=s.H.set id x):=by
 unfold Yields at h;cases q:cr af s.fr o with
 |none=>rw[q]at h; exact h.elim
 | some b =>
  rw[q]at h;cases b with
  |false=>exact .inl ⟨rfl,h.1,h.2⟩
  | true =>
   right;refine⟨rfl,?_⟩;simp only[pT (vr a)]at h;have g:=g q;rcases h with(h|⟨f,args,k,_⟩)|(⟨t,id,m,d,A⟩|⟨t,id,d,A⟩)|w
   ·unfold isVar at a
    split at a
    ·rename_i t d
     rw[d]at h;simp only[du,sO]at h;split at h
     ·split at h
      ·cases h
       simp at g
      ·cases h
     ·split at h
      ·cases h
       simp at g
      ·cases h
    ·cases a
   ·unfold isVar at a
    split at a
    ·rename_i t d
     rw[d]at k;cases k
    ·cases a
   ·obtain ⟨z, y, x, k, B, F, I⟩ := LF A
    exact⟨t,id,z,y,x,m,d,k,B,F,I⟩
   ·rw [d] at a
    cases a
   ·unfold isVar at a
    split at a
    ·rename_i t d
     rw[d]at w;exact w.elim
    ·cases a
def jk(P:ai)(op:Op)(id:Nat)(y:ah)(v:AV)(x:ah):Prop :=
 (∃ t z m,op=.alloc t/\fl P t=some z/\pS z m id y v x)\/∃ t,op=.makeMap t none/\y=.dP/\v=.map id/\x=.map [] 0
theorem jk.hole{op:Op}{id:Nat}{y x:ah}{v:AV}(h:jk P op id y v x):xW y:=by
 rcases h with⟨_,_,_,_,_,h⟩|⟨_,_,rfl,_,_⟩
 ·exact h.hole
 ·exact .inr rfl
theorem jk.full{op:Op}{id:Nat}{y x a:ah}{v:AV}(h:jk P op id y v x)(h':xW a):x≠a:=by
 rcases h with⟨_,_,_,_,_,h⟩|⟨_,_,_,_,rfl⟩
 ·exact h.full h'
 ·rcases h' with⟨k,rfl⟩|rfl<;>intro e<;>cases e
theorem jk.ne{op b:Op}{id d:Nat}{y a x g:ah}{v k:AV}(h:jk P op id y v x)(h':jk P b d a k g):x≠a:=h.full h'.hole
theorem Gy{o:aQ}{s:St}{v:AV}{H':List ah}(k:fm o.op=true)(h:Yields P pf af o s v H')(q:cr af s.fr o=some true->H'.length=s.H.length) :
  (cr af s.fr o = some false /\ v = .tuple [] /\ H' = s.H) \/
   (cr af s.fr o=some true/\∃ id y x,jk P o.op id y v x/\s.H[id]? = some y/\H'=s.H.set id x):=by
 cases d:isVar o.op with
 | true =>
  rcases L2 d h q with h|⟨g,t,id,z,y,x,m,A,B,J,M,N⟩
  ·exact .inl h
  ·exact .inr ⟨g,id,y,x,.inl ⟨t,z,m,A,B,M⟩,J,N⟩
 | false =>
  have hm:∃ t,o.op=.makeMap t none:=by
   unfold fm at k;split at k
   ·rename_i t a
    rw[a]at d;cases d
   ·rename_i t a
    exact⟨t,a⟩
   ·cases k
  obtain⟨t,a⟩:=hm;unfold Yields at h;cases F:cr af s.fr o with
  |none=>rw[F]at h; exact h.elim
  | some b =>
   rw[F]at h;cases b with
   |false=>exact .inl ⟨rfl,h.1,h.2⟩
   | true =>
    right;refine⟨rfl,?_⟩;simp only[pT k]at h;have q:=q F;rcases h with(h|⟨f,args,g,_⟩)|(⟨t',id,m,w,d⟩|⟨t',id,w,d⟩)|I
    ·rw [a] at h
     simp only[du]at h;cases h;simp at q
    ·rw [a] at g
     cases g
    ·rw [a] at w
     cases w
    ·obtain ⟨g, A, B⟩ := F7 d
     exact⟨id,_,_,.inr ⟨t,a,rfl,A,rfl⟩,g,B⟩
    ·rw [a] at I
     exact I.elim
theorem L3{o:aQ}{s:St}{t:aD}{id:Nat}{z:List ak}{y x:ah}{v:AV}{m:List (Option (List Kd))}(b:cr af s.fr o=some true)(d:o.op=.alloc t)(g:fl P t=some z)(a:s.H[id]? = some y)(h:pS z m id y v x) :
  Yields P pf af o s v (s.H.set id x):=by
 unfold Yields;rw[b,d];exact .inr (.inl (.inl ⟨t,id,m,rfl,Gp g a h⟩))
theorem Gz{o:aQ}{s:St}{id:Nat}{v:AV}{x y:ah}(d:cr af s.fr o=some true)(g:jk P o.op id y v x)(b:s.H[id]? = some y):Yields P pf af o s v (s.H.set id x):=by
 rcases g with⟨t,z,m,a,h,k⟩|⟨t,a,rfl,rfl,rfl⟩
 ·exact L3 d a h b k
 ·unfold Yields
  rw[d,a];exact .inr (.inl (.inr ⟨t,id,rfl,K4 b⟩))
def nO:ah->Bool
 |.br ..=>false
 |.mm ..=>false
 |.cM ..=>false
 |.bM ..=>false
 |_=>true
theorem jk.no{op:Op}{id:Nat}{y x:ah}{v:AV}(h:jk P op id y v x):nO x=true/\nO y=true/\x≠.dead:=by
 rcases h with⟨_,_,_,_,_,⟨rfl,_,rfl⟩|⟨rfl,_,rfl⟩⟩|⟨_,_,rfl,_,rfl⟩
 ·exact⟨rfl,rfl,fun e=>by cases e⟩
 ·exact⟨rfl,rfl,fun e=>by cases e⟩
 ·exact⟨rfl,rfl,fun e=>by cases e⟩
theorem Vm{t:aD}{id:Nat}{k:AV}{H:List ah}{x:ah}(h:H[id]? = some x)(a:nO x=true):jT P t (.map id) k H=none/\kR P t (.map id) k H=none:=by
 unfold jT kR;cases dJ P t with
 |none=>exact⟨rfl,rfl⟩
 | some p =>
  simp only[h];cases x<;>first|exact⟨rfl,rfl⟩|cases a
theorem Vn{t:aD}{id a:Nat}{k:AV}{H:List ah}{x:ah}(b:id≠a)(d:a<H.length):jT P t (.map id) k (H.set a x)=(jT P t (.map id) k H).map fun p=>(p.1,p.2.set a x):=by
 unfold jT;cases dJ P t with
 |none=>rfl
 | some p =>
  simp only[bc (Ne.symm b),List.length_set];split
  ·split
   ·split
    ·split
     ·split
      ·simp only [fk]
       rw[A3 _ _ (by simpa using d),nr _ _ b]
      ·rfl
     ·simp only [fk]
      rw[A3 _ _ (by simpa using d),nr _ _ b]
     ·rfl
    ·rfl
   ·rfl
  ·rfl
theorem Vo{t:aD}{id a:Nat}{k:AV}{H:List ah}{x:ah}(b:id≠a):kR P t (.map id) k (H.set a x)=(kR P t (.map id) k H).map fun p=>(p.1,p.2.set a x):=by
 unfold kR;cases dJ P t with
 |none=>rfl
 | some p =>
  simp only[bc (Ne.symm b)];split
  ·split
   ·split
    ·simp only [fk]
     rw[nr _ _ b]
    ·rfl
   ·rfl
  ·rfl
theorem Vp{t:aD}{id a:Nat}{k v:AV}{H H':List ah}(b:id≠a)(d:a<H.length)(h:jT P t (.map id) k H=some (v,H')):H'[a]? = H[a]? := by
 unfold jT at h;split at h
 case h_2=>cases h
 rename_i he;cases he;split at h
 case h_2=>cases h
 split at h
 case h_2=>cases h
 split at h
 case h_2=>cases h
 split at h
 ·split at h
  ·cases h
   rw[dr (by simpa using d),bc b]
  ·cases h
 ·cases h
  rw[dr (by simpa using d),bc b]
 ·cases h
theorem Vq{t:aD}{id a:Nat}{k v:AV}{H H':List ah}(b:id≠a)(h:kR P t (.map id) k H=some (v,H')):H'[a]? = H[a]? := by
 unfold kR at h;split at h
 case h_2=>cases h
 rename_i he;cases he;split at h
 case h_2=>cases h
 split at h
 case h_2=>cases h
 split at h
 ·cases h
  rw[bc b]
 ·cases h
theorem Vr{m s v:AV}{a:Nat}{x y:ah}{H g:List ah}(t:H[a]? = some y)(z:nO x=true/\nO y=true/\x≠.dead)(h:mu m s v (H.set a x)=some g)(A:g[a]? = some x) :
  ∃ H1,mu m s v H=some H1/\g=H1.set a x/\H1[a]? = some y:=by
 have k:=aX t;unfold mu at h|-;split at h
 case h_2=>cases h
 rename_i id st w j al oF n;have b:id≠a:=fun e=>by
  subst e;rw[bK k]at h;obtain⟨I,_⟩:=z;cases x<;>first|cases h|cases I
 rw[bc (Ne.symm b)]at h;split at h
 case h_2=>cases h
 rename_i l w' U cl V O rZ J B;split at h
 case isFalse=>cases h
 rename_i M;split at h
 case h_2=>cases h
 rename_i i hi;split at h
 case h_2=>cases h
 rename_i key q W N;split at h
 case h_2=>cases h
 rename_i F;cases h;have d:j≠a:=fun e=>by
  subst e;rw[bK (by simpa using k)]at A;exact z.2.2 (iA A).symm
 rw[bc (Ne.symm d)]at B;rw[J,B];simp only[iP M,hi,N,F];refine⟨_,rfl,?_,?_⟩
 ·rw[nr _ _ (Ne.symm b),nr _ _ (Ne.symm d)]
 ·rw[bc d,bc b,t]
theorem Vs{m s v:AV}{a:Nat}{x y:ah}{H g:List ah}(q:H[a]? = some y)(t:nO x=true/\nO y=true/\x≠.dead)(h:nI m s v (H.set a x)=some g)(w:g[a]? = some x) :
  ∃ H1,nI m s v H=some H1/\g=H1.set a x/\H1[a]? = some y:=by
 have k:=aX q;unfold nI at h|-;split at h
 case h_2=>cases h
 rename_i id st j;have b:id≠a:=fun e=>by
  subst e;rw[bK k]at h;obtain⟨A,_⟩:=t;cases x<;>first|cases h|cases A
 rw[bc (Ne.symm b)]at h;split at h
 case h_2=>cases h
 rename_i l M N cl I J B z;split at h
 case h_2=>cases h
 rename_i i hi;split at h
 case h_2=>cases h
 rename_i key O F;cases h;have d:j≠a:=fun e=>by
  subst e;rw[bK (by simpa using k)]at w;exact t.2.2 (iA w).symm
 rw[bc (Ne.symm d)]at z;rw[B,z];simp only[hi,F];refine⟨_,rfl,?_,?_⟩
 ·rw[nr _ _ (Ne.symm b),nr _ _ (Ne.symm d)]
 ·rw[bc d,bc b,q]
theorem Vt{m s v:AV}{a:Nat}{x y:ah}{H:List ah}(d:H[a]? = some y)(g:nO x=true/\nO y=true/\x≠.dead){b:List ah}(hm:nI m s v H=some b):mu m s v H=none:=by
 unfold nI at hm;split at hm
 case h_2=>cases hm
 rfl
theorem Vu{op:Op}(A:ku op=true){r:bX->AV}{H B:List ah}{a:Nat}{x y:ah}{u:AV}(b:H[a]? = some y)(g:nO x=true/\nO y=true/\x≠.dead)(h:du P r (H.set a x) op=some (u,B))(M:B[a]? = some x) :
  ∃ H1,du P r H op=some (u,H1)/\B=H1.set a x/\H1[a]? = some y:=by
 have w:=aX b;unfold ku at A;split at A
 ·rename_i t m k
  simp only[du]at h|-;cases hm:r m with
  | map id =>
   rw[hm]at h;by_cases d:id=a
   ·subst d
    obtain⟨O,U⟩:=Vm (P:=P) (t:=t) (k:=r k) (bK (a:=x) w) g.1;rw[O,U]at h;cases h
   ·rw [Vn d w, Vo d] at h
    cases he:jT P t (.map id) (r k) H with
    | some p =>
     rw[he]at h;simp only[fk]at h;obtain⟨p1,F⟩:=p;cases h;exact⟨F,rfl,rfl,by rw[Vp d w he,b]⟩
    | none =>
     rw[he]at h;simp only[Option.map_none]at h;cases z:kR P t (.map id) (r k) H with
     | some p =>
      rw[z]at h;simp only[fk]at h;obtain⟨p1,F⟩:=p;cases h;exact⟨F,rfl,rfl,by rw[Vq d z,b]⟩
     | none =>
      rw[z]at h;cases h
  | _ =>
   rw[hm]at h;unfold jT kR at h;cases N:dJ P t with
   |none=>rw[N]at h; cases h
   |some p=>rw[N]at h; cases h
 ·rename_i t m s v
  simp only[du]at h|-;cases he:mu (r m) (r s) (r v) (H.set a x)with
  | some V =>
   rw[he]at h;cases h;obtain⟨H1,q,I,J⟩:=Vr b g he M;rw[q];exact⟨H1,rfl,I,J⟩
  | none =>
   rw[he]at h;cases hm:nI (r m) (r s) (r v) (H.set a x)with
   |none=>rw[hm]at h; cases h
   | some V =>
    rw[hm]at h;cases h;obtain⟨H1,q,I,J⟩:=Vs b g hm M;rw[Vt b g q,q];exact⟨H1,rfl,I,J⟩
 ·cases A
theorem Vv{o:aQ}{s:St}{u:AV}{k:List ah}(b:ku o.op=true)(h:Yields P pf af o s u k)(q:cr af s.fr o=some true):du P s.eval s.H o.op=some (u,k):=by
 unfold Yields at h;simp only[q,LZ b]at h;rcases h with(h|⟨f,args,g,_⟩)|(⟨t,id,m,a,_⟩|⟨t,id,a,_⟩)|d
 ·exact h
 ·unfold ku at b
  split at b
  ·rename_i a
   rw[a]at g;cases g
  ·rename_i a
   rw[a]at g;cases g
  ·cases b
 ·rw [a] at b
  cases b
 ·rw [a] at b
  cases b
 ·unfold ku at b
  split at b
  ·rename_i a
   rw[a]at d;exact d.elim
  ·rename_i a
   rw[a]at d;exact d.elim
  ·cases b
theorem Vw{R:kr}{W:jG}{i j:Nat}{w k:aQ}{s:St}{v u:AV}{I g:List ah}(h1:w.apart af k=true)(h2:k.apart af w=true)(hc:BW pf af R W i w j k)
  (hi:Yields P pf af w s v I) (si:Step P pf af R W i w s v I) (J:Yields P pf af k (s.put w.dst v I) u g) (sj:Step P pf af R W j k (s.put w.dst v I) u g) :
  ∃ Hj1,Yields P pf af k s u Hj1/\Step P pf af R W j k s u Hj1/\Yields P pf af w (s.put k.dst u Hj1) v g/\Step P pf af R W i w (s.put k.dst u Hj1) v g:=by
 obtain⟨a1,a2,a3⟩:=J4 h1;have V:cr af (s.put w.dst v I).fr k=cr af s.fr k:=BN a1;have wi:∀ M,cr af (s.put k.dst u M).fr w=cr af s.fr w:=fun M=>BN a3;have ej:∀ x∈k.op.operands,(s.put w.dst v I).eval x=s.eval x:=fun x hx=>eval_put a1 hx;have ei:∀ M,∀ x∈w.op.operands,(s.put k.dst u M).eval x=s.eval x:=fun M x hx=>eval_put a3 hx;have cj:=LY k.op ej;have ci:=fun M=>LY w.op (ei M);have evj:=LB (P:=P) (H:=I) k.op ej;have readJ:db pf k.op=.read->Step P pf af R W j k s u s.H:=fun q=>⟨fun d=>(by rw[q]at d; cases d),fun _ d id U=>sj.2.1 q (by rw[V]; exact d) id (by rw[cj]; exact U),BU (by rw[q]; simp),fun _ d=>(by rw[q]at d; cases d)⟩
 have readI:db pf w.op=.read->∀ M H3,Step P pf af R W i w (s.put k.dst u M) v H3:=fun q M H3=>⟨fun d=>(by rw[q]at d; cases d),fun _ d id U=>si.2.1 q (by rw[wi]at d; exact d) id (by rw[ci]at U; exact U),BU (by rw[q]; simp),fun _ d=>(by rw[q]at d; cases d)⟩
 have frj:∀{M H3:List ah} {v':AV},Yields P pf af k ⟨(s.put w.dst v I).fr,M⟩ v' H3->Yields P pf af k ⟨s.fr,M⟩ v' H3:=fun {M _ _} h=>(gO (s1:=⟨(s.put w.dst v I).fr,M⟩) (s:=⟨s.fr,M⟩) V (fun x hx=>by
  have:=ej x hx;cases x<;>exact this) rfl).1 h
 have fri:∀{H1 M H3:List ah} {v':AV},Yields P pf af w ⟨s.fr,M⟩ v' H3->Yields P pf af w ⟨(s.put k.dst u H1).fr,M⟩ v' H3:=fun {H1 M _ _} h=>(gO (s1:=⟨(s.put k.dst u H1).fr,M⟩) (s:=⟨s.fr,M⟩) (wi H1) (fun x hx=>by
  have:=ei H1 x hx;cases x<;>exact this) rfl).2 h
 have toJ:I=s.H->Step P pf af R W j k s u g:=by
  intro e;subst e;exact⟨fun d A N=>sj.1 d A N,fun q d id U=>sj.2.1 q (by rw[V]; exact d) id (by rw[cj]; exact U),fun ha ht d=>sj.2.2.1 ha ht (by rw[V]; exact d),
   fun F d hwa σ hσ=>frj (sj.2.2.2 F d (by rw[V]; exact hwa) σ hσ)⟩
 have toI:g=I->Step P pf af R W i w (s.put k.dst u s.H) v g:=by
  intro e;subst e;exact⟨fun d A N=>si.1 d A N,fun q d id U=>si.2.1 q (by rw[wi]at d; exact d) id (by rw[ci]at U; exact U),fun ha ht d=>si.2.2.1 ha ht (by rw[wi]at d; exact d),
   fun F d hwa σ hσ=>fri (si.2.2.2 F d (by rw[wi]at hwa; exact hwa) σ hσ)⟩
 have old:pR pf w k=true->∃ Hj1,Yields P pf af k s u Hj1/\Yields P pf af w (s.put k.dst u Hj1) v g:=fun hc=>LH h1 h2 hc hi J;cases z:db pf w.op with
 | pure =>
  obtain⟨O,g1⟩:=xV z hi;subst O;refine⟨g,(gO V ej rfl).1 J,toJ rfl,
   (gO (s1:=s.put k.dst u g) (s:=⟨s.fr,g⟩) (wi g) (fun x hx=>by rw[ei g x hx]; cases x<;>rfl) rfl).2 (g1 g),⟨fun d=>(by rw[z]at d; cases d),fun q=>(by rw[z]at q; cases q),BU (by rw[z]; simp),fun _ d=>(by rw[z]at d; cases d)⟩⟩
 | read =>
  have O:=s7 z hi;subst O;have hj':=(gO V ej rfl).1 J;refine⟨g,hj',toJ rfl,?_,readI z _ _⟩;have key:∀ M:List ah,St.eval ⟨s.fr,M⟩=s.eval:=fun M=>by funext x; cases x<;>rfl
  have same:cr af s.fr w=some true->fS P s.eval g w.op=fS P s.eval s.H w.op:=by
   intro d;cases B:db pf k.op with
   | pure =>
    have:=(xV B hj').1;rw[this]
   | read =>
    have:=s7 B hj';rw[this]
   | write =>
    rcases hc with hc|⟨_,_,hap⟩|⟨hw',_,_⟩|⟨hw',_,_⟩|⟨hw',_⟩|⟨hw',_⟩
    ·obtain ⟨Hj1, q1, q2⟩ := old hc
     have q3:=(gO (s1:=s.put k.dst u Hj1) (s:=⟨s.fr,Hj1⟩) (wi Hj1) (fun x hx=>by rw[ei Hj1 x hx]; cases x<;>rfl) rfl).1 q2;have e2:g=Hj1:=s7 z q3;subst e2;unfold Yields at q3 hi;simp only[z,d]at q3 hi;rw[key]at q3;rw[q3.2,hi.2]
    ·exact LX fun id U=>sj.1 B id (hap id (si.2.1 z d id U))
    ·rw [z] at hw'
     cases hw'
    ·rw [pT hw'] at z
     cases z
    ·rw [z] at hw'
     cases hw'
    ·rw [pT hw'] at z
     cases z
  refine(gO (s1:=s.put k.dst u g) (s:=⟨s.fr,g⟩) (wi g) (fun x hx=>by rw[ei g x hx]; cases x<;>rfl) rfl).2 ?_;unfold Yields at hi|-;simp only[z]at hi|-;cases d:cr af s.fr w with
  |none=>rw[d]at hi; exact hi.elim
  | some b =>
   rw[d]at hi;cases b with
   |false=>exact⟨hi.1,by simp⟩
   | true =>
    refine⟨by simp,?_⟩;rw[key,same d];exact hi.2
 | write =>
  cases B:db pf k.op with
  | pure =>
   obtain⟨O,g1⟩:=xV B J;have e1':g=I:=O;subst e1';refine⟨s.H,?_,⟨fun d=>(by rw[B]at d; cases d),fun q=>(by rw[B]at q; cases q),BU (by rw[B]; simp),fun _ d=>(by rw[B]at d; cases d)⟩,(gO (s1:=s.put k.dst u s.H) (s:=s) (wi s.H) (ei s.H) rfl).2 hi,toI rfl⟩;exact(gO (s1:=⟨(s.put w.dst v g).fr,s.H⟩) (s:=s) V (fun x hx=>by
    have:=ej x hx;cases x<;>exact this) rfl).1 (g1 s.H)
  | read =>
   have e2:=s7 B J;have Y:g=I:=e2;subst Y;refine⟨s.H,?_,readJ B,(gO (s1:=s.put k.dst u s.H) (s:=s) (wi s.H) (ei s.H) rfl).2 hi,toI rfl⟩;have same:cr af s.fr k=some true->fS P s.eval g k.op=fS P s.eval s.H k.op:=by
    intro d;rcases hc with hc|⟨hr',_,_⟩|⟨_,_,hap⟩|⟨_,hr',_⟩|⟨_,_,hr',_⟩|⟨_,hr',_⟩
    ·unfold pR at hc
     rw[z,B]at hc;cases hc
    ·rw [z] at hr'
     cases hr'
    ·exact LX fun id U=>si.1 z id (hap id (sj.2.1 B (by rw[V]; exact d) id (by rw[cj]; exact U)))
    ·rw [pT hr'] at B
     cases B
    ·rw [pT (vr hr')] at B
     cases B
    ·rw [LZ hr'] at B
     cases B
   unfold Yields at J|-;simp only[B]at J|-;rw[V]at J;cases d:cr af s.fr k with
   |none=>rw[d]at J; exact J.elim
   | some b =>
    rw[d]at J;cases b with
    |false=>exact⟨J.1,by simp⟩
    | true =>
     refine⟨by simp,?_⟩;rw[<-same d,<-evj];exact J.2
  | write =>
   rcases hc with hc|⟨hr',_,_⟩|⟨_,hr',_⟩|⟨hai,haj,htw⟩|⟨_,hvi,haj,hap⟩|⟨hai,hqj,htw,hap⟩
   ·unfold pR at hc
    rw[z,B]at hc;cases hc
   ·rw [z] at hr'
    cases hr'
   ·rw [B] at hr'
    cases hr'
   ·-- two allocations, each in its bN place
    have ck:∀{f:Option Bool},f=some true->f=some false->False:=fun h1 h2=>by rw[h1]at h2; cases h2
    rcases Gy hai hi (fun d=>(si.2.2.1 hai htw d).1)with⟨wi',rfl,O⟩|⟨wi',X,yi,xi,ni,z2,O⟩
    ·subst O
     refine⟨g,(gO V ej rfl).1 J,toJ rfl,?_,⟨fun _ A _=>rfl,fun q=>(by rw[z]at q; cases q),fun _ _ _=>⟨rfl,fun _ h=>(h rfl).elim⟩,fun F=>(by rw[oH hai]at F; cases F)⟩⟩;unfold Yields;rw[wi,wi'];exact⟨rfl,rfl⟩
    ·rcases Gy haj J (fun d => (sj.2.2.1 haj htw d).1) with ⟨wj', rfl, e2⟩ | ⟨wj', t, yj, xj, nj, y2, e2⟩
     ·have Y : g = I := e2
      subst Y;refine⟨s.H,?_,⟨fun _ A _=>rfl,fun q=>(by rw[B]at q; cases q),fun _ _ _=>⟨rfl,fun _ h=>(h rfl).elim⟩,fun F=>(by rw[oH haj]at F; cases F)⟩,(gO (s1:=s.put k.dst (.tuple []) s.H) (s:=s) (wi s.H) (ei s.H) rfl).2 hi,toI rfl⟩;unfold Yields;rw[V]at wj';rw[wj'];exact⟨rfl,rfl⟩
     ·have Y : g = I.set t xj := e2
      have y2':I[t]? = some yj:=y2;have hne:t≠X:=by
       intro e;subst e;rw[O,bK (aX z2)]at y2';exact jk.ne ni nj (iA y2')
      have y2s:s.H[t]? = some yj:=by rw[O,bc (Ne.symm hne)]at y2'; exact y2'
      have wjs:cr af s.fr k=some true:=by rw[<-V]; exact wj'
      have hjj:∀ A,kept W j A->A≠t:=by
       intro A N e;subst e;have h:=sj.1 B A N;have h':g[A]? = I[A]? := h;rw[Y,bK (aX y2'),y2']at h';exact jk.ne nj nj (iA h')
      have hii:∀ A,kept W i A->A≠X:=by
       intro A N e;subst e;have h:=si.1 z A N;rw[O,bK (aX z2),z2]at h;exact jk.ne ni ni (iA h)
      have hcomm:g=(s.H.set t xj).set X xi:=by rw[Y,O,nr _ _ (Ne.symm hne)]
      refine⟨s.H.set t xj,Gz wjs nj y2s,⟨fun _ A N=>bc (Ne.symm (hjj A N)),fun q=>(by rw[B]at q; cases q),fun _ _ _=>⟨by simp,fun id hne=>?_⟩,fun F=>(by rw[oH haj]at F; cases F)⟩,?_,
       ⟨fun _ A N=>?_,fun q=>(by rw[z]at q; cases q),fun _ _ _=>⟨?_,fun id hne=>?_⟩,fun F=>(by rw[oH hai]at F; cases F)⟩⟩
      ·have e : id = t := sC fun e => hne (bc (Ne.symm e))
       subst e;refine(sj.2.2.1 haj htw wj').2 id ?_;show g[id]? ≠ I[id]?
       rw[Y,bK (aX y2'),y2'];exact fun e=>jk.ne nj nj (iA e)
      ·rw [hcomm]
       refine Gz (s:=s.put k.dst u (s.H.set t xj)) (by rw[wi]; exact wi') ni ?_;show (s.H.set t _)[X]? = _
       rw[bc hne];exact z2
      ·show g[A]? = (s.H.set t _)[A]?
       rw[hcomm,bc (Ne.symm (hii A N))]
      ·show g.length = (s.H.set t _).length
       rw[hcomm];simp
      ·have e:id=X:=sC fun e=>hne (by
        show g[id]? = (s.H.set t _)[id]?
        rw[hcomm,bc (Ne.symm e)])
       subst e;refine(si.2.2.1 hai htw wi').2 id ?_;rw[O,bK (aX z2),z2];exact fun e=>jk.ne ni ni (iA e)
   ·-- a call, and an allocation in a place that it does not touch
    have hih:my af=true:=Vl hvi;rcases L2 haj J (fun d=>(sj.2.2.1 (vr haj) hih d).1)with⟨wj',rfl,e2⟩|⟨wj',tj,t,zj,yj,xj,mj,oj',y1,y2,y3,e2⟩
    ·have Y : g = I := e2
     subst Y;refine⟨s.H,?_,⟨fun _ A _=>rfl,fun q=>(by rw[B]at q; cases q),fun _ _ _=>⟨rfl,fun _ h=>(h rfl).elim⟩,fun F=>(by rw[oH (vr haj)]at F; cases F)⟩,(gO (s1:=s.put k.dst (.tuple []) s.H) (s:=s) (wi s.H) (ei s.H) rfl).2 hi,toI rfl⟩;unfold Yields;rw[V]at wj';rw[wj'];exact⟨rfl,rfl⟩
    ·have Y : g = I.set t xj := e2
     have y2':I[t]? = some yj:=y2;obtain⟨e,he,hej,U⟩:=(sj.2.2.1 (vr haj) hih wj').2 t (by
      show g[t]? ≠ I[t]?
      rw[Y,bK (aX y2'),y2'];exact fun e=>y3.full y3.hole (iA e))
     have hk:=hap e he hej t U;have y2s:s.H[t]? = some yj:=by rw[<-si.1 z t hk]; exact y2'
     have wjs:cr af s.fr k=some true:=by rw[<-V]; exact wj'
     have hjj:∀ A,kept W j A->A≠t:=by
      intro A N e;subst e;have h:=sj.1 B A N;have h':g[A]? = I[A]? := h;rw[Y,bK (aX y2'),y2']at h';exact y3.full y3.hole (iA h')
     have hfill:BV W i s.H [(t,xj)]:=by
      intro p hp;rw[List.mem_singleton.1 hp];exact⟨hk,yj,y2s,y3.hole⟩
     have hcall:Yields P pf af w ⟨s.fr,s.H.set t xj⟩ v g/\(cr af s.fr w=some true->∀ σ,BV W i (s.H.set t xj) σ->Yields P pf af w ⟨s.fr,mA σ (s.H.set t xj)⟩ v (mA σ g)):=by
      cases d:cr af s.fr w with
      | none =>
       unfold Yields at hi;rw[d]at hi;exact hi.elim
      | some b =>
       cases b with
       | false =>
        refine⟨?_,fun h=>by cases h⟩;unfold Yields at hi|-;rw[d]at hi;rw[show cr af (St.mk s.fr (s.H.set t xj)).fr w=some false from d];refine⟨hi.1,?_⟩;show g=s.H.set t _
        rw[Y,hi.2]
       | true =>
        have h4:=si.2.2.2 hvi z d;refine⟨?_,fun _ σ hσ=>?_⟩
        ·have := h4 _ hfill
         rw[Y];exact this
        ·have:=h4 ((t,xj)::σ) (by
          intro p hp;rcases List.mem_cons.1 hp with rfl|hp
          ·exact hfill _ cZ
          ·obtain ⟨a2, y, a3, a4⟩ := hσ p hp
           refine⟨a2,y,?_,a4⟩;have hne:p.1≠t:=fun e=>by
            rw[e,bK (aX y2s)]at a3;exact y3.full a4 (iA a3)
           rwa [bc (Ne.symm hne)]at a3)
         rw[Y];exact this
     refine⟨s.H.set t xj,L3 wjs oj' y1 y2s y3,⟨fun _ A N=>bc (Ne.symm (hjj A N)),fun q=>(by rw[B]at q; cases q),fun _ _ _=>⟨by simp,fun id hne=>?_⟩,fun F=>(by rw[oH (vr haj)]at F; cases F)⟩,fri (H1:=s.H.set t xj) hcall.1,
      ⟨fun _ A N=>?_,fun q=>(by rw[z]at q; cases q),fun ha=>(by rw[oH ha]at hvi; cases hvi),fun _ _ hwa σ hσ=>fri (H1:=s.H.set t xj) (hcall.2 (by rw[wi]at hwa; exact hwa) σ hσ)⟩⟩
     ·have e : id = t := sC fun e => hne (bc (Ne.symm e))
      subst e;exact⟨_,he,hej,U⟩
     ·show g[A]? = (s.H.set t _)[A]?
      have h1:I[A]? = s.H[A]? := si.1 z A N;by_cases e:A=t
      ·subst e
       rw[Y,bK (aX y2'),bK (aX y2s)]
      ·rw[Y,bc (Ne.symm e),bc (Ne.symm e),h1]
   ·-- an allocation in its place, and an operation that does not touch it
    rcases Gy hai hi (fun d=>(si.2.2.1 hai htw d).1)with⟨wi',rfl,O⟩|⟨wi',X,yi,xi,ni,z2,O⟩
    ·subst O
     refine⟨g,(gO V ej rfl).1 J,toJ rfl,?_,⟨fun _ A _=>rfl,fun q=>(by rw[z]at q; cases q),fun _ _ _=>⟨rfl,fun _ h=>(h rfl).elim⟩,fun F=>(by rw[oH hai]at F; cases F)⟩⟩;unfold Yields;rw[wi,wi'];exact⟨rfl,rfl⟩
    ·have hii:∀ A,kept W i A->A≠X:=by
      intro A N e;subst e;have h:=si.1 z A N;rw[O,bK (aX z2),z2]at h;exact jk.ne ni ni (iA h)
     obtain⟨e,he,hei,U⟩:=(si.2.2.1 hai htw wi').2 X (by
      rw[O,bK (aX z2),z2];exact fun e=>jk.ne ni ni (iA e))
     have hk:kept W j X:=hap e he hei X U;have hHi:I[X]? = some xi:=by rw[O,bK (aX z2)]
     have hjk:g[X]? = some xi:=by rw[sj.1 B X hk]; exact hHi
     have hback:∃ H1,Yields P pf af k s u H1/\g=H1.set X xi/\H1[X]? = some yi:=by
      cases d:cr af s.fr k with
      | none =>
       unfold Yields at J;rw[V,d]at J;exact J.elim
      | some b =>
       cases b with
       | false =>
        unfold Yields at J;rw[V,d]at J;refine⟨s.H,?_,?_,z2⟩
        ·unfold Yields
         rw[d];exact⟨J.1,rfl⟩
        ·rw [J.2]
         exact O
       | true =>
        have h1:=Vv hqj J (by rw[V]; exact d);have h2:du P s.eval (s.H.set X xi) k.op=some (u,g):=by
         rw[<-O];have:=LC (P:=P) (H:=I) k.op ej;rw[<-this];exact h1
        obtain⟨H1,g1,g2,g3⟩:=Vu hqj z2 ni.no h2 hjk;refine⟨H1,?_,g2,g3⟩;unfold Yields;simp only[d,B];exact .inl (.inl g1)
     obtain⟨H1,q1,q2,q3⟩:=hback;refine⟨H1,q1,⟨fun _ A N=>?_,fun q=>(by rw[B]at q; cases q),fun ha=>(by rw[Vj hqj]at ha; cases ha),fun F=>(by rw[Vk hqj]at F; cases F)⟩,?_,⟨fun _ A N=>?_,fun q=>(by rw[z]at q; cases q),fun _ _ _=>⟨?_,fun id hne=>?_⟩,fun F=>(by rw[oH hai]at F; cases F)⟩⟩
     ·by_cases hA2 : A = X
      ·rw[hA2,q3,z2]
      ·have h3 : g[A]? = I[A]? := sj.1 B A N
       rw[q2,bc (Ne.symm hA2),O,bc (Ne.symm hA2)]at h3;exact h3
     ·rw [q2]
      exact Gz (s:=s.put k.dst u H1) (by rw[wi]; exact wi') ni q3
     ·show g[A]? = H1[A]?
      rw[q2,bc (Ne.symm (hii A N))]
     ·show g.length = H1.length
      rw[q2];simp
     ·have e2:id=X:=sC fun e2=>hne (by
       show g[id]? = H1[id]?
       rw[q2,bc (Ne.symm e2)])
      subst e2;exact⟨e,he,hei,U⟩
def xZ(P:ai)(pf:bC->Bool)(af:Array aQ)(R:kr)(W:jG)(i:Nat)(K:St->Prop)(s:St):Prop :=
 match af[i]? with
 |none=>K s
 |some o=>∃ v H',Yields P pf af o s v H'/\Step P pf af R W i o s v H'/\K (s.put o.dst v H')
def x2(P:ai)(pf:bC->Bool)(af:Array aQ)(R:kr)(W:jG)(s':St):Nat->Array Bool->St->Prop
 |0,a,s=>nt .any af a=[]/\s=s'
 |b+1,a,s=>(nt .any af a=[]->s=s')/\∀ i∈nt .any af a,xZ P pf af R W i (x2 P pf af R W s' b (a.setIfInBounds i true)) s
theorem GA{R:kr}{W:jG}{s':St}:∀(a:Nat) (d:Array Bool) (s:St),x2 P pf af R W s' a d s->vo P pf af s' a d s
 |0,_,_,h=>h
 | a+1,d,s,h=>by
  refine⟨h.1,fun i hi=>?_⟩;have b:=h.2 i hi;unfold xZ at b;unfold vn;cases g:af[i]? with
  |none=>rw[g]at b; exact GA a _ _ b
  | some o =>
   rw[g]at b;obtain⟨v,H',k,_,q⟩:=b;exact⟨v,H',k,GA a _ _ q⟩
theorem Vx{R:kr}{W:jG}{s':St}{i:Nat}{d:aQ}(hi:af[i]? = some d):∀(w:Nat) (a:Array Bool) (s:St) (v:AV) (H':List ah),s9 af a ->
  (∀ j g,af[j]? = some g->j≠i->a.getD j true=false->waits af af.size j i=false->d.apart af g=true/\g.apart af d=true/\BW pf af R W i d j g) ->
  i∈nt .any af a->Yields P pf af d s v H'->Step P pf af R W i d s v H'->x2 P pf af R W s' w (a.setIfInBounds i true) (s.put d.dst v H')->x2 P pf af R W s' (w+1) a s:=by
 intro w
 induction w with
 | zero =>
  intro a s v H' _ _ q z y H;refine⟨fun h=>(by rw[h]at q; cases q),fun j t=>?_⟩;by_cases b:j=i
  ·subst b
   unfold xZ;simp only[hi];exact⟨v,H',z,y,H⟩
  ·have := ready_mono t b
   rw[H.1]at this;cases this
 | succ w ih =>
  intro a s v H' J F q z y H;refine⟨fun h=>(by rw[h]at q; cases q),fun j t=>?_⟩;by_cases b:j=i
  ·subst b
   unfold xZ;simp only[hi];exact⟨v,H',z,y,H⟩
  ·have B := H.2 j (ready_mono t b)
   obtain⟨I,g,M,hall⟩:=mem_ready.1 t;unfold xZ at B|-;simp only[M]at B|-;obtain⟨u,U,Y,hsj,X⟩:=B;have hnw:waits af af.size j i=false:=by
    cases hw:waits af af.size j i with
    |false=>rfl
    | true =>
     have:=Gr J _ _ _ (Gs t) hw;rw[LJ q]at this;cases this
   obtain⟨V,a2,a3⟩:=F j g M b I hnw;obtain⟨A,q1,q2,q3,q4⟩:=Vw V a2 a3 z y Y hsj;refine⟨u,A,q1,q2,?_⟩;refine ih (a.setIfInBounds j true) (s.put g.dst u A) v U (BO J t) ?_ (ready_mono q (Ne.symm b)) q3 q4 ?_
   ·intro k ok hk hki N hno
    refine F k ok hk hki ?_ hno;by_cases O:j=k
    ·subst O; exact I
    ·rw[getD_set_ne true O]at N; exact N
   ·rw [aj1 _ _ b]
    have:=LI s d.dst g.dst v u H' U A (J4 V).2.1;rw[<-this];exact X
def vt(P:ai)(pf:bC->Bool)(af:Array aQ)(R:kr)(W:jG):List aQ->Nat->St->St->Prop
 | [],_,s,s'=>s=s'
 |o::l,j,s,s'=>∃ v H',Yields P pf af o s v H'/\Step P pf af R W j o s v H'/\vt P pf af R W l (j+1) (s.put o.dst v H') s'
def GB(pf:bC->Bool)(x y:aQ):Bool :=
 pR pf x y||((match db pf x.op,db pf y.op with
  |.read,.write=>true
  |.write,.read=>true
  |_,_=>false)||((fm x.op&&fm y.op)||((match db pf x.op with
  |.write=>tb x.op&&isVar y.op
  |_=>false)||(fm x.op&&ku y.op))))
theorem Vy{i j:Nat}{x y:aQ}(hi:af[i]? = some x)(a:af[j]? = some y)(b:i<j)(d:waits af af.size j i=false)(g:fm x.op=true)(h:fm y.op=true):Gw af=true:=by
 unfold Gw;refine mh.2 ⟨j,ke.2 (je.1 a).1,mh.2 ⟨i,ke.2 b,?_⟩⟩;rw[hi,a];simp[g,h,d]
theorem Vz{i j:Nat}{x y:aQ}(hi:af[i]? = some x)(a:af[j]? = some y)(b:i<j)(d:waits af af.size j i=false)(g:fm x.op=true)(h:ku y.op=true):Gx af=true:=by
 unfold Gx;refine mh.2 ⟨j,ke.2 (je.1 a).1,mh.2 ⟨i,ke.2 b,?_⟩⟩;rw[hi,a];simp[g,h,d]
theorem VA{i j:Nat}{x y:aQ}(hi:af[i]? = some x)(a:af[j]? = some y)(b:i<j)(d:waits af af.size j i=false)(g:tb x.op=true)(h:isVar y.op=true):BT af=true:=by
 unfold BT;refine mh.2 ⟨j,ke.2 (je.1 a).1,mh.2 ⟨i,ke.2 b,?_⟩⟩;rw[hi,a];simp[g,h,d]
def GC(pf:bC->Bool)(af:Array aQ)(x y:aQ):Bool:=match db pf x.op with
 |.write=>nN x.op&&(isVar y.op&&my af)
 |_=>false
def vu(pf:bC->Bool)(af:Array aQ):Bool :=
  aj0 af &&
  (jc af.size).all fun j=>(match af[j]? with
    | some a=>(a.after.toList.all fun e => !J3 .any e||e.on<j) &&
      ((jc j).all fun i => match af[i]? with
        |some b=>waits af af.size j i||(b.apart af a&&a.apart af b&&(GB pf b a||GC pf af b a))
        |none=>true)
    |none=>true)
def tc(af:Array aQ)(R:kr)(W:jG):Prop:=(∀ i id,(i,id)∈R->∀ e∈W,(i<e.1->waits af af.size e.1 i=false->id∉e.2.1/\id<e.2.2)/\(e.1<i->waits af af.size i e.1=false->id∉e.2.1/\id<e.2.2)) /\
 (∀ e∈W,∀ a∈W,e.1<a.1->waits af af.size a.1 e.1=false->∀ id∈a.2.1,id∉e.2.1/\id<e.2.2) /\
 ∀ e∈W,∀ a∈W,e.1<a.1->waits af af.size a.1 e.1=false->∀ id∈e.2.1,id<a.2.2
theorem VB{R:kr}{W:jG}(k:tc af R W){i j:Nat}{x y:aQ}(hi:af[i]? = some x)(h:af[j]? = some y)(b:i<j)(g:waits af af.size j i=false)(a:GB pf x y=true):BW pf af R W i x j y:=by
 unfold GB at a;simp only[nu]at a;rcases a with a|a|a|a|a
 ·exact .inl a
 ·split at a
  ·rename_i q A
   refine .inr (.inl ⟨q,A,fun id d e he h=>?_⟩);subst h;exact(k.1 i id d e he).1 b g
  ·rename_i q A
   refine .inr (.inr (.inl ⟨q,A,fun id d e he h=>?_⟩));subst h;exact(k.1 j id d e he).2 b g
  ·cases a
 ·simp only [aE] at a
  refine .inr (.inr (.inr (.inl ⟨a.1,a.2,?_⟩)));unfold my;rw[Vy hi h b g a.1 a.2];rfl
 ·split at a
  ·rename_i q
   simp only[aE]at a;refine .inr (.inr (.inr (.inr (.inl ⟨q,by unfold mz; rw[a.1,VA hi h b g a.1 a.2]; rfl,a.2,fun e he w id d v t z=>?_⟩))));subst w z;exact k.2.1 v t e he b g id d
  ·cases a
 ·simp only [aE] at a
  refine .inr (.inr (.inr (.inr (.inr ⟨a.1,a.2,?_,fun e he z id d v t w=>?_⟩))))
  ·unfold my
   rw[Vz hi h b g a.1 a.2];simp
  ·subst z w
   exact⟨fun hm=>(k.2.1 e he v t b g id hm).1 d,k.2.2 e he v t b g id d⟩
theorem VC{R:kr}{W:jG}(q:tc af R W){i j:Nat}{x y:aQ}(b:i<j)(t:waits af af.size j i=false)(a:GC pf af x y=true):BW pf af R W i x j y:=by
 unfold GC at a;split at a
 ·rename_i v
  simp only[aE]at a;refine .inr (.inr (.inr (.inr (.inl ⟨v,by unfold mz; rw[a.1,a.2.2]; simp,a.2.1,fun e he d id g w h k=>?_⟩))));subst d k;exact q.2.1 w h e he b t id g
 ·cases a
theorem L4{R:kr}{W:jG}{s':St}(N:vu pf af=true)(F:tc af R W):∀(l:List aQ) (k:Nat) (a:Array Bool) (s:St),l=af.toList.drop k->s9 af a->a.size=af.size ->
  (∀ j,j<af.size->(a.getD j true=false↔k<=j))->vt P pf af R W l k s s'->x2 P pf af R W s' l.length a s
 | [],k,a,s,z,_,J,g,h=>by
  simp only[vt]at h;refine⟨?_,h⟩;apply aj2.2;intro j q;obtain⟨b,o,ho,_⟩:=mem_ready.1 q;have y:j<af.size:=(je.1 ho).1;have:=(g j y).1 b;have X:(af.toList.drop k).length=0:=by rw[<-z]; rfl
  simp at X;omega
 | o::l,k,a,s,z,M,J,g,h=>by
  obtain⟨v,H',hy,Y,V⟩:=h;have b:af[k]? = some o:=by
   have:(af.toList.drop k)[0]? = some o:=by rw[<-z]; rfl
   simpa using this
  have y:k<af.size:=(je.1 b).1;simp only[vu,aE,cq,ke]at N;obtain⟨_,A⟩:=N;have U:∀ j,j<k->a.getD j false=true:=by
   intro j q;have O:¬ (a.getD j true=false):=fun e=>by have:=(g j (by omega)).1 e; omega
   have:j<a.size:=by omega
   simp[this]at O|-;exact O
  have I:k∈nt .any af a:=by
   refine mem_ready.2 ⟨(g k y).2 (aY _),o,b,fun e he hb=>?_⟩;have:=A k y;rw[b]at this;simp only[aE,cq]at this;have d:=this.1 e (by simpa using he);simp only[hb,AS,iz,dT]at d;exact U e.on d
  refine Vx b l.length a s v H' M ?_ I hy Y ?_
  ·intro j oj q hjk hun B
   have w:j<af.size:=(je.1 q).1;have hkj:k<=j:=(g j w).1 hun;have:=A j w;rw[q]at this;simp only[aE,cq,ke]at this;have d:=this.2 k (by omega);rw[b]at d;simp only[B,iz,aE]at d;exact⟨d.1.1,d.1.2,by
    have t:=d.2;rw[nu]at t;rcases t with t|t
    ·exact VB F b q (by omega) B t
    ·exact VC F (by omega) B t⟩
  ·refine L4 (by simp only [vu, aE, cq, ke]; exact ⟨‹_›, A⟩) F l (k + 1) _ _ ?_ (BO M I) (by simpa using J) ?_ V
   ·rw[<-pq,<-z]; rfl
   ·intro j w
    by_cases e:k=j
    ·subst e
     have:k<a.size:=by omega
     simp[this]
    ·rw [getD_set_ne true e, g j w]
     omega
theorem VD{R:kr}{W:jG}{id:Nat}{s s':St}{E:ae}{a:Act}{Q:Exit->Act->a6->Prop}(hm:P.follows .mixedOrders=true)(t:vu pf af=true)(v:tc af R W)(b:c9 s E a)
  (h:vt P pf af R W af.toList 0 s s') (y:∀ d w',fT E s' d w'->Q .normal d w'):∀ k:Option Nat,(Code.region id af true).wpIn (fz k) 0 P Q a E.w:=by
 intro k;have q:c9 s { E with w:={ E.w with drawn:=E.w.drawn+1 } } a:=⟨b.H,dX (ae.iE (Ext.drawn E.w _)) _ b.fr,FB b.heap (ae.iE (Ext.drawn E.w _)) b.defers,b.heap.ext (Ext.drawn E.w _)⟩
 refine wpIn_region_any hm (BM (pf:=pf) _ _ s { E with w:={ E.w with drawn:=E.w.drawn+1 } } a q ?_ (fun d w' z=>y d w' (fT.after (ae.iE (Ext.drawn E.w _)) z)) k);have:=GA _ _ _ (L4 (P:=P) (s':=s') t v af.toList 0 (pz af.size false) s (by simp) (by
  intro j g;exfalso;rcases kJ j af.size with h'|h'
  ·simp[h']at g
  ·simp[E_ (xs:=pz af.size false) (by simpa using h')]at g) (by simp) (by intro j g; simp[g]) h)
 simpa using this
end Go.AL
