/-
 What is proved here: every operation that the logic knows,put together,with calls; what an operation leaves. No program in sight; no condition.
-/
import Derived.Test.YtbogdflhnhohfaaGreatDoorMAB
set_option linter.all false
open Array renaming ext'->jo,getElem?_eq_some_iff->mu,getElem?_eq_none->KZ,setIfInBounds_comm->amo,replicate->u3
open Bool renaming and_eq_true->aK,not_true->yp,or_eq_true->uY,false_or->uZ
open Classical renaming byContradiction->amq
open Decidable renaming byContradiction->F1
open Function renaming comp_def->Vp
open Go renaming Value->ao,FuncId->bP,TypeId->aF,World->a_,Program->aj,Operand->cw,Oper->aU
open Go.Builtin renaming len_->Vo
open Go.Call renaming operands->uX
open Go.Op renaming operands->fg
open Go.Oper renaming wpIn->sY,semAt_eq->sZ,apart_spec->KY
open Go.Region renaming wanted->Vq,binds->KX,noSelect->amn,ready->od
open Go.Result renaming andThen_ok->cf
open Go.Sem renaming run_bind->cr,run_pure->ft
open Go.Value.slice renaming injEq->mq
open List renaming length_cons->cn,getElem?_append_left->di,getElem?_set_self->bB,getElem?_set_ne->bg,all_eq_true->dN,drop_drop->sU,map_map->n9,replicate->cB,mem_cons_self->cX,nodup_cons->pW,set_comm->oc,set_append_left->BP,range->fo,map_congr_left->nc,any_eq_true->lG,eq_nil_iff_forall_not_mem->amp,mem_range->gH
open Nat renaming le_refl->aM,lt_of_lt_of_le->eU,lt_or_ge->mo
open Option renaming map_some->ff
open Option.some renaming injEq->bf,inj->g_
namespace Go.AL
open Go
variable [Dr]
def Cy(x:cw):Bool:=x matches .const _
def G1:AV->AV->Option AV
 |.lit (.int k a),.lit (.int _ b)=>some (.lit (.int k (if b>a then b else a)))
 |_,_=>none
def G2:AV->AV->Option AV
 |.lit (.int k a),.lit (.int _ b)=>some (.lit (.int k (if b<a then b else a)))
 |_,_=>none
def vG(f:AV->AV->Option AV):AV->List AV->Option AV
 |x,[]=>some x
 | x,y::l=>match f x y with
  |some z=>vG f z l
  |none=>none
def W6:List AV->Option AV
 | []=>none
 |x::d=>vG G1 x d
def W7:List AV->Option AV
 | []=>none
 |x::d=>vG G2 x d
def G3(k:SK)(x:AV):Option AV :=
 match k,x with
 |.str,.lit (.string s)=>some (.int s.size)
 |.slice _ _ _,.lit (.string _)=>none
 | .slice _ _ _,x=>match B9 x with
  |some n=>some (.int n)
  |none=>none
 |_,_=>none
def G4(P:aj)(b:Builtin)(jv:List aF)(args:List AV):Option AV :=
 match b with
 | .len=>match jv[0]?,args[0]? with
  |some t,some x=>G3 (cZ P t) x
  |_,_=>none
 |.max=>W6 args
 |.min=>W7 args
 | .cap=>match jv,args with
  | t::_,.lit (.slice none 0 0)::_=>match cZ P t with
   |.slice _ _ _=>some (.int 0)
   |_=>none
  |_,_=>none
 |_=>none
def G5(r:cw->AV)(fn:Fn)(first caps:Array cw):Option AV :=
 match fn with
 |.func f=>if first.toList.isEmpty then some (.clo f (caps.toList.map r)) else none
 |_=>none
def G6(P:aj)(r:cw->AV)(c:Call):Option AV :=
 match c.callee with
 |.builtin b=>G4 P b c.argTypes.toList (c.args.toList.map r)
 |_=>none
def j7(P:aj)(r:cw->AV):Op->Option AV
 |.move x | .assign x=>some (r x)
 | .pick c a b=>match r c with
  |.lit (.bool t)=>some (bif t then r a else r b)
  |_=>none
 | .extract t i=>match r t with
  |.tuple h=>h[i]?
  |_=>none
 | .field t x f=>match vg P t f with
  |some k=>Gx k (r x)
  |none=>none
 | .fieldAddr t x f=>match vg P t f with
  |some k=>Gl k (r x)
  |none=>none
 |.indexAddr t x i=>ku (cZ P t) (r x) (r i)
 |.index t x i=>q9 (cZ P t) (r x) (r i)
 |.binOp op t x y _=>lM P op t (Cy x||Cy y) (r x) (r y)
 |.unOp op _ x=>vq op (r x)
 |.convert s d x=>vr P s d (r x)
 |.build t parts=>Gy P t (parts.toList.map fun p=>(p.1,r p.2))
 |.buildSlice t n parts=>vz P t n (parts.toList.map fun p=>(p.1,r p.2))
 |.slice t x lo hi mx=>ot P t (r x) (lo.map r) (hi.map r) (mx.map r)
 |.makeFunc fn first caps=>G5 r fn first caps
 | .nilCheck x=>match r x with
  |.ptr id al k row g=>some (.ptr id al k row g)
  |.cptr cells=>some (.cptr cells)
  |.clo f caps=>some (.clo f caps)
  |_=>none
 | .makeInterface t _=>match P.underlying t with
  |some (.interface _)=>none
  |some _=>some .ifc
  |none=>none
 |.call c=>G6 P r c
 |_=>none
def tC{E:af}{r:cw->AV}{ρ:cw->ao}(h:∀ x,ad E (r x) (ρ x)):∀(l:List cw),ax E (l.map r) (l.map ρ)
 | []=>by simp[ax]
 |x::l=>by simp only[List.map_cons,ax]; exact⟨h x,tC h l⟩
def G7{E:af}{r:cw->AV}{ρ:cw->ao}(h:∀ x,ad E (r x) (ρ x))(o:Option cw):qY E (o.map r) (o.map ρ):=by
 cases o with
 |none=>simp[qY]
 |some x=>simpa[qY]using h x
def jx(E:af)(v:AV)(u:ao)(w':a_):Prop:=Ext E.w w'/\ad { E with w:=w' } v u
def jx.same{E:af}{v:AV}{u:ao}(h:ad E v u):jx E v u E.w:=⟨Ext.refl _,h⟩
def nr{P:aj}{s:Sem ao}{w w':a_}{u:ao}(h:s.run P w=.ok u w'):(do pure (Next.value (<- s)):Sem Next).run P w=.ok (.value u) w':=by
 simp[h]
def G8{P:aj}{E:af}{f:AV->AV->Option AV}{g:ao->ao->Sem ao}
  (M:∀ x y c d z,f x y=some z->ad E x c->ad E y d->∃ u,(g c d).run P E.w=.ok u E.w/\ad E z u) :
  ∀(q:List AV) (x:AV) (c:ao) (cs:List ao) (v:AV),ad E x c->ax E q cs->vG f x q=some v ->
   ∃ u,(cs.foldlM g c).run P E.w=.ok u E.w/\ad E v u
 | [],x,c,cs,v,I,k,h=>by
  cases cs with
  |nil=>simp[vG]at h; subst h; exact⟨c,rfl,I⟩
  |cons _ _=>simp[ax]at k
 | y::q,x,c,cs,v,I,k,h=>by
  cases cs with
  |nil=>simp[ax]at k
  | cons d cs =>
   simp only[ax]at k;simp only[vG]at h;split at h
   ·rename_i z N
    obtain⟨u,O,U⟩:=M x y c d z N I k.1;obtain⟨V,W,g4⟩:=G8 M q z u cs v U k.2 h;exact⟨V,by simp only[List.foldlM_cons,cr,O,cf]; exact W,g4⟩
   ·cases h
def W8{P:aj}{E:af}(x y:AV)(c d:ao)(z:AV)(h:G1 x y=some z)(g:ad E x c)(k:ad E y d) :
  ∃ u,(Builtin.max2 c d).run P E.w=.ok u E.w/\ad E z u:=by
 unfold G1 at h;split at h
 ·cases h
  simp only[ad]at g k;subst g; subst k;exact⟨_,rfl,by simp[ad]⟩
 ·cases h
def W9{P:aj}{E:af}(x y:AV)(c d:ao)(z:AV)(h:G2 x y=some z)(g:ad E x c)(k:ad E y d) :
  ∃ u,(Builtin.min2 c d).run P E.w=.ok u E.w/\ad E z u:=by
 unfold G2 at h;split at h
 ·cases h
  simp only[ad]at g k;subst g; subst k;exact⟨_,rfl,by simp[ad]⟩
 ·cases h
def W_{P:aj}{E:af}{b:Builtin}{jv:Array aF}{ty:aF}{consts:Array Bool}{args:List AV}{cargs:Array ao}{v:AV}
  (h:G4 P b jv.toList args=some v) (d:ax E args cargs.toList):∃ u,(builtin b jv ty consts cargs).run P E.w=.ok (.value u) E.w/\ad E v u:=by
 cases b<;>simp only[G4]at h<;>try cases h
 case len =>
  split at h
  case h_2=>cases h
  rename_i t x N hx;obtain⟨c,O,g⟩:=qa d hx;have q:jv[0]? = some t:=by simpa using N
  have y:cargs[0]? = some c:=by simpa using O
  unfold G3 at h;split at h
  ·rename_i s k
   cases h;simp only[ad]at g;subst g;refine⟨goInt s.size,?_,by simp[ad,goInt]⟩;simp[builtin,Vo,q,y,Sem.bF (te k)]
  ·cases h
  ·rename_i e sz by_ k hns
   split at h
   ·rename_i n I
    cases h;obtain⟨U,_⟩:=jq k;rcases VP I g with⟨s,rfl,_⟩|⟨aN,cap,rfl⟩
    ·exfalso
     unfold B9 at I;split at I
     ·rename_i s'
      exact hns s' rfl
     all_goals first
      |(simp[ad,fp]at g; done)
      |cases I
    ·refine ⟨goInt n, ?_, by simp [ad, goInt]⟩
     simp[builtin,Vo,q,y,Sem.bF U]
   ·cases h
  ·cases h
 case max =>
  cases args with
  |nil=>cases h
  | cons x M =>
   cases bT:cargs.toList with
   |nil=>rw[bT]at d; simp[ax]at d
   | cons c cs =>
    rw[bT]at d;simp only[ax]at d;obtain⟨u,V,W⟩:=G8 (P:=P) W8 M x c cs v d.1 d.2 h;refine⟨u,?_,W⟩;simp[builtin,Builtin.max_,bT,V]
 case min =>
  cases args with
  |nil=>cases h
  | cons x M =>
   cases bT:cargs.toList with
   |nil=>rw[bT]at d; simp[ax]at d
   | cons c cs =>
    rw[bT]at d;simp only[ax]at d;obtain⟨u,V,W⟩:=G8 (P:=P) W9 M x c cs v d.1 d.2 h;refine⟨u,?_,W⟩;simp[builtin,Builtin.min_,bT,V]
 case cap =>
  split at h
  case h_2=>cases h
  rename_i t ts as N;obtain⟨c,O,g⟩:=qa (i:=0) d rfl;have q:jv[0]? = some t:=by
   have:jv.toList[0]? = some t:=by rw[N]; rfl
   simpa using this
  have y:cargs[0]? = some c:=by simpa using O
  simp only[ad]at g;subst g;split at h
  ·rename_i e sz by_ k
   cases h;obtain⟨U,_⟩:=jq k;refine⟨goInt 0,?_,by simp[ad,goInt]⟩;simp[builtin,Builtin.cap_,q,y,Sem.bF U]
  ·cases h
def Xa{P:aj}{E:af}(HE:aJ E){r:cw->AV}{ρ:cw->ao}(g:∀ x,ad E (r x) (ρ x)){o:aU}{v:AV}(h:j7 P r o.op=some v) :
  ∃ u w',(execOp ρ o).run P E.w=.ok (.value u) w'/\jx E v u w':=by
 obtain⟨dst,op,type,pos,after,guard⟩:=o;have same:∀{s:Sem ao},(∃ u,s.run P E.w=.ok u E.w/\ad E v u)->∃ u w',(do pure (Next.value (<- s)):Sem Next).run P E.w=.ok (.value u) w'/\jx E v u w':=by
  rintro s ⟨u,I,N⟩;exact⟨u,E.w,nr I,jx.same N⟩
 cases op<;>simp only[j7]at h<;>try cases h
 case move x=>exact⟨ρ x,E.w,rfl,jx.same (g x)⟩
 case assign x=>exact⟨ρ x,E.w,rfl,jx.same (g x)⟩
 case pick c a b =>
  split at h
  ·rename_i t V
   cases h;have M:=g c;rw[V]at M;simp only[ad]at M;refine⟨if t then ρ a else ρ b,E.w,?_,?_⟩
   ·simp[execOp,M,asBool]
   ·cases t
    ·exact jx.same (g b)
    ·exact jx.same (g a)
  ·cases h
 case build t parts =>
  obtain⟨u,I,N⟩:=V7 (E:=E) (cparts:=parts.toList.map fun p=>(p.1,ρ p.2)) h (by simp) (by
   simp only[n9];have:=tC g (parts.toList.map (·.2));simpa[n9,Vp]using this)
  have e:(parts.toList.map fun p=>(p.1,ρ p.2)).toArray=parts.map fun(i,x)=>(i,ρ x):=by
   apply jo; simp
  rw[e]at I;exact same ⟨u,I,N⟩
 case buildSlice t n parts =>
  obtain⟨u,w',I,N,g3⟩:=Wp HE (cparts:=parts.toList.map fun p=>(p.1,ρ p.2)) h (by simp) (by
   simp only[n9];have:=tC g (parts.toList.map (·.2));simpa[n9,Vp]using this)
  have e:(parts.toList.map fun p=>(p.1,ρ p.2)).toArray=parts.map fun(i,x)=>(i,ρ x):=by
   apply jo; simp
  rw[e]at I;exact⟨u,w',nr I,N,g3⟩
 case nilCheck x =>
  have q:=g x;split at h
  ·rename_i id al k row col he
   cases h;rw[he]at q;have O:=q;simp only[ad]at O;obtain⟨⟨b,o,M⟩,_⟩:=O;exact⟨ρ x,E.w,by simp[execOp,M],jx.same q⟩
  ·rename_i cells he
   cases h;rw[he]at q;have O:=q;simp only[ad]at O;obtain⟨_,b,o,M,_⟩:=O;exact⟨ρ x,E.w,by simp[execOp,M],jx.same q⟩
  ·rename_i f caps he
   cases h;rw[he]at q;have O:=q;simp only[ad]at O;obtain⟨cs,M,_⟩:=O;exact⟨ρ x,E.w,by simp[execOp,M],jx.same q⟩
  ·cases h
 case binOp op t x y _ =>
  refine same (V0 (x:=x) (y:=y) (fun U=>?_) h (g x) (g y));cases x<;>cases y<;>first|rfl|exact U
 case unOp op _ x=>exact same (V3 h (g x))
 case convert s d x=>exact same (V4 h (g x))
 case makeInterface t x =>
  split at h
  ·cases h
  ·rename_i d W hu
   cases h;refine same ⟨.iface t (ρ x),?_,by simp only[ad]; exact⟨_,_,rfl⟩⟩;simp only[Instr.makeInterface,cr,Sem.bF hu,cf];cases d<;>first|rfl|(exact(W _ hu).elim)|(exact(W _ rfl).elim)
  ·cases h
 case makeFunc fn first caps =>
  cases fn<;>simp only[G5]at h<;>try cases h
  rename_i f;split at h
  ·rename_i hf
   cases h;refine⟨.func (.func f) (first.map ρ) (caps.map ρ),E.w,rfl,jx.same ?_⟩;simp only[ad];refine⟨caps.map ρ,?_,by simpa using tC g caps.toList⟩;have:first=#[]:=by
    apply jo;simpa using hf
   simp[this]
  ·cases h
 case slice t x lo hi mx=>exact same (VV h (g x) (G7 g lo) (G7 g hi) (G7 g mx))
 case fieldAddr t x f =>
  split at h
  ·rename_i k U; exact same (VR U h (g x))
  ·cases h
 case field t x f =>
  split at h
  ·rename_i k U; exact same (V6 U h (g x))
  ·cases h
 case indexAddr t x i=>exact same (VS HE h (g x) (g i))
 case index t x i=>exact same (V5 h (g x) (g i))
 case extract t i =>
  split at h
  ·rename_i vs V
   have q:=g t;rw[V]at q;simp only[ad]at q;obtain⟨cs,M,hl⟩:=q;obtain⟨u,I,N⟩:=qa hl h;refine same ⟨u,?_,N⟩;have g1':cs[i]? = some u:=by simpa using I
   simp[Instr.extract,M,g1']
  ·cases h
 case call c =>
  obtain⟨callee,args,argTypes⟩:=c;cases callee<;>simp only[G6]at h<;>try cases h
  rename_i b;obtain⟨u,I,N⟩:=W_ (P:=P) (E:=E) (b:=b) (jv:=argTypes) (ty:=type) (consts:=args.map fun | .const _=>true|_=>false) (cargs:=args.map ρ) h
   (by simpa using tC g args.toList)
  exact⟨u,E.w,by simp only[execOp,resolve,cr,ft,cf,invoke]; exact I,jx.same N⟩
def Cz(P:aj)(r:cw->AV)(H:List ai)(c:Call):Option (AV × List ai) :=
 match c.callee with
 | .builtin .append=>match c.args.toList,c.argTypes.toList with
  | [s,x],[t,xt]=>match tq P t xt (r s) (r x) H with
   |some y=>some y
   |none=>vu P t xt (r s) (r x) H
  |_,_=>none
 | .builtin .clear=>match c.args.toList,c.argTypes.toList with
  | [x],[t]=>match yS P t (r x) H with
   |some H'=>some (.tuple [],H')
   |none=>none
  |_,_=>none
 | .builtin .delete=>match c.args.toList,c.argTypes.toList with
  | [x,k],t::_=>match yR P t (r x) (r k) H with
   |some H'=>some (.tuple [],H')
   |none=>none
  |_,_=>none
 |_=>none
def dD(P:aj)(r:cw->AV)(H:List ai):Op->Option (AV × List ai)
 |.alloc t=>th P t H
 |.box _ x=>Cn (r x) H
 | .store t a x=>match pj P t (r a) (r x) H with
  |some H'=>some (.undef,H')
  | none=>match tA P t (r a) (r x) H with
   |some H'=>some (.undef,H')
   | none=>match yX P t (r a) (r x) H with
    |some H'=>some (.undef,H')
    |none=>none
 |.makeSlice t l c=>yN P t (r l) (r c) H
 |.buildSlice t n parts=>yT P t n (parts.toList.map fun p=>(p.1,r p.2)) H
 |.range t x=>Cq P t (r x) H
 |.next it isString=>Cr (r it) isString H
 |.makeMap _ none=>some (.map H.length,H++[.map [] 0])
 | .mapUpdate t m k v=>match np P t (r m) (r k) (r v) H with
  |some H'=>some (.undef,H')
  | none=>match qf P t (r m) (r k) (r v) H with
   |some H'=>some (.undef,H')
   | none=>match tx P t (r m) (r k) (r v) H with
    |some H'=>some (.undef,H')
    | none=>match yZ P t (r m) (r k) (r v) H with
     |some H'=>some (.undef,H')
     |none=>none
 | .insert t m k v=>match np P t (r m) (r k) (r v) H with
  |some H'=>some (.undef,H')
  |none=>none
 | .lookup t m k false=>match ia P t (r m) (r k) false H with
  |some v=>some (v,H)
  | none=>match tu P t (r m) (r k) H with
   |some y=>some y
   |none=>yY P t (r m) (r k) H
 | .mapEntry t m k=>match kz P t (r m) (r k) H with
  |some y=>some y
  |none=>lN P t (r m) (r k) H
 | .entryStore _ m s x=>match nq (r m) (r s) (r x) H with
  |some H'=>some (.undef,H')
  | none=>match oA (r m) (r s) (r x) H with
   |some H'=>some (.undef,H')
   |none=>none
 |.call c=>Cz P r H c
 |_=>none
def dc.of_le{E:af}{w':a_}{H':List ai}(h1:aJ { w:=w',H:=H',ae:=E.ae,X:=E.X })(d:E.le { w:=w',H:=H',ae:=E.ae,X:=E.X })(u:ao) :
  dc E .undef H' u w':=⟨E.ae,E.X.r,by simp[ad],h1,d⟩
def jx.toOp{E:af}(HE:aJ E){v:AV}{u:ao}{w':a_}(h:jx E v u w'):dc E v E.H u w' :=
 ⟨E.ae,E.X.r,h.2,HE.ext h.1,af.lH h.1⟩
def Xb{P:aj}{E:af}(HE:aJ E){r:cw->AV}{ρ:cw->ao}(d:∀ x,ad E (r x) (ρ x)){o:aU}{v:AV}{H':List ai}
  (h:dD P r E.H o.op=some (v,H')) :
  ∃ n u w',(execOp ρ o).run P E.w=.ok n w'/\(n=.value u\/n=.skip/\u=undef)/\dc E v H' u w':=by
 obtain⟨dst,op,type,pos,after,guard⟩:=o;have same:∀{s:Sem ao},(∃ u w',s.run P E.w=.ok u w'/\dc E v H' u w') ->
   ∃ n u w',(do pure (Next.value (<- s)):Sem Next).run P E.w=.ok n w'/\(n=.value u\/n=.skip/\u=undef)/\dc E v H' u w':=by
  rintro s ⟨u,w',g,q⟩;exact⟨_,u,w',nr g,.inl rfl,q⟩
 cases op<;>simp only[dD]at h<;>try cases h
 case alloc t=>exact same (Wf HE h)
 case box t x=>exact same (Wl HE h (d x))
 case store t a x =>
  split at h
  ·rename_i H1 I
   cases h;obtain⟨w',g,q,M⟩:=LQ HE I (d a) (d x);exact⟨.skip,undef,w',by simp[execOp,g],.inr ⟨rfl,rfl⟩,dc.of_le q M _⟩
  ·split at h
   ·rename_i H1 I
    cases h;obtain⟨w',g,q,M⟩:=W0 HE I (d a) (d x);exact⟨.skip,undef,w',by simp[execOp,g],.inr ⟨rfl,rfl⟩,dc.of_le q M _⟩
   ·split at h
    ·rename_i H1 I
     cases h;obtain⟨w',g,q⟩:=W1 HE I (d a) (d x);exact⟨.skip,undef,w',by simp[execOp,g],.inr ⟨rfl,rfl⟩,q _⟩
    ·cases h
 case makeSlice t l c=>exact same (Wo HE h (d l) (d c))
 case buildSlice t n parts =>
  obtain⟨u,w',g,q⟩:=WC HE (cparts:=parts.toList.map fun p=>(p.1,ρ p.2)) h (by simp) (by
   simp only[n9];have:=tC d (parts.toList.map (·.2));simpa[n9,Vp]using this)
  have e:(parts.toList.map fun p=>(p.1,ρ p.2)).toArray=parts.map fun(i,x)=>(i,ρ x):=by
   apply jo; simp
  rw[e]at g;exact same ⟨u,w',g,q⟩
 case range t x=>exact same (Wr HE h (d x))
 case next it isString=>exact same (Ws HE h (d it))
 case makeMap t res =>
  cases res with
  |some _=>cases h
  | none =>
   cases h;exact same ⟨_,_,by simp[Instr.makeMap,newObj]; rfl,Wu HE⟩
 case mapUpdate t m k x =>
  split at h
  ·rename_i H1 I
   cases h;obtain⟨w',g,q,M⟩:=L9 HE I (d m) (d k) (d x);exact⟨.skip,undef,w',by simp[execOp,g],.inr ⟨rfl,rfl⟩,dc.of_le q M _⟩
  ·split at h
   ·rename_i H1 I
    cases h;obtain⟨w',g,q⟩:=WJ HE I (d m) (d k) (d x);exact⟨.skip,undef,w',by simp[execOp,g],.inr ⟨rfl,rfl⟩,q _⟩
   ·split at h
    ·rename_i H1 I
     cases h;obtain⟨w',g,q,M⟩:=WV HE I (d m) (d k) (d x);exact⟨.skip,undef,w',by simp[execOp,g],.inr ⟨rfl,rfl⟩,dc.of_le q M _⟩
    ·split at h
     ·rename_i H1 I
      cases h;obtain⟨w',g,q⟩:=W5 HE I (d m) (d k) (d x);exact⟨.skip,undef,w',by simp[execOp,g],.inr ⟨rfl,rfl⟩,q _⟩
     ·cases h
 case lookup t m k ok =>
  cases ok with
  |true=>cases h
  | false =>
   simp only[]at h;split at h
   ·rename_i v1 hv
    cases h;obtain⟨u,g,q⟩:=L5 HE hv (d m) (d k);exact same ⟨u,_,g,jx.toOp HE ⟨Ext.refl _,q⟩⟩
   ·split at h
    ·rename_i y N
     cases h;exact same (WI HE N (d m) (d k))
    ·exact same (W3 HE h (d m) (d k))
 case mapEntry t m k =>
  split at h
  ·rename_i y N
   cases h;exact same (WN HE N (d m) (d k))
  ·exact same (WW HE h (d m) (d k))
 case entryStore t m s x =>
  split at h
  ·rename_i H1 I
   cases h;obtain⟨w',g,q⟩:=WQ (P:=P) (t:=t) HE I (d m) (d s) (d x);exact⟨.skip,undef,w',by simp[execOp,g],.inr ⟨rfl,rfl⟩,q _⟩
  ·split at h
   ·rename_i H1 I
    cases h;obtain⟨w',g,q⟩:=WY (P:=P) (t:=t) HE I (d m) (d s) (d x);exact⟨.skip,undef,w',by simp[execOp,g],.inr ⟨rfl,rfl⟩,q _⟩
   ·cases h
 case insert t m k x =>
  split at h
  ·rename_i H1 I
   cases h;obtain⟨w',g,q,M⟩:=L9 HE I (d m) (d k) (d x);exact⟨.skip,undef,w',by simp[execOp,g],.inr ⟨rfl,rfl⟩,dc.of_le q M _⟩
  ·cases h
 case call c =>
  obtain⟨callee,args,argTypes⟩:=c;unfold Cz at h;split at h
  ·rename_i O
   simp only[]at O;subst O;simp only[]at h;split at h
   case h_2=>cases h
   rename_i s x t xt V W;have U:args=#[s,x]:=by apply jo; simpa using V
   have htys':argTypes=#[t,xt]:=by apply jo; simpa using W
   subst U;subst htys';split at h
   ·rename_i y N
    cases h;obtain⟨u,w',g,q⟩:=WB (P:=P) (ty:=type) HE N (d s) (d x);refine⟨.value u,u,w',?_,.inl rfl,q⟩;simp[execOp,resolve,invoke,builtin,g]
   ·obtain ⟨u, w', g, q⟩ := Wc (P := P) (ty := type) HE h (d s) (d x)
    refine⟨.value u,u,w',?_,.inl rfl,q⟩;simp[execOp,resolve,invoke,builtin,g]
  ·rename_i O
   simp only[]at O;subst O;simp only[]at h;split at h
   case h_2=>cases h
   rename_i x t V W;have U:args=#[x]:=by apply jo; simpa using V
   have htys':argTypes=#[t]:=by apply jo; simpa using W
   subst U;subst htys';split at h
   ·rename_i H1 N
    cases h;obtain⟨w',g,q,M⟩:=Wz (P:=P) (ty:=type) (jv:=#[t]) (cs:=#[ρ x]) HE N rfl rfl (d x);refine⟨.value (.tuple #[]),.tuple #[],w',?_,.inl rfl,E.ae,E.X.r,by simp[ad,ax],q,M⟩;simp[execOp,resolve,invoke,builtin,g]
   ·cases h
  ·rename_i O
   simp only[]at O;subst O;simp only[]at h;split at h
   case h_2=>cases h
   rename_i x k t ts V W;have U:args=#[x,k]:=by apply jo; simpa using V
   subst U;split at h
   ·rename_i H1 N
    cases h;have ht0:argTypes[0]? = some t:=by
     have:argTypes.toList[0]? = some t:=by rw[W]; rfl
     simpa using this
    obtain⟨w',g,q,M⟩:=Wx (P:=P) (ty:=type) (jv:=argTypes) (cs:=#[ρ x,ρ k]) HE N ht0 rfl rfl (d x) (d k);refine⟨.value (.tuple #[]),.tuple #[],w',?_,.inl rfl,E.ae,E.X.r,by simp[ad,ax],q,M⟩;simp[execOp,resolve,invoke,builtin,g]
   ·cases h
  ·cases h
def qg(P:aj)(f:bP)(args:List AV)(H:List ai)(Q:AV->List ai->Prop):Prop :=
 ∀(E:af) (d:Array ao),E.H=H->aJ E->ax E args d.toList ->
  Calls P f d E.w fun e w'=>∃ c v H',e=.returned c/\Q v H'/\dc E v H' c w'
def dP(P:aj)(f:bP)(args:List AV)(v:AV):Prop:=∀ H,qg P f args H fun d H'=>d=v/\H'=H
def qg.mono{P:aj}{f:bP}{args:List AV}{H:List ai}{Q d:AV->List ai->Prop}(h:qg P f args H Q)(k:∀ v H',Q v H'->d v H'):qg P f args H d :=
 fun E g h1 y I=>(h E g h1 y I).mono fun _ _ ⟨c,v,H',e,q,r⟩=>⟨c,v,H',e,k v H' q,r⟩
def iJ(P:aj)(f:bP):Bool :=
 match P.funcs[f]? with
 |some fn => !(fn.name == "runtime.NumGoroutine")&&fn.body.isSome
 |none=>false
def Mw{P:aj}{f:bP}(h:iJ P f=true)(args:Array ao)(w:a_):(callFunc f args).run P w=.ok (.enter f args) w:=by
 unfold iJ at h;split at h
 ·rename_i fn d
  simp only[aK,Bool.not_eq_true']at h;have h1:fn.name ≠ "runtime.NumGoroutine" := by simpa using h.1
  have g:fn.body≠none:=fun e=>by rw[e]at h; simp at h
  simp[callFunc,d,h1,g]
 ·cases h
def CA(r:cw->AV)(c:Call):Option (bP × List AV) :=
 match c.callee with
 | .value g=>match r g with
  |.clo f caps=>some (f,c.args.toList.map r++caps)
  |_=>none
 |_=>none
def jK(r:cw->AV):Op->Option (bP × List AV)
 |.call c=>CA r c
 |_=>none
def Mx{P:aj}{E:af}{r:cw->AV}{ρ:cw->ao}(q:∀ x,ad E (r x) (ρ x)){o:aU}{f:bP}{args:List AV}
  (h:jK r o.op=some (f,args)) (hb:iJ P f=true):∃ k:Array ao,(execOp ρ o).run P E.w=.ok (.enter f k) E.w/\ax E args k.toList:=by
 obtain⟨dst,op,M,pos,after,guard⟩:=o;cases op<;>simp only[jK]at h<;>try cases h
 rename_i c;obtain⟨callee,as,argTypes⟩:=c;cases callee<;>simp only[CA]at h<;>try cases h
 rename_i g;split at h
 case h_2=>cases h
 rename_i N caps v;cases h;have d:=q g;rw[v]at d;simp only[ad]at d;obtain⟨cs,y,I⟩:=d;refine⟨as.map ρ++cs,?_,?_⟩
 ·simp[execOp,resolve,y,Deferred.ofValue,invoke,Mw hb]
 ·simp only [Array.toList_append, Array.toList_map]
  exact pe (tC q as.toList) I
end Go.AL

namespace Go.AL
open Go
variable [Dr]
inductive Xc where
 |pure|read|write
 deriving DecidableEq
def Xd(pf:bP->Bool)(c:Call):Bool :=
 match c.argTypes.toList with
 | [t]=>pf (t+1000000)
 |_=>false
def dG(pf:bP->Bool):Op->Xc
 |.load ..=>.read
 |.lookup t _ _ _=>if pf (t+1500000) then .write else .read
 |.buildSlice t n _=>if pf (t+100000*n+2000000) then .write else .pure
 |.alloc .. | .box .. | .store .. | .makeSlice .. | .mapUpdate .. | .insert .. | .makeMap .. | .mapEntry .. | .entryStore .. | .range .. | .next .. | .entry ..=>.write
 |.go .. | .defer .. | .panic .. | .send .. | .recv .. | .select .. | .makeChan .. | .ready .. | .waits ..=>.write
 | .call c=>match c.callee with
  | .builtin .len=>match Xd pf c with
   |true=>.read
   |false=>.pure
  |.builtin .max | .builtin .min | .builtin .cap=>.pure
  |.value (.func f)=>if pf f then .pure else .write
  |_=>.write
 |_=>.pure
def rf(P:aj)(r:cw->AV)(H:List ai)(c:Call):Option AV :=
 match c.callee,c.args.toList,c.argTypes.toList with
 | .builtin .len,[a],[t]=>match dO P t,r a with
  | some _,.map id=>match H[id]? with
   |some (.map d _)=>some (.int d.length)
   |_=>none
  |_,_=>none
 |_,_,_=>none
def Xe{P:aj}{E:af}(HE:aJ E){r:cw->AV}{ρ:cw->ao}(O:∀ x,ad E (r x) (ρ x)){o:aU}{c:Call}{v:AV}(ho:o.op=.call c)(h:rf P r E.H c=some v) :
  ∃ u,(execOp ρ o).run P E.w=.ok (.value u) E.w/\ad E v u:=by
 obtain⟨dst,op,type,pos,after,guard⟩:=o;subst ho;obtain⟨callee,args,argTypes⟩:=c;unfold rf at h;split at h
 case h_2=>cases h
 rename_i a t g d k;simp only[]at g d k;subst g;have I:args=#[a]:=by apply jo; simpa using d
 have M:argTypes=#[t]:=by apply jo; simpa using k
 subst I;subst M;split at h
 case h_2=>cases h
 rename_i p id U N;split at h
 case h_2=>cases h
 rename_i es cl hH;cases h;have q:=O a;rw[N]at q;obtain⟨b,n,y,V,h1,W,h3⟩:=vD HE hH q;obtain⟨kt,et⟩:=p;have hl:=(e9.1 h3).1;have e2:(getObj b).run P E.w=.ok (.map y cl) E.w:=by simp[getObj,Sem.run,W]
 refine⟨goInt y.size,?_,by simp[ad,goInt,hl]⟩;simp only[execOp,resolve,cr,ft,cf,invoke];simp[builtin,Vo,Sem.bF (gn U),V,e2]
def gA(P:aj)(r:cw->AV)(H:List ai):Op->Option AV
 |.load t a=>nl P t (r a) H
 | .lookup t m k ok=>match ia P t (r m) (r k) ok H with
  |some v=>some v
  |none=>mz P t (r m) (r k) ok H
 |.call c=>rf P r H c
 |_=>none
def Xf{P:aj}{E:af}(HE:aJ E){r:cw->AV}{ρ:cw->ao}(d:∀ x,ad E (r x) (ρ x)){o:aU}{v:AV}(h:gA P r E.H o.op=some v) :
  ∃ u,(execOp ρ o).run P E.w=.ok (.value u) E.w/\ad E v u:=by
 obtain⟨dst,op,y,pos,after,guard⟩:=o;cases op<;>simp only[gA]at h<;>try cases h
 case load t a =>
  obtain⟨u,g,q⟩:=Lu HE h (d a);exact⟨u,nr g,q⟩
 case lookup t m k ok =>
  split at h
  ·rename_i I h1
   cases h;obtain⟨u,g,q⟩:=L5 HE h1 (d m) (d k);exact⟨u,nr g,q⟩
  ·obtain ⟨u, g, q⟩ := WT HE h (d m) (d k)
   exact⟨u,nr g,q⟩
 case call c=>exact Xe HE d rfl h
def fO(P:aj)(f:bP)(args:List AV)(H:List ai)(v:AV)(H':List ai):Prop:=qg P f args H fun d H1=>d=v/\H1=H'
def cH(ah:Array aU)(fr:List AV)(o:aU):Option Bool :=
 match o.guard with
 |none=>some true
 | some (j,d)=>match (ah[j]?).bind (·.dst) with
  | some t=>match fr[t]? with
   |some (.lit (.bool b))=>some (b==d)
   |some (.tuple [])=>some false
   |_=>none
  |none=>none
def Xg(H:List ai)(v d:AV)(H1:List ai):Prop :=
 ∃(id al:Nat) (ks:List Kd) (rZ:List (List G)),((v=.vQ ks.length id al 0 rZ.length/\d=.listF ks rZ)\/∃ cs,v=.agg (.vQ ks.length id al 0 rZ.length::cs)/\d=.agg (.listF ks rZ::cs))/\H[id]? = some (.vQ ks.length al (rZ.map (aX ks)))/\H1=H.set id .dead
def G9{E:af}(HE:aJ E){id al:Nat}{ks:List Kd}{rZ:List (List G)} (v:E.H[id]? = some (.vQ ks.length al (rZ.map (aX ks)))) {c:ao} (h:ad E (.vQ ks.length id al 0 rZ.length) c) :
  ad { w:=E.w,H:=E.H.set id .dead,ae:=E.ae.set id none,X:=E.X } (.listF ks rZ) c:=by
 have O:=af.yE HE id;have ho:=HE.obj id _ v;rw[kq];simp only[ad]at h|-;obtain⟨⟨aN,cap,rfl,N,_⟩,_,q⟩:=h;obtain⟨q1,V⟩:=q ⟨_,v,rfl⟩;have y:fv (rZ.map (aX ks)):=by
  intro r h;obtain⟨g,_,rfl⟩:=List.mem_map.1 h;exact gJ ks g
 refine⟨y,aN,cap,by simp,by simpa using N,?_⟩;simp only[aZ]at ho;rcases ho with⟨h1,I⟩|⟨b,mm,h1,I,q,_,W⟩
 ·exact .inl I
 ·obtain ⟨g1, o, g2, M⟩ := V b mm h1
  by_cases hm:rZ=[]
  ·subst hm; exact .inl rfl
  ·right
   have:0<rZ.length:=by cases rZ with|nil=>exact(hm rfl).elim|cons _ _=>simp
   simp at q;have ho:=g2 (by omega);simp at ho;subst ho;simp only[mq]at M;refine⟨b,0,M.1,⟨(HE.lt id b mm h1).1,?_,(HE.lt id b mm h1).2⟩,kX O.toC _ y rfl W⟩;rintro(⟨j,c',d⟩|⟨l,k,c',d⟩)
   case inr=>exact HE.du _ _ _ _ _ _ h1 d
   simp only[List.getElem?_set]at d;split at d
   ·split at d<;>cases d
   ·rename_i U
    exact U (HE.inj _ _ _ _ _ h1 d)
def vH(P:aj)(r:cw->AV)(H:List ai)(v:AV)(H':List ai):Op->Prop
 |.store t a x=>∃ d H1,Xg H (r x) d H1/\pj P t (r a) d H1=some H'/\v=.undef
 |_=>False
def Xh{P:aj}{r d:cw->AV}{H:List ai}{v:AV}{H':List ai}(o:Op)(h:∀ x∈o.operands,r x=d x):vH P r H v H' o=vH P d H v H' o:=by
 cases o<;>try rfl
 rename_i t a x;simp only[vH];rw[h a (by simp[fg]),h x (by simp[fg])]
def Xi{P:aj}{E:af}(HE:aJ E){r:cw->AV}{ρ:cw->ao}(M:∀ x,ad E (r x) (ρ x)){o:aU}{v:AV}{H':List ai}(h:vH P r E.H v H' o.op) :
  ∃ w',(execOp ρ o).run P E.w=.ok .skip w'/\dc E v H' undef w':=by
 obtain⟨dst,op,type,pos,after,guard⟩:=o;cases op<;>try exact h.elim
 rename_i t a x;obtain⟨O,H1,⟨id,al,ks,rZ,h1,q,rfl⟩,U,rfl⟩:=h;have g:=M x;have k:=af.yE HE id;have N:ad { w:=E.w,H:=E.H.set id .dead,ae:=E.ae.set id none,X:=E.X } O (ρ x):=by
  rcases h1 with⟨h1,rfl⟩|⟨cs,h1,rfl⟩
  ·rw [h1] at g
   exact G9 HE q g
  ·rw [h1, ad] at g
   obtain⟨l,e,ho,d⟩:=g;rw[e,ad];refine⟨l,rfl,ho,?_⟩;cases I:l.toList with
   |nil=>rw[I]at d; simp[ax]at d
   | cons u us =>
    rw[I]at d;simp only[ax]at d|-;exact⟨G9 HE q d.1,eh k cs d.2⟩
 obtain⟨w',y,V,W⟩:=LQ (E:={ w:=E.w,H:=E.H.set id .dead,ae:=E.ae.set id none,X:=E.X }) (aJ.drop HE id fun o ho=>by rw[q]at ho; cases ho; rfl) U (bD k _ (M a)) N;have y:(Instr.storeAt t (ρ a) (ρ x)).run P E.w=.ok () w':=y;exact⟨w',by simp[execOp,y],E.ae.set id none,E.X.r,by simp[ad],V,k.trans W⟩
def Yields(P:aj)(pf:bP->Bool)(ah:Array aU)(o:aU)(s:St)(v:AV)(H':List ai):Prop :=
 match cH ah s.fr o with
 |none=>False
 |some false=>v=.tuple []/\H'=s.H
 | some true=>match dG pf o.op with
  |.pure=>H'=s.H/\(j7 P s.eval o.op=some v\/∃ f args,jK s.eval o.op=some (f,args)/\iJ P f=true/\dP P f args v)
  |.read=>H'=s.H/\gA P s.eval s.H o.op=some v
  |.write=>(dD P s.eval s.H o.op=some (v,H')\/∃ f args,jK s.eval o.op=some (f,args)/\iJ P f=true/\fO P f args s.H v H')\/(((∃ t id m,o.op=.alloc t/\q_ P t id m s.H=some (v,H'))\/∃ t id,o.op=.makeMap t none/\tn id s.H=some (v,H'))\/vH P s.eval s.H v H' o.op)
def mC(fr:List AV)(dst:Option Tmp)(v:AV):List AV :=
 match dst with
 |some d=>fr.set d v
 |none=>fr
def St.put(s:St)(dst:Option Tmp)(v:AV)(H':List ai):St:=⟨mC s.fr dst v,H'⟩
def My{E:af}:∀{as:List AV} {g:List ao} {a:AV} {v:ao} (d:Nat),ax E as g->ad E a v->ax E (as.set d a) (g.set d v)
 | [],[],_,_,_,_,_=>by simp[ax]
 | [],_::_,_,_,_,h,_=>by simp[ax]at h
 |_::_,[],_,_,_,h,_=>by simp[ax]at h
 |_::as,_::g,a,v,0,h,k=>by simp only[ax]at h; simp only[List.set_cons_zero,ax]; exact⟨k,h.2⟩
 |_::as,_::g,a,v,d+1,h,k=>by simp only[ax]at h; simp only[List.set_cons_succ,ax]; exact⟨h.1,My d h.2 k⟩
def Mz{E E':af}{s:St}{a:Act}(h:ax E s.fr a.tmps.toList)(g:E.le E')(dst:Option Tmp){v:AV}{u:ao}(k:ad E' v u) :
  ax E' (mC s.fr dst v) (a.put dst u).tmps.toList:=by
 have h':=eh g _ h;cases dst with
 |none=>exact h'
 | some d =>
  simp only[mC,Act.put,Array.toList_setIfInBounds];exact My d h' k
def fz(r:Option Nat):Fence:={ Fence.wide with round:=r }
def MA{r:Option Nat}{n:Nat}{P:aj}{f:bP}{args:Array ao}{w:a_}{R:Ending->a_->Prop}(h:Calls P f args w R):CallsIn (fz r) n P f args w R:=(callsIn_wide (n:=n)).2 h
def put_defers(a:Act)(dst:Option Tmp)(v:ao):(a.put dst v).defers=a.defers:=by cases dst<;>rfl
def MB{ah:Array aU}{s:St}{E:af}{a:Act}(h:dX s E a){o:aU}{b:Bool}(d:cH ah s.fr o=some b) :
  Vq o (yielded ah a.tmps)=b:=by
 unfold cH at d;unfold Vq;cases v:o.guard with
 |none=>rw[v]at d; simpa using d
 | some I =>
  obtain⟨j,N⟩:=I;rw[v]at d;simp only[]at d|-;split at d
  case h_2=>cases d
  rename_i t y;split at d
  ·rename_i M hb
   cases d;obtain⟨u,q,g⟩:=qa h.fr hb;simp only[ad]at g;subst g;have k:a.tmps[t]? = some (.bool M):=by simpa using q
   simp[yielded,y,k]
  ·rename_i hb
   cases d;obtain⟨u,q,g⟩:=qa h.fr hb;simp only[ad]at g;obtain⟨cs,rfl,_⟩:=g;have k:a.tmps[t]? = some (.tuple cs):=by simpa using q
   simp[yielded,y,k]
  ·cases d
def gB(E:af)(s':St)(h:Act)(w':a_):Prop :=
 ∃ d g,dX s' { w:=w',H:=s'.H,ae:=d,X:=E.X.re g } h/\E.le { w:=w',H:=s'.H,ae:=d,X:=E.X.re g }
def G_{P:aj}{pf:bP->Bool}{ah:Array aU}{s:St}{E:af}{a:Act}(g:dX s E a){i:Nat}{o:aU}(hi:ah[i]? = some o){v:AV}{H':List ai}
  (d:Yields P pf ah o s v H') {K:Act->a_->Prop} {Q:Exit->Act->a_->Prop} (hK:∀ a' w',gB E (s.put o.dst v H') a' w'->K a' w') (ro:Option Nat):wpOpIn (fz ro) 0 P ah Q i K a E.w:=by
 have N:=g.eval;have hH:=g.H;have I:∀{u:ao} {w':a_},dc E v H' u w'->K (a.put o.dst u) w':=by
  rintro u w' ⟨loc',r',h1,U,M⟩;exact hK _ _ ⟨loc',r',⟨rfl,Mz g.fr M o.dst h1,by rw[put_defers]; exact Gk g.heap M g.defers,U⟩,M⟩
 have pure':H'=s.H->∀{u:ao} {w':a_},jx E v u w'->dc E v H' u w':=by
  intro e u w' V;have:=V.toOp g.heap;rw[hH,<-e]at this;exact this
 have enterOk:(fz ro).depth.isSome=true->1<=0:=fun h=>by cases h
 unfold wpOpIn;simp only[hi];unfold Yields at d;split at d
 ·cases d
 ·rename_i hw
  rw[MB g hw];simp only[Bool.false_eq_true,if_false];obtain⟨rfl,e⟩:=d;refine⟨fun _ _=>trivial,I ?_⟩;rw[e,<-hH];exact⟨E.ae,E.X.r,by simp only[ad]; exact⟨#[],rfl,by simp[ax]⟩,g.heap,af.le.refl E⟩
 ·rename_i hw
  rw[MB g hw];simp only[if_true];split at d
  ·obtain ⟨e, d⟩ := d
   rcases d with d|⟨f,args,h1,U,M⟩
   ·have y : ∀ c, o.op ≠ .defer c := fun c e => by rw [e] at d; cases d
    obtain⟨u,w',k,q⟩:=Xa g.heap N d;unfold sY;rw[sZ _ _ _ y,k];exact⟨fun _ _=>trivial,I (pure' e q)⟩
   ·have y : ∀ c, o.op ≠ .defer c := fun c e => by rw [e] at h1; cases h1
    obtain⟨W,k,q⟩:=Mx N h1 U;unfold sY;rw[sZ _ _ _ y,k];refine⟨fun _ _=>trivial,enterOk,MA ((M s.H E W hH g.heap q).mono ?_)⟩;rintro _ w' ⟨c,v',H1,rfl,⟨rfl,rfl⟩,V⟩;exact I (by rw[e]; exact V)
  ·obtain ⟨e, d⟩ := d
   rw[<-hH]at d;have y:∀ c,o.op≠.defer c:=fun c e=>by rw[e]at d; cases d
   obtain⟨u,k,q⟩:=Xf g.heap N d;unfold sY;rw[sZ _ _ _ y,k];exact⟨fun _ _=>trivial,I (pure' e (jx.same q))⟩
  ·rcases d with (d | ⟨f, args, h1, U, M⟩) | (⟨t, id, m, ho, d⟩ | ⟨t, id, ho, d⟩) | d
   ·have y : ∀ c, o.op ≠ .defer c := fun c e => by rw [e] at d; cases d
    rw[<-hH]at d;obtain⟨n,u,w',k,q,O⟩:=Xb g.heap N d;unfold sY;rw[sZ _ _ _ y,k];rcases q with rfl|⟨rfl,rfl⟩
    ·exact⟨fun _ _=>trivial,I O⟩
    ·exact⟨fun _ _=>trivial,I O⟩
   ·have y : ∀ c, o.op ≠ .defer c := fun c e => by rw [e] at h1; cases h1
    obtain⟨W,k,q⟩:=Mx N h1 U;unfold sY;rw[sZ _ _ _ y,k];refine⟨fun _ _=>trivial,enterOk,MA ((M E W hH g.heap q).mono ?_)⟩;rintro _ w' ⟨c,v',H1,rfl,⟨rfl,rfl⟩,V⟩;exact I V
   ·rw [<- hH] at d
    obtain⟨u,w',k,q⟩:=Wk g.heap d;unfold sY;obtain⟨dst,op,type,pos,after,guard⟩:=o;simp only[]at ho;subst ho;have O:(execOp a.eval ⟨dst,.alloc t,type,pos,after,guard⟩).run P E.w=.ok (.value u) w':=nr k;rw[sZ _ _ _ (fun c e=>by cases e),O];exact⟨fun _ _=>trivial,I q⟩
   ·rw [<- hH] at d
    obtain⟨u,w',k,q⟩:=Ww (P:=P) (t:=t) g.heap d;unfold sY;obtain⟨dst,op,type,pos,after,guard⟩:=o;simp only[]at ho;subst ho;have O:(execOp a.eval ⟨dst,.makeMap t none,type,pos,after,guard⟩).run P E.w=.ok (.value u) w':=nr k;rw[sZ _ _ _ (fun c e=>by cases e),O];exact⟨fun _ _=>trivial,I q⟩
   ·have y : ∀ c, o.op ≠ .defer c := fun c e => by rw [e] at d; exact d
    rw[<-hH]at d;obtain⟨w',k,q⟩:=Xi g.heap N d;unfold sY;rw[sZ _ _ _ y,k];exact⟨fun _ _=>trivial,I q⟩
def k_(P:aj)(pf:bP->Bool)(ah:Array aU):List aU->St->St->Prop
 | [],s,s'=>s'=s
 |o::d,s,s'=>∃ v H',Yields P pf ah o s v H'/\k_ P pf ah d (s.put o.dst v H') s'
def gB.after{E E':af}{s':St}{d:Act}{w':a_}(h:E.le E')(h':gB E' s' d w'):gB E s' d w':=by
 obtain⟨g,k,q,v⟩:=h';refine⟨g,k,?_,?_⟩
 ·rw[<-XS.Lh h.X]; exact q
 ·rw[<-XS.Lh h.X]; exact h.trans v
def gB.refl{s:St}{E:af}{a:Act}(h:dX s E a):gB E s a E.w:=by
 obtain⟨w,H,ae,X⟩:=E;have:=h.H;simp only at this;subst this;exact⟨ae,X.r,h,af.le.refl _⟩
def G'{P:aj}{pf:bP->Bool}{ah:Array aU}{Q:Exit->Act->a_->Prop}:∀(l:List aU) (k:Nat) (s s':St) (E:af) (a:Act),
  l=ah.toList.drop k->k_ P pf ah l s s'->dX s E a->(∀ g w',gB E s' g w'->Q .normal g w')->∀ d:Option Nat,wpOpsIn (fz d) 0 P ah Q (List.range' k l.length) a E.w
 | [],k,s,s',E,a,_,h,q,y,d=>by
  simp only[k_]at h;subst h;exact y _ _ (gB.refl q)
 | o::l,k,s,s',E,a,I,h,q,y,d=>by
  obtain⟨v,H',U,M⟩:=h;simp only[cn,List.range'_succ];rw[wpOpsIn_cons];have V:ah[k]? = some o:=by
   have:(ah.toList.drop k)[0]? = some o:=by rw[<-I]; rfl
   simpa using this
  refine G_ q V U (fun g w' W=>?_) d;obtain⟨N,r',h1,h2⟩:=W;refine G' l (k+1) _ s' { w:=w',H:=H',ae:=N,X:=E.X.re r' } g ?_ M h1 (fun a2 w2 O=>y a2 w2 ?_) d
  ·rw[<-sU,<-I]; rfl
  ·exact gB.after h2 O
def waits(ah:Array aU):Nat->Nat->Nat->Bool
 |0,_,_=>false
 | n+1,j,i=>match ah[j]? with
  |some o=>o.after.toList.any fun e=>KX .any e&&(e.on==i||waits ah n e.on i)
  |none=>false
def fG:Op->Bool
 |.alloc _=>true
 |.makeMap _ none=>true
 |_=>false
def qh(pf:bP->Bool)(x y:aU):Bool :=
 match dG pf x.op,dG pf y.op with
 |.pure,_|_,.pure | .read,.read=>true
 |.read,.write=>fG y.op
 |_,_=>false
def vI(pf:bP->Bool)(ah:Array aU):Bool :=
  amn ah &&
  (fo ah.size).all fun j=>(match ah[j]? with
    | some d=>(d.after.toList.all fun e => !KX .any e||e.on<j) &&
      ((fo j).all fun i => match ah[i]? with
        |some g=>waits ah ah.size j i||(g.apart ah d&&d.apart ah g&&qh pf g d)
        |none=>true)
    |none=>true)
def vJ(P:aj)(pf:bP->Bool)(ah:Array aU)(i:Nat)(K:St->Prop)(s:St):Prop :=
 match ah[i]? with
 |none=>K s
 |some o=>∃ v H',Yields P pf ah o s v H'/\K (s.put o.dst v H')
def vK(P:aj)(pf:bP->Bool)(ah:Array aU)(s':St):Nat->Array Bool->St->Prop
 |0,d,s=>od .any ah d=[]/\s=s'
 |g+1,d,s=>(od .any ah d=[]->s=s')/\∀ i∈od .any ah d,vJ P pf ah i (vK P pf ah s' g (d.setIfInBounds i true)) s
def CB{P:aj}{pf:bP->Bool}{ah:Array aU}{s':St}{Q:Exit->Act->a_->Prop}:∀(d:Nat) (I:Array Bool) (s:St) (E:af) (a:Act),
  dX s E a->vK P pf ah s' d I s->(∀ y w',gB E s' y w'->Q .normal y w')->∀ g:Option Nat,wpAnyIn (fz g) 0 P .any ah Q d I a E.w
 |0,_,s,E,a,k,h,q,_=>⟨h.1,q _ _ (h.2▸gB.refl k)⟩
 | d+1,I,s,E,a,k,h,q,g=>by
  refine⟨fun h0=>q _ _ (h.1 h0▸gB.refl k),fun i hi=>?_⟩;have h1:=h.2 i hi;unfold vJ at h1;cases ho:ah[i]? with
  | none =>
   rw[ho]at h1;unfold wpOpIn;simp only[ho];exact CB d _ s E a k h1 q g
  | some o =>
   rw[ho]at h1;obtain⟨v,H',O,U⟩:=h1;refine G_ k ho O (fun y w' V=>?_) g;obtain⟨M,W,g1,g2⟩:=V;exact CB d _ _ { w:=w',H:=H',ae:=M,X:=E.X.re W } y g1 U (fun a2 w2 N=>q a2 w2 (gB.after g2 N)) g
def Xj{ah:Array aU}{o:aU}{t:Tmp}(h:Operand.tmp t∈o.op.operands):t∈o.looksAt ah :=
 List.mem_append_left _ (List.mem_filterMap.2 ⟨.tmp t,by simpa using h,rfl⟩)
def Xk{fr:List AV}{d t:Nat}{v:AV}(h:d≠t):(fr.set d v).getD t .undef=fr.getD t .undef:=by
 simp[List.getD_eq_getElem?_getD,bg h]
def eval_put{ah:Array aU}{s:St}{o:aU}{dst:Option Tmp}{v:AV}{H':List ai}(h:∀ d,dst=some d->d∉o.looksAt ah){x:cw}(k:x∈o.op.operands) :
  (s.put dst v H').eval x=s.eval x:=by
 cases dst with
 |none=>cases x<;>rfl
 | some d =>
  cases x with
  | tmp t =>
   have g:d≠t:=fun e=>h d rfl (e▸Xj k);simp only[St.eval,St.put,mC];exact Xk g
  |_=>rfl
def CC{ah:Array aU}{fr:List AV}{o:aU}{dst:Option Tmp}{v:AV}(h:∀ d,dst=some d->d∉o.looksAt ah) :
  cH ah (mC fr dst v) o=cH ah fr o:=by
 cases dst with
 |none=>rfl
 | some d =>
  unfold cH;cases q:o.guard with
  |none=>rfl
  | some y =>
   obtain⟨g,M⟩:=y;simp only[];cases I:(ah[g]?).bind (·.dst)with
   |none=>rfl
   | some t =>
    have k:d≠t:=fun e=>h d rfl (by subst e; simp[Oper.looksAt,q,I]);simp only[mC,bg k]
def Xl(fr:List AV){x y:Option Tmp}(v u:AV)(h:∀ d,x=some d->y≠some d):mC (mC fr x v) y u=mC (mC fr y u) x v:=by
 cases x with
 |none=>rfl
 | some d =>
  cases y with
  |none=>rfl
  | some e =>
   have g:d≠e:=fun he=>h d rfl (he▸rfl);simp only[mC];rw[oc _ _ g]
def MC{P:aj}{r d:cw->AV}(o:Op)(h:∀ x∈o.operands,r x=d x):j7 P r o=j7 P d o:=by
 cases o<;>simp only[j7]<;>simp only[fg]at h
 case build t ps =>
  have:(ps.toList.map fun p=>(p.1,r p.2))=ps.toList.map fun p=>(p.1,d p.2):=nc fun p g=>by
   rw[h p.2 (by simp; exact⟨p.1,by simpa using g⟩)]
  rw[this]
 case buildSlice t n ps =>
  have:(ps.toList.map fun p=>(p.1,r p.2))=ps.toList.map fun p=>(p.1,d p.2):=nc fun p g=>by
   rw[h p.2 (by simp; exact⟨p.1,by simpa using g⟩)]
  rw[this]
 case makeFunc fn first captured =>
  unfold G5;cases fn<;>try rfl
  have:(captured.toList.map r)=captured.toList.map d:=nc fun x k=>h x (by simp; right; simpa using k);simp only[this]
 case call c =>
  obtain⟨callee,args,argTypes⟩:=c;unfold G6;cases callee<;>try rfl
  have:(args.toList.map r)=args.toList.map d:=nc fun x k=>h x (by simp[uX]; simpa using k);simp only[this]
 case slice t x lo hi mx=>cases lo<;>cases hi<;>cases mx<;>simp_all
 all_goals (first|rfl|(simp_all; done))
def MD{P:aj}{r d:cw->AV}{H:List ai}(o:Op)(h:∀ x∈o.operands,r x=d x):gA P r H o=gA P d H o:=by
 cases o<;>simp only[gA]<;>simp only[fg]at h
 case call c =>
  obtain⟨callee,args,argTypes⟩:=c;unfold rf;cases callee<;>try rfl
  split
  ·rename_i a t g ha k
   have hm:a∈args:=by
    have:a∈args.toList:=by rw[show args.toList=[a] from ha]; simp
    simpa using this
   have:r a=d a:=h a (by simp[uX]; simpa using hm);simp only[this,g,ha,k]
  ·rfl
 all_goals (first|rfl|(simp_all; done))
def ME{P:aj}{r g:cw->AV}{H:List ai}(o:Op)(h:∀ x∈o.operands,r x=g x):dD P r H o=dD P g H o:=by
  cases o<;>simp only[dD]<;>simp only[fg]at h
  case buildSlice t n ps =>
    have:(ps.toList.map fun p=>(p.1,r p.2))=ps.toList.map fun p=>(p.1,g p.2):=nc fun p v=>by
      rw[h p.2 (by simp; exact⟨p.1,by simpa using v⟩)]
    rw[this]
  case call c =>
    obtain⟨callee,args,argTypes⟩:=c;unfold Cz;cases callee<;>try rfl
    rename_i b;have d:∀ x,x∈args.toList->r x=g x:=fun x y=>h x (by simp[uX]; simpa using y);cases b<;>try rfl
    all_goals simp only[]
    all_goals split
    all_goals first
      |rfl
      | (rename_i s x t xt ha q
         rw[d s (by rw[ha]; simp),d x (by rw[ha]; simp)])
      | (rename_i x t ha q
         rw[d x (by rw[ha]; simp)])
      | (rename_i x k t I ha q
         rw[d x (by rw[ha]; simp),d k (by rw[ha]; simp)])
  case makeMap t res=>cases res<;>rfl
  case lookup t m k ok =>
    cases ok with
    |true=>rfl
    |false=>simp only[h m (by simp),h k (by simp)]
  case mapEntry t m k=>simp only[h m (by simp),h k (by simp)]
  case entryStore t m s x=>simp only[h m (by simp),h s (by simp),h x (by simp)]
  all_goals (first|rfl|(simp_all; done))
def MF{r d:cw->AV}(o:Op)(h:∀ x∈o.operands,r x=d x):jK r o=jK d o:=by
 cases o<;>simp only[jK]<;>simp only[fg]at h
 rename_i c;obtain⟨callee,args,argTypes⟩:=c;unfold CA;cases callee<;>try rfl
 rename_i g;have k:r g=d g:=h g (by simp[uX]);have q:(args.toList.map r)=args.toList.map d:=nc fun x v=>h x (by simp[uX]; right; simpa using v);simp only[k,q]
end Go.AL

namespace Go.AL
open Go
variable [Dr]
variable {P:aj} {pf:bP->Bool} {ah:Array aU}
def ic{o:aU}{s s1:St}{v:AV}{H':List ai}(g:cH ah s1.fr o=cH ah s.fr o)(d:∀ x∈o.op.operands,s1.eval x=s.eval x)(hH:s1.H=s.H) :
  Yields P pf ah o s1 v H'↔Yields P pf ah o s v H':=by
 unfold Yields;rw[g,hH,MC o.op d,MD o.op d,ME o.op d,MF o.op d,Xh o.op d]
def y8{o:aU}{s:St}{v:AV}{H':List ai}(k:dG pf o.op=.pure)(h:Yields P pf ah o s v H'):H'=s.H/\∀ d,Yields P pf ah o ⟨s.fr,d⟩ v d:=by
 have key:∀ d:List ai,∀ x∈o.op.operands,St.eval ⟨s.fr,d⟩ x=s.eval x:=fun d x _=>by cases x<;>rfl
 unfold Yields at h;cases g:cH ah s.fr o with
 |none=>rw[g]at h; exact h.elim
 | some b =>
  rw[g]at h;cases b with
  | false =>
   refine⟨h.2,fun d=>?_⟩;unfold Yields;rw[show cH ah (St.mk s.fr d).fr o=some false from g];exact⟨h.1,rfl⟩
  | true =>
   simp only[k]at h;refine⟨h.1,fun d=>?_⟩;unfold Yields;rw[show cH ah (St.mk s.fr d).fr o=some true from g];simp only[k];refine⟨trivial,?_⟩;rw[MC o.op (key d),MF o.op (key d)];exact h.2
def tD{o:aU}{s:St}{v:AV}{H':List ai}(d:dG pf o.op=.read)(h:Yields P pf ah o s v H'):H'=s.H:=by
 unfold Yields at h;simp only[d]at h;split at h
 ·cases h
 ·exact h.2
 ·exact h.1
def Xm{r:cw->AV}{H:List ai}{x:ai}{v:AV}:∀{op:Op},gA P r H op=some v->gA P r (H++[x]) op=some v:=by
 have get:∀{i:Nat} {y:ai},H[i]? = some y->(H++[x])[i]? = some y:=by
  intro i y h;rw[di (List.getElem?_eq_some_iff.1 h).1];exact h
 intro op h;cases op<;>simp only[gA]at h|-<;>try cases h
 case load t a =>
  unfold nl at h|-;split at h
  ·rename_i n agg M
   split at h
   ·exact h
   ·rename_i id al w row g ha
    cases hi:H[id]? with
    |none=>rw[hi]at h; cases h
    |some y=>rw[hi]at h; rw[get hi]; exact h
   ·rename_i id l j w row g ha
    cases hi:H[id]? with
    |none=>rw[hi]at h; cases h
    |some y=>rw[hi]at h; rw[get hi]; exact h
   ·cases h
  ·cases h
 case lookup t m k ok =>
  split at h
  ·rename_i N h1
   cases h;have d:ia P t (r m) (r k) ok (H++[x])=some v:=by
    unfold ia at h1|-;split at h1
    ·rename_i O U id hm I
     cases hi:H[id]? with
     |none=>rw[hi]at h1; cases h1
     |some y=>rw[hi]at h1; rw[get hi]; exact h1
    ·cases h1
   rw[d]
  ·obtain ⟨d, q⟩ := Mk (H2 := H ++ [x]) (fun i l V W cl hi => get hi) h
   rw[q,d]
 case call c =>
  unfold rf at h|-;split at h
  ·split at h
   ·rename_i id _ _
    cases hi:H[id]? with
    |none=>rw[hi]at h; cases h
    |some y=>rw[hi]at h; rw[get hi]; exact h
   ·cases h
  ·cases h
def Xn{r:cw->AV}{H:List ai}{id:Nat}{x y:ai}{v:AV}(d:H[id]? = some y)(g:(∃ k,y=.vQ k 0 [])\/y=.eD):∀{op:Op},gA P r H op=some v->gA P r (H.set id x) op=some v:=by
 have get:∀{i:Nat},i≠id->(H.set id x)[i]? = H[i]? := fun h=>bg (Ne.symm h);intro op h;cases op<;>simp only[gA]at h|-<;>try cases h
 case load t a =>
  unfold nl at h|-;split at h
  ·rename_i n agg O
   split at h
   ·exact h
   ·rename_i i al w row I ha
    by_cases e:i=id
    ·subst e
     rw[d]at h;rcases g with⟨k,rfl⟩|rfl<;>simp at h
    ·rw [get e]
     exact h
   ·rename_i i l j w row I ha
    by_cases e:i=id
    ·subst e
     rw[d]at h;rcases g with⟨k,rfl⟩|rfl<;>simp at h
    ·rw [get e]
     exact h
   ·cases h
  ·cases h
 case lookup t m k ok =>
  split at h
  ·rename_i U h1
   cases h;have q:ia P t (r m) (r k) ok (H.set id x)=some v:=by
    unfold ia at h1|-;split at h1
    ·rename_i V W i hm N
     by_cases e:i=id
     ·subst e
      rw[d]at h1;rcases g with⟨k,rfl⟩|rfl<;>simp at h1
     ·rw [get e]
      exact h1
    ·cases h1
   rw[q]
  ·obtain ⟨q,M⟩:=Mk (H2:=H.set id x) (fun i l es ms cl hi=>by
    have e:i≠id:=fun e=>by
     rw[e,d]at hi;rcases g with⟨k,rfl⟩|rfl<;>cases hi
    rw[get e];exact hi) h
   rw[M,q]
 case call c =>
  unfold rf at h|-;split at h
  ·split at h
   ·rename_i i _ _
    by_cases e:i=id
    ·subst e
     rw[d]at h;rcases g with⟨k,rfl⟩|rfl<;>simp at h
    ·rw [get e]
     exact h
   ·cases h
  ·cases h
def qi(z:List ao) (m:List (Option (List Kd))) (id:Nat) (y:ai) (v:AV) (x:ai):Prop :=
 (y=.vQ z.length 0 []/\v=.ptr id 1 z.length 0 0/\x=.vQ z.length 1 [j5 m z])\/(y=.eD/\v=.ptr id 0 0 0 0/\x=.box (z.map .lit))
def y9(y:ai):Prop:=(∃ k,y=.vQ k 0 [])\/y=.eD
def qi.hole{z:List ao}{m:List (Option (List Kd))}{id:Nat}{y x:ai}{v:AV}(h:qi z m id y v x):y9 y:=by
 rcases h with⟨rfl,_,_⟩|⟨rfl,_,_⟩
 ·exact .inl ⟨_,rfl⟩
 ·exact .inr rfl
def qi.full{z:List ao}{m:List (Option (List Kd))}{id:Nat}{y x d:ai}{v:AV}(h:qi z m id y v x)(h':y9 d):x≠d:=by
 rcases h with⟨_,_,rfl⟩|⟨_,_,rfl⟩<;>rcases h' with⟨k,rfl⟩|rfl<;>intro e<;>cases e
def MG{P:aj}{t:aF}{id:Nat}{m:List (Option (List Kd))}{H H':List ai}{v:AV}(h:q_ P t id m H=some (v,H')) :
  ∃ z y x,fF P t=some z/\H[id]? = some y/\qi z m id y v x/\H'=H.set id x:=by
 unfold q_ at h;split at h
 ·rename_i z k g d
  split at h
  ·rename_i q
   subst q;cases h;exact⟨z,_,_,g,d,.inl ⟨rfl,rfl,rfl⟩,rfl⟩
  ·cases h
 ·rename_i z g d
  cases h;exact⟨z,_,_,g,d,.inr ⟨rfl,rfl,rfl⟩,rfl⟩
 ·cases h
def Ha{P:aj}{t:aF}{id:Nat}{H:List ai}{z:List ao}{y x:ai}{v:AV}{m:List (Option (List Kd))}(g:fF P t=some z)(d:H[id]? = some y)(hn:qi z m id y v x) :
  q_ P t id m H=some (v,H.set id x):=by
 unfold q_;rw[g,d];rcases hn with⟨rfl,rfl,rfl⟩|⟨rfl,rfl,rfl⟩
 ·exact iP rfl
 ·rfl
def MH{q h:aU}{s:St}{v u:AV}{W g:List ai}(h1:q.apart ah h=true)(_h2:h.apart ah q=true)(I:qh pf q h=true)
  (hi:Yields P pf ah q s v W) (hj:Yields P pf ah h (s.put q.dst v W) u g) :
  ∃ Hj1,Yields P pf ah h s u Hj1/\Yields P pf ah q (s.put h.dst u Hj1) v g:=by
 obtain⟨a1,a2,a3⟩:=KY h1;have wj:cH ah (s.put q.dst v W).fr h=cH ah s.fr h:=CC a1;have wi:∀ N,cH ah (s.put h.dst u N).fr q=cH ah s.fr q:=fun N=>CC a3;have ej:∀ x∈h.op.operands,(s.put q.dst v W).eval x=s.eval x:=fun x M=>eval_put a1 M;have ei:∀ N,∀ x∈q.op.operands,(s.put h.dst u N).eval x=s.eval x:=fun N x M=>eval_put a3 M;unfold qh at I;split at I
 ·-- q only computes
  rename_i U;obtain⟨O,g1⟩:=y8 U hi;subst O;refine⟨g,(ic wj ej rfl).1 hj,?_⟩;exact(ic (s1:=s.put h.dst u g) (s:=⟨s.fr,g⟩) (wi g) (fun x M=>by rw[ei g x M]; cases x<;>rfl) rfl).2 (g1 g)
 ·-- h only computes
  rename_i V _;obtain⟨O,g1⟩:=y8 V hj;have e1':g=W:=O;subst e1';refine⟨s.H,?_,?_⟩
  ·have := g1 s.H
   exact(ic (s1:=⟨(s.put q.dst v g).fr,s.H⟩) (s:=s) wj (fun x M=>by
    have:=ej x M;cases x<;>exact this) rfl).1 this
  ·exact(ic (s1:=s.put h.dst u s.H) (s:=s) (wi s.H) (ei s.H) rfl).2 hi
 ·rename_i U V
  have O:=tD U hi;subst O;have e2:=tD V hj;have e2':g=s.H:=e2;subst e2';exact⟨s.H,(ic wj ej rfl).1 hj,(ic (s1:=s.put h.dst u s.H) (s:=s) (wi s.H) (ei s.H) rfl).2 hi⟩
 ·rename_i U V
  have O:=tD U hi;subst O;have d:=(ic wj ej rfl).1 hj;refine⟨g,d,?_⟩;have hpush:g=s.H\/(∃ x,g=s.H++[x])\/∃ id y x,s.H[id]? = some y/\((∃ k,y=.vQ k 0 [])\/y=.eD)/\g=s.H.set id x:=by
   unfold Yields at d;simp only[V]at d;split at d
   ·exact d.elim
   ·exact .inl d.2
   ·rcases d with (d | ⟨f, args, h1, _⟩) | (⟨t, id, m, ho, hv⟩ | ⟨t, id, ho, hv⟩) | hst
    ·unfold fG at I
     split at I
     ·rename_i t ho
      rw[ho]at d;simp only[dD,th]at d;split at d
      ·split at d
       ·cases d; exact .inr (.inl ⟨_,rfl⟩)
       ·cases d
      ·split at d
       ·cases d; exact .inr (.inl ⟨_,rfl⟩)
       ·cases d
     ·rename_i t ho
      rw[ho]at d;simp only[dD]at d;cases d;exact .inr (.inl ⟨_,rfl⟩)
     ·cases I
    ·unfold fG at I
     split at I
     ·rename_i t ho
      rw[ho]at h1;cases h1
     ·rename_i t ho
      rw[ho]at h1;cases h1
     ·cases I
    ·obtain ⟨z, y, x, _, h2, hn, h3⟩ := MG hv
     exact .inr (.inr ⟨id,y,x,h2,hn.hole,h3⟩)
    ·obtain ⟨h1, _, h3⟩ := GQ hv
     exact .inr (.inr ⟨id,_,_,h1,.inr rfl,h3⟩)
    ·unfold fG at I
     split at I
     ·rename_i t ho
      rw[ho]at hst;exact hst.elim
     ·rename_i t ho
      rw[ho]at hst;exact hst.elim
     ·cases I
  refine(ic (s1:=s.put h.dst u g) (s:=⟨s.fr,g⟩) (wi g) (fun x M=>by rw[ei g x M]; cases x<;>rfl) rfl).2 ?_;have key:∀ N:List ai,St.eval ⟨s.fr,N⟩=s.eval:=fun N=>by funext x; cases x<;>rfl
  unfold Yields at hi|-;simp only[U]at hi|-;cases hw:cH ah s.fr q with
  |none=>rw[hw]at hi; exact hi.elim
  | some b =>
   rw[hw]at hi;cases b with
   |false=>exact⟨hi.1,by simp⟩
   | true =>
    refine⟨by simp,?_⟩;rw[key];rcases hpush with rfl|⟨x,rfl⟩|⟨id,y,x,hid,hy,rfl⟩
    ·exact hi.2
    ·exact Xm hi.2
    ·exact Xn hid hy hi.2
 ·cases I
def Hb(ah:Array aU)(d:Array Bool)(j:Nat):Prop :=
 ∀ o,ah[j]? = some o->∀ e∈o.after,KX .any e=true->d.getD e.on false=true
def tF(ah:Array aU)(d:Array Bool):Prop:=∀ j,d.getD j false=true->Hb ah d j
def Hc{d:Array Bool}(g:tF ah d):∀(n j i:Nat),Hb ah d j->waits ah n j i=true->d.getD i false=true
 |0,_,_,_,h=>by simp[waits]at h
 | n+1,j,i,q,h=>by
  unfold waits at h;split at h
  ·rename_i o ho
   rw[lG]at h;obtain⟨e,he,hb⟩:=h;simp only[aK,uY,beq_iff_eq]at hb;have k:=q o ho e (by simpa using he) hb.1;rcases hb.2 with rfl|v
   ·exact k
   ·exact Hc g n e.on i (g _ k) v
  ·cases h
def Hd{d:Array Bool}{j:Nat}(h:j∈od .any ah d):Hb ah d j:=by
 obtain⟨_,o,ho,k⟩:=mem_ready.1 h;intro o' g;rw[ho]at g;cases g;exact k
def CD{d:Array Bool}(q:tF ah d){j:Nat}(v:j∈od .any ah d):tF ah (d.setIfInBounds j true):=by
 intro k y o ho e he hb;by_cases g:j=k
 ·subst g
  exact getD_set_true (Hd v o ho e he hb)
 ·have:d.getD k false=true:=by
   have h:=y;simp[Array.getElem?_setIfInBounds_ne g]at h;simpa using h
  exact getD_set_true (q k this o ho e he hb)
def MI(s:St)(x y:Option Tmp)(v u:AV)(H1 g k:List ai)(h:∀ d,x=some d->y≠some d):(s.put x v H1).put y u g=(s.put y u k).put x v g:=by
 simp only[St.put,Xl s.fr v u h]
def MJ{d:Array Bool}{i:Nat}(h:i∈od .any ah d):d.getD i false=false:=by
 obtain⟨h0,_⟩:=mem_ready.1 h;rcases mo i d.size with h'|h'
 ·simp[h']at h0|-; exact h0
 ·simp[KZ h']at h0
def Xo{s':St}{i:Nat}{y:aU}(hi:ah[i]? = some y):∀(N:Nat) (d:Array Bool) (s:St) (v:AV) (H':List ai),tF ah d ->
  (∀ j q,ah[j]? = some q->j≠i->d.getD j true=false->waits ah ah.size j i=false->y.apart ah q=true/\q.apart ah y=true/\qh pf y q=true) ->
  i∈od .any ah d->Yields P pf ah y s v H'->vK P pf ah s' N (d.setIfInBounds i true) (s.put y.dst v H')->vK P pf ah s' (N+1) d s:=by
 intro N
 induction N with
 | zero =>
  intro d s v H' _ _ I O H;refine⟨fun h=>(by rw[h]at I; cases I),fun j M=>?_⟩;by_cases g:j=i
  ·subst g
   unfold vJ;simp only[hi];exact⟨v,H',O,H⟩
  ·have := ready_mono M g
   rw[H.1]at this;cases this
 | succ N ih =>
  intro d s v H' hcl V I O H;refine⟨fun h=>(by rw[h]at I; cases I),fun j M=>?_⟩;by_cases g:j=i
  ·subst g
   unfold vJ;simp only[hi];exact⟨v,H',O,H⟩
  ·have h1 := H.2 j (ready_mono M g)
   obtain⟨W,q,hoj,hall⟩:=mem_ready.1 M;unfold vJ at h1|-;simp only[hoj]at h1|-;obtain⟨u,Hj,hyj,hrest⟩:=h1;have hnw:waits ah ah.size j i=false:=by
    cases hw:waits ah ah.size j i with
    |false=>rfl
    | true =>
     have:=Hc hcl _ _ _ (Hd M) hw;rw[MJ I]at this;cases this
   obtain⟨a1,a2,a3⟩:=V j q hoj g W hnw;obtain⟨U,q1,q2⟩:=MH a1 a2 a3 O hyj;refine⟨u,U,q1,?_⟩;refine ih (d.setIfInBounds j true) (s.put q.dst u U) v Hj (CD hcl M) ?_ (ready_mono I (Ne.symm g)) q2 ?_
   ·intro k ok hk hki hun hno
    refine V k ok hk hki ?_ hno;by_cases hjk:j=k
    ·subst hjk; exact W
    ·rw[getD_set_ne true hjk]at hun; exact hun
   ·rw [amo _ _ g]
    have:=MI s y.dst q.dst v u H' Hj U (KY a1).2.1;rw[<-this];exact hrest
def MK{s':St}(hB:vI pf ah=true):∀(l:List aU) (k:Nat) (d:Array Bool) (s:St),l=ah.toList.drop k->tF ah d->d.size=ah.size ->
  (∀ j,j<ah.size->(d.getD j true=false↔k<=j))->k_ P pf ah l s s'->vK P pf ah s' l.length d s
 | [],k,d,s,M,_,U,g,h=>by
  simp only[k_]at h;refine⟨?_,h.symm⟩;apply amp.2;intro j q;obtain⟨h0,o,ho,_⟩:=mem_ready.1 q;have I:j<ah.size:=(mu.1 ho).1;have:=(g j I).1 h0;have hlen:(ah.toList.drop k).length=0:=by rw[<-M]; rfl
  simp at hlen;omega
 | o::l,k,d,s,M,V,U,g,h=>by
  obtain⟨v,H',hy,hrest⟩:=h;have h0:ah[k]? = some o:=by
   have:(ah.toList.drop k)[0]? = some o:=by rw[<-M]; rfl
   simpa using this
  have I:k<ah.size:=(mu.1 h0).1;simp only[vI,aK,dN,gH]at hB;obtain⟨_,N⟩:=hB;have W:∀ j,j<k->d.getD j false=true:=by
   intro j q;have hn:¬ (d.getD j true=false):=fun e=>by have:=(g j (by omega)).1 e; omega
   have:j<d.size:=by omega
   simp[this]at hn|-;exact hn
  have O:k∈od .any ah d:=by
   refine mem_ready.2 ⟨(g k I).2 (aM _),o,h0,fun e he hb=>?_⟩;have:=N k I;rw[h0]at this;simp only[aK,dN]at this;have h1:=this.1 e (by simpa using he);simp only[hb,yp,uZ,dT]at h1;exact W e.on h1
  refine Xo h0 l.length d s v H' V ?_ O hy ?_
  ·intro j oj q hjk hun hnw
   have y:j<ah.size:=(mu.1 q).1;have hkj:k<=j:=(g j y).1 hun;have:=N j y;rw[q]at this;simp only[aK,dN,gH]at this;have h1:=this.2 k (by omega);rw[h0]at h1;simp only[hnw,uZ,aK]at h1;exact⟨h1.1.1,h1.1.2,h1.2⟩
  ·refine MK (by simp only [vI, aK, dN, gH]; exact ⟨‹_›, N⟩) l (k + 1) _ _ ?_ (CD V O) (by simpa using U) ?_ hrest
   ·rw[<-sU,<-M]; rfl
   ·intro j y
    by_cases e:k=j
    ·subst e
     have:k<d.size:=by omega
     simp[this]
    ·rw [getD_set_ne true e, g j y]
     omega
def Xp{id:Nat}{s s':St}{E:af}{a:Act}{Q:Exit->Act->a_->Prop}(hm:P.follows .mixedOrders=true)(hB:vI pf ah=true)(d:dX s E a)
  (h:k_ P pf ah ah.toList s s') (y:∀ g w',gB E s' g w'->Q .normal g w'):∀ q:Option Nat,(Code.region id ah true).wpIn (fz q) 0 P Q a E.w:=by
 intro q;have v:dX s { E with w:={ E.w with drawn:=E.w.drawn+1 } } a:=⟨d.H,eh (af.lH (Ext.drawn E.w _)) _ d.fr,Gk d.heap (af.lH (Ext.drawn E.w _)) d.defers,d.heap.ext (Ext.drawn E.w _)⟩
 refine wpIn_region_any hm (CB (pf:=pf) _ _ s { E with w:={ E.w with drawn:=E.w.drawn+1 } } a v ?_ (fun g w' I=>y g w' (gB.after (af.lH (Ext.drawn E.w _)) I)) q);have:=MK (P:=P) (s':=s') hB ah.toList 0 (u3 ah.size false) s (by simp) (by
  intro j k;exfalso;rcases mo j ah.size with h'|h'
  ·simp[h']at k
  ·simp[KZ (xs:=u3 ah.size false) (by simpa using h')]at k) (by simp) (by intro j k; simp[k]) h
 simpa using this
def Xq{id:Nat}{s s':St}{E:af}{a:Act}{Q:Exit->Act->a_->Prop}(k:dX s E a)
  (h:k_ P pf ah ah.toList s s') (q:∀ g w',gB E s' g w'->Q .normal g w'):∀ d:Option Nat,(Code.region id ah false).wpIn (fz d) 0 P Q a E.w:=by
 intro d;refine wpIn_region ?_;have:=G' (Q:=Q) ah.toList 0 s s' E a (by simp) h k q d;rw[List.range_eq_range'];simpa using this
end Go.AL

namespace Go.AL
open Go
variable [Dr]
inductive cD where
 |normal
 |exit (id:Nat)
 |ret
 deriving DecidableEq
def cD.toExit:cD->Exit
 |.normal=>.normal
 |.exit id=>.exit id
 |.ret=>.ret
structure af.gC (m:Nat) (E E':af):Prop where
 bx:∀ id,id<m->E.bx id 0->E'.bx id 0
 size:E.w.heap.size<=E'.w.heap.size
 same:∀ b,b<E.w.heap.size->¬ E.ab b->E'.w.heap[b]? = E.w.heap[b]?
 ab:∀ b,b<E.w.heap.size->¬ E.ab b->¬ E'.ab b
 live:∀ id,id<m->E.bx id 0->E'.live id 0->E.live id 0/\E'.ae[id]? = E.ae[id]?
 X:∀ b,b<E.w.heap.size->(E'.X b↔E.X b)/\(E'.X.z b↔E.X.z b)
 rl:∀ l h,h<(E.X.r l).length->h<(E'.X.r l).length/\∀ q,(E'.X.r l)[h]? = some (some q)->(E.X.r l)[h]? = some (some q)
 env:fw E.w E'.w
 grow:∀ id,id<m->∀ l o,E.H[id]? = some o->o.dW=some l->E'.live id 0->(∃ t,E'.X.r l=E.X.r l++t)/\∃ o',E'.H[id]? = some o'/\o'.dW=some l
def af.le.toM{m:Nat}{E E':af}(h:E.le E'):E.gC m E':=⟨fun id _ d=>h.bx id 0 d,h.size,h.same,h.ab,fun id _ d g=>h.live id 0 d g,fun b _=>by rw[show E'.X.x=E.X.x from h.X.1,show E'.X.z=E.X.z from h.X.2]; exact⟨Iff.rfl,Iff.rfl⟩,h.rl,h.env,fun id _ l o h1 k q=>h.grow id l o h1 k q⟩
def ML(H:List ai):Prop:=∀ o∈H,o.aV = some 0
def af.gC.full{m:Nat}{E E':af}(h:E.gC m E')(hX:E'.X.x=E.X.x/\E'.X.z=E.X.z)(hm:E.H.length<=m)(k:ML E.H):E.le E':=by
 have key:∀ id al,E.bx id al->id<m/\al=0:=by
  rintro id al ⟨o,ho,q⟩;have h1:=aY ho;have g:=q.2 0 (k o (List.mem_of_getElem? ho));exact⟨by omega,by omega⟩
 refine⟨fun id al d=>?_,h.size,h.same,h.ab,fun id al d v=>?_,hX,h.rl,h.env,fun id l o h1 g y=>h.grow id (eU (aY h1) hm) l o h1 g y⟩
 ·obtain ⟨h1, rfl⟩ := key id al d
  exact h.bx id h1 d
 ·obtain ⟨h1, rfl⟩ := key id al d
  exact h.live id h1 d v
def af.gC.trans{m:Nat}{E E' O:af}(h:E.gC m E')(h':E'.gC m O):E.gC m O where
 bx:=fun id hi g=>h'.bx id hi (h.bx id hi g)
 size:=Nat.le_trans h.size h'.size
 same:=fun b hb ho=>by rw[h'.same b (eU hb h.size) (h.ab b hb ho),h.same b hb ho]
 ab:=fun b hb ho=>h'.ab b (eU hb h.size) (h.ab b hb ho)
 live:=fun id hi U hl=>by
  obtain⟨k,y⟩:=h'.live id hi (h.bx id hi U) hl;obtain⟨I,M⟩:=h.live id hi U k;exact⟨I,by rw[y,M]⟩
 X:=fun b hb=>by
  have h1:=h'.X b (eU hb h.size);have d:=h.X b hb;exact⟨h1.1.trans d.1,h1.2.trans d.2⟩
 rl:=fun l i hi=>by
  obtain⟨k,y⟩:=h.rl l i hi;obtain⟨I,M⟩:=h'.rl l i k;exact⟨I,fun q hq=>y q (M q hq)⟩
 env:=h.env.trans h'.env
 grow:=fun id hi l o h1 d N=>by
  have g:E.bx id 0:=⟨o,h1,ai.F8 d,fun v N=>Nat.zero_le _⟩
  obtain⟨V,_⟩:=h'.live id hi (h.bx id hi g) N;obtain⟨⟨t,ht⟩,o',g1,g2⟩:=h.grow id hi l o h1 d V;obtain⟨⟨t',W⟩,o'',g3,g4⟩:=h'.grow id hi l o' g1 g2 N;exact⟨⟨t++t',by rw[W,ht,List.append_assoc]⟩,o'',g3,g4⟩
def fy(m:Nat)(E:af)(s':St)(h:Act)(w':a_):Prop :=
 ∃ d g,dX s' { w:=w',H:=s'.H,ae:=d,X:=g } h/\E.gC m { w:=w',H:=s'.H,ae:=d,X:=g }
def gB.toM{m:Nat}{E:af}{s':St}{a:Act}{w:a_}(h:gB E s' a w):fy m E s' a w:=let ⟨ae,r,h1,d⟩:=h; ⟨ae,E.X.re r,h1,d.toM⟩
def fy.after{m:Nat}{E E':af}{s':St}{d:Act}{w':a_}(h:E.gC m E')(h':fy m E' s' d w'):fy m E s' d w':=by
 obtain⟨g,k,h1,q⟩:=h';exact⟨g,k,h1,h.trans q⟩
def fy.refl{m:Nat}{s:St}{E:af}{a:Act}(h:dX s E a):fy m E s a E.w:=(gB.refl h).toM
def j8:Code->Bool
 |.seq a b=>j8 a&&j8 b
 |.cond _ a b=>j8 a&&j8 b
 |.block _ c=>j8 c
 |.loop c=>j8 c
 |.scope c=>j8 c
 |.rangeFunc ..=>false
 |_=>true
def ig(d:Option Nat)(c:Code):Prop:=d=none\/j8 c=true
def ig.seq1{d:Option Nat}{a b:Code}(h:ig d (.seq a b)):ig d a:=h.imp id fun h=>by
 have h:(j8 a&&j8 b)=true:=h;exact(aK _ _▸h).1
def ig.MM{d:Option Nat}{a b:Code}(h:ig d (.seq a b)):ig d b:=h.imp id fun h=>by
 have h:(j8 a&&j8 b)=true:=h;exact(aK _ _▸h).2
def ig.cond{d:Option Nat}{o:cw}{a b:Code}(t:Bool)(h:ig d (.cond o a b)):ig d (if t then a else b):=h.imp id fun h=>by
 have h:(j8 a&&j8 b)=true:=h;cases t
 ·exact(aK _ _▸h).2
 ·exact(aK _ _▸h).1
def ig.block{d:Option Nat}{i:Nat}{a:Code}(h:ig d (.block i a)):ig d a:=h
def ig.loop{d:Option Nat}{a:Code}(h:ig d (.loop a)):ig d a:=h
def MN(c:Code):ig none c:=.inl rfl
def en(P:aj)(m:Nat)(c:Code)(s:St)(x:cD)(s':St):Prop :=
 ∀(d:Option Nat),ig d c->∀(E:af) (a:Act),dX s E a->c.wpIn (fz d) 0 P (fun e g h=>e=x.toExit/\fy m E s' g h) a E.w
def bG(m:Nat)(s s':St):Prop:=∀(E:af) (a:Act),dX s E a->fy m E s' a E.w
def bG.refl{m:Nat}(s:St):bG m s s:=fun _ _ h=>fy.refl h
def bG.trans{m:Nat}{s s1 s2:St}(h:bG m s s1)(h':bG m s1 s2):bG m s s2:=fun E a d=>by
 obtain⟨ae,X,h1,g⟩:=h E a d;exact fy.after g (h' _ a h1)
def fy.weaken{m:Nat}{E:af}{s s':St}{a:Act}{w:a_}(h:fy m E s a w)(d:bG m s s'):fy m E s' a w:=by
 obtain⟨ae,X,h1,g⟩:=h;exact fy.after g (d _ a h1)
section rules
variable {P:aj} {m:Nat} {s s' s1:St} {x:cD}
def vL{c:Code}(d:bG m s s1)(h:en P m c s1 x s'):en P m c s x s':=fun g ho E a k=>by
 obtain⟨ae,X,h1,q⟩:=d E a k;exact wpIn_mono (h g ho { w:=E.w,H:=s1.H,ae:=ae,X:=X } a h1) fun e I M ⟨v,y⟩=>⟨v,fy.after q y⟩
def vM{c:Code}(h:en P m c s x s1)(d:bG m s1 s'):en P m c s x s':=fun g ho E a k =>
 wpIn_mono (h g ho E a k) fun _ _ _ ⟨q,v⟩=>⟨q,v.weaken d⟩
def Xr:en P m .skip s .normal s:=fun _ _ _ _ d=>wpIn_skip ⟨rfl,fy.refl d⟩
def Xs:en P m .ret s .ret s:=fun _ _ _ _ d=>wpIn_ret ⟨rfl,fy.refl d⟩
def Xt{id:Nat}:en P m (.exit id) s (.exit id) s:=fun _ _ _ _ d=>wpIn_exit ⟨rfl,fy.refl d⟩
def Xu{pf:bP->Bool}{id:Nat}{ah:Array aU}{d:Bool}(hm:P.follows .mixedOrders=true)(v:d=true->vI pf ah=true)(h:k_ P pf ah ah.toList s s') :
  en P m (.region id ah d) s .normal s':=fun k ho E a q=>by
 cases d with
 |false=>exact Xq q h (fun y w' g=>⟨rfl,g.toM⟩) k
 |true=>exact Xp hm (v rfl) q h (fun y w' g=>⟨rfl,g.toM⟩) k
def MO{c d:Code}(h:en P m c s .normal s1)(h':en P m d s1 x s'):en P m (.seq c d) s x s':=fun g ho E a k =>
 wpIn_seq (wpIn_mono (h g ho.seq1 E a k) fun e q U ⟨v,y⟩=>by
  subst v;obtain⟨ae,X,I,M⟩:=y;exact wpIn_mono (h' g ho.MM _ q I) fun _ _ _ ⟨N,O⟩=>⟨N,fy.after M O⟩)
def MP{c d:Code}(h:en P m c s x s')(k:x≠.normal):en P m (.seq c d) s x s':=fun q ho E a v =>
 wpIn_seq (wpIn_mono (h q ho.seq1 E a v) fun e I M ⟨y,g⟩=>by
  subst y;cases x with
  |normal=>exact(k rfl).elim
  |exit id=>exact⟨rfl,g⟩
  |ret=>exact⟨rfl,g⟩)
def MQ{o:cw}{c d:Code}{b:Bool}(hb:s.eval o=.lit (.bool b))(h:en P m (if b then c else d) s x s'):en P m (.cond o c d) s x s':=fun k ho E a g=>by
 have:=g.eval o;rw[hb]at this;simp only[ad]at this;exact wpIn_cond this (h k (ho.cond b) E a g)
def cD.inBlock(id:Nat):cD->cD
 |.exit i=>if i=id then .normal else .exit i
 |x=>x
def Xv{id:Nat}{c:Code}(h:en P m c s x s'):en P m (.block id c) s (x.inBlock id) s':=fun g ho E a k =>
 wpIn_block (wpIn_mono (h g ho E a k) fun e v y ⟨q,d⟩=>by
  subst q;cases x with
  |normal=>exact⟨rfl,d⟩
  | exit i =>
   simp only[cD.toExit,Exit.inBlock,cD.inBlock];split
   ·exact⟨rfl,d⟩
   ·exact⟨rfl,d⟩
  |ret=>exact⟨rfl,d⟩)
def vN(P:aj)(m:Nat)(c:Code):Nat->St->cD->St->Prop
 |0,s,x,s'=>x≠.normal/\en P m c s x s'
 |n+1,s,x,s'=>∃ s1,en P m c s .normal s1/\vN P m c n s1 x s'
def nt(P:aj)(m:Nat)(c:Code)(s:St)(x:cD)(s':St):Prop:=∃ n,vN P m c n s x s'
def nt.stop{c:Code}(h:en P m c s x s')(d:x≠.normal):nt P m c s x s':=⟨0,d,h⟩
def nt.next{c:Code}(h:en P m c s .normal s1)(h':nt P m c s1 x s'):nt P m c s x s':=let ⟨n,hn⟩:=h'; ⟨n+1,s1,h,hn⟩
def nt.pre{c:Code}(d:bG m s s1)(h:nt P m c s1 x s'):nt P m c s x s':=by
 obtain⟨n,hn⟩:=h;cases n with
 |zero=>exact⟨0,hn.1,vL d hn.2⟩
 | succ n =>
  obtain⟨s2,h1,g⟩:=hn;exact⟨n+1,s2,vL d h1,g⟩
def MR{c:Code}(h:nt P m c s x s'):en P m (.loop c) s x s':=fun U ho E a hs b k cs hro hb q=>by
 obtain⟨n,hn⟩:=h;have key:∀(n:Nat) (s1:St) (d:af) (a:Act),dX s1 d a->E.gC m d->vN P m c n s1 x s' ->
   ∃ e v w',(e=x.toExit/\fy m E s' v w')/\ArrivesIn (Machine.fenced P (fz U)) P (lone (b.atR a (.code c::.inLoop c::k)) cs d.w) b k cs e v w':=by
  intro n
  induction n with
  | zero =>
   intro s1 d a N O I;obtain⟨hx,M⟩:=I;obtain⟨e,V,w1,⟨y,h4⟩,g⟩:=M U ho.loop d a N b (.inLoop c::k) cs hro hb q;refine⟨e,V,w1,⟨y,fy.after O h4⟩,?_⟩;subst y;exact .pass (x:=.inLoop c) rfl (fun _ _=>.inl (by cases x<;>simp_all[cD.toExit])) g
  | succ n ih =>
   intro s1 d a N O I;obtain⟨s2,M,hrest⟩:=I;obtain⟨e,V,w1,⟨y,ae,X,h5,h6⟩,g⟩:=M U ho.loop d a N b (.inLoop c::k) cs hro hb q;subst y;obtain⟨e2,a2,w2,W,harr2⟩:=ih s2 _ V h5 (O.trans h6) hrest;exact⟨e2,a2,w2,W,.of_steps (StepsIn.trans g (.one (fenced_calm hb q rfl) stepR_inLoop)) harr2⟩
 obtain⟨e,v,w',W,g⟩:=key n s E a hs (af.le.refl E).toM hn;exact⟨e,v,w',W,.of_steps (.one (fenced_calm hb q rfl) stepR_loop) g⟩
end rules
def CE(P:aj)(s:St):ResultVar->Option AV
 |.tmp t=>some (s.fr.getD t .undef)
 |.cell a t=>nl P t (s.fr.getD a .undef) s.H
def oB(P:aj)(s:St):List ResultVar->Option (List AV)
 | []=>some []
 | r::rs=>match CE P s r,oB P s rs with
  |some v,some d=>some (v::d)
  |_,_=>none
def fH:List AV->AV
 | [v]=>v
 |d=>.tuple d
def He(tmps:Array ao):ResultVar->Sem ao
 |.tmp t=>pure (tmps.getD t undef)
 |.cell a t=>do loadVar t (<- asAddr (tmps.getD a undef))
def Xw{P:aj}{s:St}{E:af}{a:Act}(k:dX s E a){r:ResultVar}{v:AV}(h:CE P s r=some v) :
  ∃ u,(He a.tmps r).run P E.w=.ok u E.w/\ad E v u:=by
 cases r with
 | tmp t =>
  simp only[CE,bf]at h;subst h;exact⟨_,rfl,k.eval (.tmp t)⟩
 | cell x t =>
  simp only[CE]at h;rw[<-k.H]at h;have d:=k.eval (.tmp x);simp only[St.eval,Act.eval]at d;obtain⟨u,q,y⟩:=Lu k.heap h d;refine⟨u,?_,y⟩;have I:∃ b o,a.tmps.getD x undef=.pointer (some ⟨b,o,none⟩):=by
   unfold nl at h;split at h
   case h_2=>cases h
   split at h
   ·rename_i g
    rw[g]at d;simp only[ad]at d;obtain⟨_,b,o,e,_⟩:=d;exact⟨b,o,e⟩
   ·rename_i g
    rw[g]at d;simp only[ad]at d;obtain⟨⟨b,o,e⟩,_⟩:=d;exact⟨b,o,e⟩
   ·rename_i g
    rw[g]at d;simp only[ad]at d;obtain⟨⟨b,o,e⟩,_⟩:=d;exact⟨b,o,e⟩
   ·cases h
  obtain⟨b,o,e⟩:=I;show (do loadVar t (<- asAddr (a.tmps.getD x undef)):Sem ao).run P E.w=.ok u E.w
  rw[e]at q|-;simpa[Instr.loadAt,Instr.sureAddr,asAddr]using q
def Hg{P:aj}{s:St}{E:af}{a:Act}(k:dX s E a):∀(rs:List ResultVar) (d:List AV),oB P s rs=some d ->
  ∃ g:List ao,(rs.mapM (He a.tmps)).run P E.w=.ok g E.w/\ax E d g
 | [],d,h=>by simp[oB]at h; subst h; exact⟨[],rfl,by simp[ax]⟩
 | r::rs,d,h=>by
  simp only[oB]at h;split at h
  case h_2=>cases h
  rename_i v q h1 y;cases h;obtain⟨u,I,M⟩:=Xw k h1;obtain⟨g,N,O⟩:=Hg k rs q y;refine⟨u::g,?_,by simp only[ax]; exact⟨M,O⟩⟩;simp only[List.mapM_cons,cr];rw[I];simp only[cf];rw[N];rfl
def MS(fn:Func)(tmps:Array ao):results fn tmps=(do let d <- fn.results.mapM (He tmps); pure (if h:d.size=1 then d[0] else .tuple d)):=by
 unfold results;congr 1
def rh(args:List AV)(n:Nat):List AV:=args++cB (n-args.length) .undef
def Hh{E:af}:∀(d:List ao),ax E (cB d.length .undef) d
 | []=>by simp[ax]
 |_::d=>by simp only[cn,List.replicate_succ,ax,ad]; exact⟨trivial,Hh d⟩
structure nv (E E':af):Prop where
 H:E'.H=E.H
 ae:E'.ae=E.ae
 size:E.w.heap.size<=E'.w.heap.size
 same:∀ b,b<E.w.heap.size->¬ E.X b->¬ E'.X b/\E'.w.heap[b]? = E.w.heap[b]?
 X:∀ b,E'.X b->b<E'.w.heap.size
 r:E'.X.r=E.X.r
def nv.ab{E E':af}(h:nv E E')(b:Nat):E'.ab b↔E.ab b:=by unfold af.ab af.sat; rw[h.ae,h.r]
def nv.toC{E E':af}(h:nv E E'):E.bU E' :=
 ⟨fun b hb=>⟨⟨eU hb.1 h.size,fun ho=>hb.2.1 ((h.ab b).1 ho),(h.same b hb.1 hb.2.2).1⟩,(h.same b hb.1 hb.2.2).2⟩⟩
mutual
def MT{E E':af}(h:nv E E'):∀(a:AV) {c:ao},ad E a c->ad E' a c
 |.undef,_,_=>by simp[ad]
 |.lit v,c,d=>by simpa only[ad]using d
 |.nils,c,d=>by simpa only[ad]using d
 |.list k rZ,c,d=>fE h.toC _ (by simp[AV.closed]) d
 |.listF ks rZ,c,d=>fE h.toC _ (by simp[AV.closed]) d
 | .agg cells,c,d=>by
  simp only[ad]at d|-;obtain⟨cs,e,h1,g⟩:=d;exact⟨cs,e,h1,tG h cells g⟩
 | .tuple cells,c,d=>by
  simp only[ad]at d|-;obtain⟨cs,e,g⟩:=d;exact⟨cs,e,tG h cells g⟩
 |.cptr cells,c,d=>fE h.toC _ (by simp[AV.closed]) d
 | .ptr id al k row q,c,d=>by
  simp only[ad,af.bx,af.live,h.H,h.ae]at d|-;exact d
 | .vQ k id al oF n,c,d=>by
  simp only[ad,af.bx,af.live,h.H,h.ae]at d|-;exact d
 | .map id,c,d=>by
  simp only[ad,af.bx,af.live,h.H,h.ae]at d|-;exact d
 | .clo f caps,c,d=>by
  simp only[ad]at d|-;obtain⟨cs,e,g⟩:=d;exact⟨cs,e,tG h caps g⟩
 |.ifc,c,d=>by simpa only[ad]using d
 |.emptyS n,c,d=>by simpa only[ad]using d
 | .sub id l j,c,d=>by
  simp only[ad,af.bx,af.live,af.Li,h.H,h.r]at d|-;exact d
 | .svec ..,c,d=>by
  simp only[ad,af.bx,af.live,af.u_,h.H,h.r]at d|-;exact d
 | .sptr ..,c,d=>by
  simp only[ad,af.bx,af.live,af.u_,h.H,h.r]at d|-;exact d
def tG{E E':af}(h:nv E E'):∀(as:List AV) {g:List ao},ax E as g->ax E' as g
 | [],[],_=>by simp[ax]
 | [],_::_,d=>by simp[ax]at d
 |_::_,[],d=>by simp[ax]at d
 | a::as,v::g,d=>by
  simp only[ax]at d|-;exact⟨MT h a d.1,tG h as d.2⟩
end
def aJ.jy{E E':af}(H:aJ E)(h:nv E E'):aJ E' where
 gL:=H.gL.bU h.toC
 len:=by rw[h.ae,h.H]; exact H.len
 inj:=by rw[h.ae]; exact H.inj
 lt:=fun i b m hi=>by
  rw[h.ae]at hi;have:=H.lt i b m hi;exact⟨eU this.1 h.size,(h.same b this.1 this.2).1⟩
 X:=h.X
 obj:=fun i o hi=>by
  rw[h.H]at hi;exact nh (fun a _ q=>MT h a q) (by rw[h.ae]) (fun b n hb=>(h.same b (H.lt i b n hb).1 (H.lt i b n hb).2).2) (fun l _=>⟨by rw[h.r],fun k g m d=>(h.same g (H.cS l k g m d).1 (H.cS l k g m d).2).2⟩) (H.obj i o hi)
 fN:=by rw[h.r]; exact H.fN
 du:=by rw[h.r,h.ae]; exact H.du
 cS:=fun l k b m d=>by
  rw[h.r]at d;have:=H.cS l k b m d;exact⟨eU this.1 h.size,(h.same b this.1 this.2).1⟩
 uniq:=by rw[h.H]; exact H.uniq
 ja:=by rw[h.H,h.r]; exact H.ja
def dX.jy{s:St}{E E':af}{a:Act}(d:dX s E a)(h:nv E E'){l:List Deferred}(hm:pb E'.w E'.X l):dX s E' { a with defers:=l } :=
 ⟨by rw[h.H]; exact d.H,tG h _ d.fr,hm,d.heap.jy h⟩
def MU{P:aj}{fn:Func}{tmps:Array ao}{R:Ending->a_->Prop}:∀(l:List Deferred) (w:a_) (X:XS),pb w X l ->
  (∀ w',w'.heap.size=w.heap.size->(∀ b,w'.heap[b]? ≠ w.heap[b]? -> X b/\X.z b)->fw w w'->∃ v,(results fn tmps).run P w'=.ok v w'/\R (.returned v) w')->LeavesInM (fz none) 0 P fn tmps R l .returning w
 | [],w,X,_,h=>h w rfl (fun b hb=>(hb rfl).elim) (fw.refl w)
 | d::l,w,X,hm,h=>by
  obtain⟨D,e,h1,M,N⟩:=hm.2 d cX;subst e;have hlt:D<w.heap.size:=(mu.1 h1).1;have g:∀ b,b≠D->(w.putObj D (.deferred none)).heap[b]? = w.heap[b]? := fun b hb=>World.putObj_heap_other hb;have I:(w.putObj D (.deferred none)).heap.size=w.heap.size:=by simp[World.putObj]
  refine⟨by simp,.inl ⟨D,_,rfl,run_takeDeferred h1,MU l _ X ⟨(pW.1 hm.1).2,fun O k=>?_⟩ fun w' U V W=>h w' (by rw[U,I]) (fun b hb=>?_) (fw.trans ⟨rfl,rfl,rfl,by first|exact fun _=>aM _|exact fun _=>Nat.le_add_right _ _⟩ W)⟩⟩
  ·obtain ⟨q, y, k1, k2, k3⟩ := hm.2 O (List.mem_cons_of_mem _ k)
   refine⟨q,y,?_,k2,k3⟩;rw[g q (fun e=>(pW.1 hm.1).1 (by rw[<-e,<-y]; exact k))];exact k1
  ·by_cases e : b = D
   ·subst e
    exact⟨M,N⟩
   ·refine V b ?_
    rw[g b e];exact hb
def MV{P:aj}{f:bP}{fn:Func}{c:Code}{args:Array ao}{w:a_}{R:Ending->a_->Prop}(k:P.funcs[f]? = some fn)(hb:fn.body=some c)
  (h : c.wpIn (fz none) 0 P (fun e g d => (e = .normal \/ e = .ret) /\ ∃ X, pb d X g.defers /\ ∀ w', w'.heap.size = d.heap.size -> (∀ b, w'.heap[b]? ≠ d.heap[b]? -> X b /\ X.z b) -> fw d w' -> ∃ v, (results fn g.tmps).run P w' = .ok v w' /\ R (.returned v) w')
   { tmps:=args++u3 (fn.ntmps-args.size) undef,defers:=[] } w):Calls P f args w R:=by
 refine(callsIn_wide (n:=0)).1 (callsIn_of_wp_marks (F:=fz none) k hb trivial (wpIn_mono h fun e g d q=>?_));obtain⟨he,X,h1,y⟩:=q;have:=MU (P:=P) (fn:=fn) (tmps:=g.tmps) (R:=R) g.defers d X h1 y;rcases he with rfl|rfl
 ·exact this
 ·exact this
def MW{m:Nat}{E:af}{s':St}{k:List (Option (Nat × Nat))}{h:XS}{v:Act}{g w':a_}(HE:aJ E)(N:dX s' { w:=g,H:=s'.H,ae:=k,X:=h } v)
  (d:({ E with X:=⟨E.X.x,fun _=>False,E.X.r⟩ }:af).gC m { w:=g,H:=s'.H,ae:=k,X:=h }) (h1:w'.heap.size=g.heap.size) (y:∀ b,w'.heap[b]? ≠ g.heap[b]? -> h b/\h.z b) (O:fw g w') :
  dX s' { w:=w',H:=s'.H,ae:=k,X:=E.X.re h.r } { v with defers:=[] }/\E.gC m { w:=w',H:=s'.H,ae:=k,X:=E.X.re h.r }:=by
 have M:∀ b,b<E.w.heap.size->w'.heap[b]? = g.heap[b]? := fun b hb=>amq fun q=>((d.X b hb).2.1 (y b q).2).elim;have U:E.w.heap.size<=g.heap.size:=d.size;have jy:nv { w:=g,H:=s'.H,ae:=k,X:=h } { w:=w',H:=s'.H,ae:=k,X:=E.X.re h.r } :=
  ⟨rfl, rfl, by show g.heap.size <= w'.heap.size; omega, fun b hb I => ⟨fun he => I ((d.X b (HE.X b he)).1.2 he), amq fun q => I (y b q).1⟩, fun b hb => by
   have:=HE.X b hb;show b<w'.heap.size
   omega,rfl⟩
 refine⟨N.jy jy (Gj _ _),⟨d.bx,by show E.w.heap.size<=w'.heap.size; omega,fun b hb ho=>?_,d.ab,d.live,fun b _=>⟨Iff.rfl,Iff.rfl⟩,d.rl,d.env.trans O,d.grow⟩⟩;show w'.heap[b]? = E.w.heap[b]?
 rw[M b hb];exact d.same b hb ho
def MX{E:af}(HE:aJ E):nv E { E with X:=⟨E.X.x,fun _=>False,E.X.r⟩ }:=⟨rfl,rfl,aM _,fun b _ d=>⟨d,rfl⟩,HE.X,rfl⟩
def Xx{P:aj}{f:bP}{args:List AV}{v:AV}{H1:List ai}(h:fO P f args [] v H1)(ha:AV.bM args=true)(hv:v.closed=true):dP P f args v:=by
 intro H E O hH HE U
 let E0:af:={ w:=E.w,H:=[],ae:=[],X:=(E.X.or E.ab).re fh }
 have I:∀ b,¬ E0.ab b:=by rintro b (⟨id,c,W⟩|⟨l,k,c,d⟩); simp[E0]at W; simp[E0,fh]at d
 have hC:E.bU E0:=⟨fun b hb=>⟨⟨hb.1,I b,fun g=>g.elim hb.2.2 hb.2.1⟩,rfl⟩⟩
 have HE0:aJ E0:=by
  refine⟨rfl,?_,?_,?_,?_,HE.gL.bU hC,fun l k l' k' b m n d=>by simp[E0,fh]at d,fun i b m l k n hi=>by simp[E0]at hi,fun l k b m d=>by simp[E0,fh]at d,fun i j o o' l hi=>by simp[E0]at hi,fun l _ k q d=>by simp[E0,fh]at d⟩
  ·intro i j b m n hi; simp[E0]at hi
  ·intro i b m hi; simp[E0]at hi
  ·rintro b (g | ho)
   ·exact HE.X b g
   ·exact(HE.B7 ho).1
  ·intro i o hi; simp[E0]at hi
 refine(h E0 O rfl HE0 (qT hC args ha U)).mono ?_;rintro _ w' ⟨c,N,H',rfl,⟨rfl,rfl⟩,V,r',g1,g2,y⟩;have M:Ext E.w w':=⟨y.size,fun b hb=>y.same b hb (I b),y.env⟩
 refine⟨c,N,H,rfl,⟨rfl,rfl⟩,E.ae,E.X.r,?_,?_,?_⟩
 ·rw [<- hH]
  exact fE (E:={ w:=w',H:=H',ae:=V,X:=E0.X.re r' }) (E':={ w:=w',H:=E.H,ae:=E.ae,X:=E.X })
   ⟨fun b hb=>⟨⟨hb.1,fun ho=>hb.2.2 (Or.inr ho),fun g=>hb.2.2 (Or.inl g)⟩,rfl⟩⟩ N hv g1
 ·rw[<-hH]; exact HE.ext M
 ·rw[<-hH]; exact af.lH M
end Go.AL

namespace Go.AL
open Go
variable [Dr]
variable {P:aj} {pf:bP->Bool} {ah:Array aU}
def oC(r:cw->AV):Op->Option Nat
 | .load _ a=>match r a with
  |.ptr id _ _ _ _=>some id
  |.sptr id _ _ _ _ _=>some id
  |_=>none
 | .lookup _ m _ _=>match r m with
  |.map id=>some id
  |.sub id _ _=>some id
  |_=>none
 | .call c=>match c.args.toList with
  | [a]=>match r a with
   |.map id=>some id
   |_=>none
  |_=>none
 |_=>none
def MY{r:cw->AV}{H d:List ai}:∀{op:Op},(∀ id,oC r op=some id->d[id]? = H[id]?)->gA P r d op=gA P r H op:=by
 intro op h;cases op<;>simp only[gA]
 case load t a =>
  simp only[oC]at h;unfold nl;cases ha:r a with
  | ptr id al w row g =>
   rw[ha]at h;have:=h id rfl;simp only[this]
  | sptr id l j w row g =>
   rw[ha]at h;have:=h id rfl;simp only[this]
  |_=>rfl
 case lookup t m k ok =>
  simp only[oC]at h;have q:mz P t (r m) (r k) ok d=mz P t (r m) (r k) ok H:=WU (fun id e=>by rw[e]at h; exact h id rfl) (fun id l j e=>by rw[e]at h; exact h id rfl);rw[q];have h1:ia P t (r m) (r k) ok d=ia P t (r m) (r k) ok H:=by
   unfold ia;cases dO P t with
   |none=>rfl
   | some p =>
    obtain⟨v,y⟩:=p;cases hm:r m with
    | map id =>
     rw[hm]at h;have:=h id rfl;simp only[this]
    |_=>rfl
  rw[h1]
 case call c =>
  simp only[oC]at h;unfold rf;split
  ·rename_i a t I ha M
   rw[ha]at h;simp only[]at h;cases dO P t with
   |none=>rfl
   | some p =>
    cases hm:r a with
    | map id =>
     rw[hm]at h;have:=h id rfl;simp only[this]
    |_=>rfl
  ·rfl
def MZ{r d:cw->AV}(o:Op)(h:∀ x∈o.operands,r x=d x):oC r o=oC d o:=by
 cases o<;>simp only[oC]
 case load t a =>
  simp only[fg]at h;rw[h a (by simp)]
 case lookup t m k ok =>
  simp only[fg]at h;rw[h m (by simp)]
 case call c =>
  split
  ·rename_i a ha
   have:a∈(Op.call c).operands:=by
    show a∈c.operands
    have h1:a∈c.args:=by
     have:a∈c.args.toList:=by rw[ha]; simp
     simpa using this
    simp[uX,h1]
   rw[h a this]
  ·rfl
abbrev j9:=List (Nat × List Nat × Nat)
abbrev lf:=List (Nat × Nat)
def kept(W:j9)(j A:Nat):Prop:=∀ e∈W,e.1=j->A∉e.2.1/\A<e.2.2
def Hk(ah:Array aU):Bool :=
 (fo ah.size).any fun j => (fo j).any fun i => match ah[i]?, ah[j]? with
  |some x,some y=>fG x.op&&fG y.op && !waits ah ah.size j i
  |_,_=>false
def tH:Op->Bool
 | .call c=>match c.callee with
  |.value (.func _)=>true
  |_=>false
 |_=>false
def isVar:Op->Bool
 |.alloc _=>true
 |_=>false
def vO{op:Op}(h:isVar op=true):fG op=true:=by
 unfold isVar at h;split at h
 ·rfl
 ·cases h
def CF(ah:Array aU):Bool :=
 (fo ah.size).any fun j => (fo j).any fun i => match ah[i]?, ah[j]? with
  |some x,some y=>tH x.op&&isVar y.op && !waits ah ah.size j i
  |_,_=>false
def lg:Op->Bool
 |.mapEntry ..=>true
 |.entryStore ..=>true
 |_=>false
def Hl(ah:Array aU):Bool :=
 (fo ah.size).any fun j => (fo j).any fun i => match ah[i]?, ah[j]? with
  |some x,some y=>fG x.op&&lg y.op && !waits ah ah.size j i
  |_,_=>false
def nw(ah:Array aU):Bool:=(Hk ah||CF ah)||Hl ah
def M0{pf:bP->Bool}{op:Op}(h:lg op=true):dG pf op=.write:=by
 unfold lg at h;split at h
 ·rfl
 ·rfl
 ·cases h
def Xy{op:Op}(h:lg op=true):fG op=false:=by
 unfold lg at h;split at h
 ·rfl
 ·rfl
 ·cases h
def qj{pf:bP->Bool}{op:Op}(h:fG op=true):dG pf op=.write:=by
 unfold fG at h;split at h
 ·rfl
 ·rfl
 ·cases h
def CG{pf:bP->Bool}{op:Op}{X:Prop}(h:dG pf op≠.write):fG op=true->X:=fun ha=>(h (qj ha)).elim
def oD:Op->Bool
 |.buildSlice ..=>true
 | .call c=>match c.callee with
  |.builtin .append=>true
  |_=>false
 |_=>false
def ny(ah:Array aU)(op:Op):Bool:=(tH op&&CF ah)||(oD op&&nw ah)
def pn{ah:Array aU}{op:Op}(h:fG op=true):ny ah op=false:=by
 unfold fG at h;split at h
 ·rfl
 ·rfl
 ·cases h
def Xz{ah:Array aU}{op:Op}(h:lg op=true):ny ah op=false:=by
 unfold lg at h;split at h
 ·rfl
 ·rfl
 ·cases h
def XA{ah:Array aU}{op:Op}(h:ny ah op=true):nw ah=true:=by
 unfold ny at h;rw[uY,aK,aK]at h;rcases h with h|h
 ·unfold nw
  rw[h.2];simp
 ·exact h.2
def nz(d:List (Nat × ai))(H:List ai):List ai:=d.foldl (fun H p=>H.set p.1 p.2) H
def CH(W:j9)(j:Nat)(H:List ai)(d:List (Nat × ai)):Prop:=∀ p∈d,kept W j p.1/\∃ y,H[p.1]? = some y/\y9 y
def Step(P:aj)(pf:bP->Bool)(ah:Array aU)(R:lf)(W:j9)(j:Nat)(o:aU)(s:St)(v:AV)(H':List ai):Prop :=
 (dG pf o.op = .write -> ∀ A, kept W j A -> H'[A]? = s.H[A]?) /\ (dG pf o.op = .read -> cH ah s.fr o = some true -> ∀ id, oC s.eval o.op = some id -> (j, id) ∈ R) /\
  (fG o.op=true->nw ah=true->cH ah s.fr o=some true->H'.length=s.H.length/\∀ id,H'[id]? ≠ s.H[id]? -> ∃ e∈W,e.1=j/\id∈e.2.1) /\
  (ny ah o.op=true->dG pf o.op=.write->cH ah s.fr o=some true->∀ d,CH W j s.H d->Yields P pf ah o ⟨s.fr,nz d s.H⟩ v (nz d H'))
def M1(R:lf)(W:j9)(i j:Nat):Prop:=∀ id,(i,id)∈R->kept W j id
def CI(pf:bP->Bool)(ah:Array aU)(R:lf)(W:j9)(i:Nat)(x:aU)(j:Nat)(y:aU):Prop :=
 qh pf x y=true\/(dG pf x.op=.read/\dG pf y.op=.write/\M1 R W i j)\/(dG pf x.op=.write/\dG pf y.op=.read/\M1 R W j i)\/(fG x.op=true/\fG y.op=true/\nw ah=true) \/
  (dG pf x.op=.write/\ny ah x.op=true/\isVar y.op=true/\∀ e∈W,e.1=j->∀ id∈e.2.1,kept W i id) \/
  (fG x.op=true/\lg y.op=true/\nw ah=true/\∀ e∈W,e.1=i->∀ id∈e.2.1,kept W j id)
def M2{o:aU}{s:St}{v:AV}{H':List ai}(ho:isVar o.op=true)(h:Yields P pf ah o s v H')(g:cH ah s.fr o=some true->H'.length=s.H.length) :
  (cH ah s.fr o = some false /\ v = .tuple [] /\ H' = s.H) \/
   (cH ah s.fr o=some true/\∃ t id z y x m,o.op=.alloc t/\fF P t=some z/\s.H[id]? = some y/\qi z m id y v x/\H'=s.H.set id x):=by
 unfold Yields at h;cases k:cH ah s.fr o with
 |none=>rw[k]at h; exact h.elim
 | some b =>
  rw[k]at h;cases b with
  |false=>exact .inl ⟨rfl,h.1,h.2⟩
  | true =>
   right;refine⟨rfl,?_⟩;simp only[qj (vO ho)]at h;have g:=g k;rcases h with(h|⟨f,args,h1,_⟩)|(⟨t,id,m,d,I⟩|⟨t,id,d,I⟩)|q
   ·unfold isVar at ho
    split at ho
    ·rename_i t d
     rw[d]at h;simp only[dD,th]at h;split at h
     ·split at h
      ·cases h
       simp at g
      ·cases h
     ·split at h
      ·cases h
       simp at g
      ·cases h
    ·cases ho
   ·unfold isVar at ho
    split at ho
    ·rename_i t d
     rw[d]at h1;cases h1
    ·cases ho
   ·obtain ⟨z, y, x, h1, M, N, O⟩ := MG I
    exact⟨t,id,z,y,x,m,d,h1,M,N,O⟩
   ·rw [d] at ho
    cases ho
   ·unfold isVar at ho
    split at ho
    ·rename_i t d
     rw[d]at q;exact q.elim
    ·cases ho
def jL(P:aj)(op:Op)(id:Nat)(y:ai)(v:AV)(x:ai):Prop :=
 (∃ t z m,op=.alloc t/\fF P t=some z/\qi z m id y v x)\/∃ t,op=.makeMap t none/\y=.eD/\v=.map id/\x=.map [] 0
def jL.hole{op:Op}{id:Nat}{y x:ai}{v:AV}(h:jL P op id y v x):y9 y:=by
 rcases h with⟨_,_,_,_,_,h⟩|⟨_,_,rfl,_,_⟩
 ·exact h.hole
 ·exact .inr rfl
def jL.full{op:Op}{id:Nat}{y x d:ai}{v:AV}(h:jL P op id y v x)(h':y9 d):x≠d:=by
 rcases h with⟨_,_,_,_,_,h⟩|⟨_,_,_,_,rfl⟩
 ·exact h.full h'
 ·rcases h' with⟨k,rfl⟩|rfl<;>intro e<;>cases e
def jL.ne{op g:Op}{id k:Nat}{y d x q:ai}{v I:AV}(h:jL P op id y v x)(h':jL P g k d I q):x≠d:=h.full h'.hole
def Hm{o:aU}{s:St}{v:AV}{H':List ai}(ho:fG o.op=true)(h:Yields P pf ah o s v H')(k:cH ah s.fr o=some true->H'.length=s.H.length) :
  (cH ah s.fr o = some false /\ v = .tuple [] /\ H' = s.H) \/
   (cH ah s.fr o=some true/\∃ id y x,jL P o.op id y v x/\s.H[id]? = some y/\H'=s.H.set id x):=by
 cases g:isVar o.op with
 | true =>
  rcases M2 g h k with h|⟨h1,t,id,z,y,x,m,I,M,U,V,W⟩
  ·exact .inl h
  ·exact .inr ⟨h1,id,y,x,.inl ⟨t,z,m,I,M,V⟩,U,W⟩
 | false =>
  have hm:∃ t,o.op=.makeMap t none:=by
   unfold fG at ho;split at ho
   ·rename_i t d
    rw[d]at g;cases g
   ·rename_i t d
    exact⟨t,d⟩
   ·cases ho
  obtain⟨t,d⟩:=hm;unfold Yields at h;cases N:cH ah s.fr o with
  |none=>rw[N]at h; exact h.elim
  | some b =>
   rw[N]at h;cases b with
   |false=>exact .inl ⟨rfl,h.1,h.2⟩
   | true =>
    right;refine⟨rfl,?_⟩;simp only[qj ho]at h;have k:=k N;rcases h with(h|⟨f,args,h1,_⟩)|(⟨t',id,m,q,g⟩|⟨t',id,q,g⟩)|O
    ·rw [d] at h
     simp only[dD]at h;cases h;simp at k
    ·rw [d] at h1
     cases h1
    ·rw [d] at q
     cases q
    ·obtain ⟨h1, I, M⟩ := GQ g
     exact⟨id,_,_,.inr ⟨t,d,rfl,I,rfl⟩,h1,M⟩
    ·rw [d] at O
     exact O.elim
def M3{o:aU}{s:St}{t:aF}{id:Nat}{z:List ao}{y x:ai}{v:AV}{m:List (Option (List Kd))}(g:cH ah s.fr o=some true)(ho:o.op=.alloc t)(h:fF P t=some z)(d:s.H[id]? = some y)(hn:qi z m id y v x) :
  Yields P pf ah o s v (s.H.set id x):=by
 unfold Yields;rw[g,ho];exact .inr (.inl (.inl ⟨t,id,m,rfl,Ha h d hn⟩))
def Hn{o:aU}{s:St}{id:Nat}{v:AV}{x y:ai}(g:cH ah s.fr o=some true)(hn:jL P o.op id y v x)(d:s.H[id]? = some y):Yields P pf ah o s v (s.H.set id x):=by
 rcases hn with⟨t,z,m,h1,h,k⟩|⟨t,h1,rfl,rfl,rfl⟩
 ·exact M3 g h1 h d k
 ·unfold Yields
  rw[g,h1];exact .inr (.inl (.inr ⟨t,id,rfl,L6 d⟩))
def oE:ai->Bool
 |.a7 ..=>false
 |.mm ..=>false
 |.cM ..=>false
 |.bJ ..=>false
 |_=>true
def jL.no{op:Op}{id:Nat}{y x:ai}{v:AV}(h:jL P op id y v x):oE x=true/\oE y=true/\x≠.dead:=by
 rcases h with⟨_,_,_,_,_,⟨rfl,_,rfl⟩|⟨rfl,_,rfl⟩⟩|⟨_,_,rfl,_,rfl⟩
 ·exact⟨rfl,rfl,fun e=>by cases e⟩
 ·exact⟨rfl,rfl,fun e=>by cases e⟩
 ·exact⟨rfl,rfl,fun e=>by cases e⟩
def XB{t:aF}{id:Nat}{k:AV}{H:List ai}{x:ai}(h:H[id]? = some x)(d:oE x=true):kz P t (.map id) k H=none/\lN P t (.map id) k H=none:=by
 unfold kz lN;cases dO P t with
 |none=>exact⟨rfl,rfl⟩
 | some p =>
  simp only[h];cases x<;>first|exact⟨rfl,rfl⟩|cases d
def XC{t:aF}{id a:Nat}{k:AV}{H:List ai}{x:ai}(d:id≠a)(ha:a<H.length):kz P t (.map id) k (H.set a x)=(kz P t (.map id) k H).map fun p=>(p.1,p.2.set a x):=by
 unfold kz;cases dO P t with
 |none=>rfl
 | some p =>
  simp only[bg (Ne.symm d),List.length_set];split
  ·split
   ·split
    ·split
     ·split
      ·simp only [ff]
       rw[BP _ _ (by simpa using ha),oc _ _ d]
      ·rfl
     ·simp only [ff]
      rw[BP _ _ (by simpa using ha),oc _ _ d]
     ·rfl
    ·rfl
   ·rfl
  ·rfl
def XD{t:aF}{id a:Nat}{k:AV}{H:List ai}{x:ai}(d:id≠a):lN P t (.map id) k (H.set a x)=(lN P t (.map id) k H).map fun p=>(p.1,p.2.set a x):=by
 unfold lN;cases dO P t with
 |none=>rfl
 | some p =>
  simp only[bg (Ne.symm d)];split
  ·split
   ·split
    ·simp only [ff]
     rw[oc _ _ d]
    ·rfl
   ·rfl
  ·rfl
def XE{t:aF}{id a:Nat}{k v:AV}{H H':List ai}(d:id≠a)(ha:a<H.length)(h:kz P t (.map id) k H=some (v,H')):H'[a]? = H[a]? := by
 unfold kz at h;split at h
 case h_2=>cases h
 rename_i he;cases he;split at h
 case h_2=>cases h
 split at h
 case h_2=>cases h
 split at h
 case h_2=>cases h
 split at h
 ·split at h
  ·cases h
   rw[di (by simpa using ha),bg d]
  ·cases h
 ·cases h
  rw[di (by simpa using ha),bg d]
 ·cases h
def XF{t:aF}{id a:Nat}{k v:AV}{H H':List ai}(d:id≠a)(h:lN P t (.map id) k H=some (v,H')):H'[a]? = H[a]? := by
 unfold lN at h;split at h
 case h_2=>cases h
 rename_i he;cases he;split at h
 case h_2=>cases h
 split at h
 case h_2=>cases h
 split at h
 ·cases h
  rw[bg d]
 ·cases h
def XG{m s v:AV}{a:Nat}{x y:ai}{H k:List ai}(M:H[a]? = some y)(N:oE x=true/\oE y=true/\x≠.dead)(h:nq m s v (H.set a x)=some k)(O:k[a]? = some x) :
  ∃ H1,nq m s v H=some H1/\k=H1.set a x/\H1[a]? = some y:=by
 have I:=aY M;unfold nq at h|-;split at h
 case h_2=>cases h
 rename_i id st w j al oF n;have d:id≠a:=fun e=>by
  subst e;rw[bB I]at h;obtain⟨h1,_⟩:=N;cases x<;>first|cases h|cases h1
 rw[bg (Ne.symm d)]at h;split at h
 case h_2=>cases h
 rename_i l w' es cl w2 ver' rZ W U;split at h
 case isFalse=>cases h
 rename_i hc;split at h
 case h_2=>cases h
 rename_i i hi;split at h
 case h_2=>cases h
 rename_i key q bn hb;split at h
 case h_2=>cases h
 rename_i V;cases h;have g:j≠a:=fun e=>by
  subst e;rw[bB (by simpa using I)]at O;exact N.2.2 (g_ O).symm
 rw[bg (Ne.symm g)]at U;rw[W,U];simp only[iP hc,hi,hb,V];refine⟨_,rfl,?_,?_⟩
 ·rw[oc _ _ (Ne.symm d),oc _ _ (Ne.symm g)]
 ·rw[bg g,bg d,M]
def XH{m s v:AV}{a:Nat}{x y:ai}{H k:List ai}(I:H[a]? = some y)(M:oE x=true/\oE y=true/\x≠.dead)(h:oA m s v (H.set a x)=some k)(N:k[a]? = some x) :
  ∃ H1,oA m s v H=some H1/\k=H1.set a x/\H1[a]? = some y:=by
 have q:=aY I;unfold oA at h|-;split at h
 case h_2=>cases h
 rename_i id st j;have d:id≠a:=fun e=>by
  subst e;rw[bB q]at h;obtain⟨h1,_⟩:=M;cases x<;>first|cases h|cases h1
 rw[bg (Ne.symm d)]at h;split at h
 case h_2=>cases h
 rename_i l es ms cl V W U O;split at h
 case h_2=>cases h
 rename_i i hi;split at h
 case h_2=>cases h
 rename_i key bn hb;cases h;have g:j≠a:=fun e=>by
  subst e;rw[bB (by simpa using q)]at N;exact M.2.2 (g_ N).symm
 rw[bg (Ne.symm g)]at O;rw[U,O];simp only[hi,hb];refine⟨_,rfl,?_,?_⟩
 ·rw[oc _ _ (Ne.symm d),oc _ _ (Ne.symm g)]
 ·rw[bg g,bg d,I]
def XI{m s v:AV}{a:Nat}{x y:ai}{H:List ai}(g:H[a]? = some y)(h:oE x=true/\oE y=true/\x≠.dead){d:List ai}(hm:oA m s v H=some d):nq m s v H=none:=by
 unfold oA at hm;split at hm
 case h_2=>cases hm
 rfl
def XJ{op:Op}(O:lg op=true){r:cw->AV}{H U:List ai}{a:Nat}{x y:ai}{u:AV}(d:H[a]? = some y)(q:oE x=true/\oE y=true/\x≠.dead)(h:dD P r (H.set a x) op=some (u,U))(hk:U[a]? = some x) :
  ∃ H1,dD P r H op=some (u,H1)/\U=H1.set a x/\H1[a]? = some y:=by
 have M:=aY d;unfold lg at O;split at O
 ·rename_i t m k
  simp only[dD]at h|-;cases hm:r m with
  | map id =>
   rw[hm]at h;by_cases g:id=a
   ·subst g
    obtain⟨n1,n2⟩:=XB (P:=P) (t:=t) (k:=r k) (bB (a:=x) M) q.1;rw[n1,n2]at h;cases h
   ·rw [XC g M, XD g] at h
    cases he:kz P t (.map id) (r k) H with
    | some p =>
     rw[he]at h;simp only[ff]at h;obtain⟨p1,V⟩:=p;cases h;exact⟨V,rfl,rfl,by rw[XE g M he,d]⟩
    | none =>
     rw[he]at h;simp only[Option.map_none]at h;cases N:lN P t (.map id) (r k) H with
     | some p =>
      rw[N]at h;simp only[ff]at h;obtain⟨p1,V⟩:=p;cases h;exact⟨V,rfl,rfl,by rw[XF g N,d]⟩
     | none =>
      rw[N]at h;cases h
  | _ =>
   rw[hm]at h;unfold kz lN at h;cases hT:dO P t with
   |none=>rw[hT]at h; cases h
   |some p=>rw[hT]at h; cases h
 ·rename_i t m s v
  simp only[dD]at h|-;cases he:nq (r m) (r s) (r v) (H.set a x)with
  | some H2 =>
   rw[he]at h;cases h;obtain⟨H1,I,W,g3⟩:=XG d q he hk;rw[I];exact⟨H1,rfl,W,g3⟩
  | none =>
   rw[he]at h;cases hm:oA (r m) (r s) (r v) (H.set a x)with
   |none=>rw[hm]at h; cases h
   | some H2 =>
    rw[hm]at h;cases h;obtain⟨H1,I,W,g3⟩:=XH d q hm hk;rw[XI d q I,I];exact⟨H1,rfl,W,g3⟩
 ·cases O
def XK{o:aU}{s:St}{u:AV}{q:List ai}(g:lg o.op=true)(h:Yields P pf ah o s u q)(v:cH ah s.fr o=some true):dD P s.eval s.H o.op=some (u,q):=by
 unfold Yields at h;simp only[v,M0 g]at h;rcases h with(h|⟨f,args,h1,_⟩)|(⟨t,id,m,d,_⟩|⟨t,id,d,_⟩)|k
 ·exact h
 ·unfold lg at g
  split at g
  ·rename_i d
   rw[d]at h1;cases h1
  ·rename_i d
   rw[d]at h1;cases h1
  ·cases g
 ·rw [d] at g
  cases g
 ·rw [d] at g
  cases g
 ·unfold lg at g
  split at g
  ·rename_i d
   rw[d]at k;exact k.elim
  ·rename_i d
   rw[d]at k;exact k.elim
  ·cases g
def XL{R:lf}{W:j9}{i j:Nat}{M k:aU}{s:St}{v u:AV}{V g:List ai}(h1:M.apart ah k=true)(h2:k.apart ah M=true)(hc:CI pf ah R W i M j k)
  (hi:Yields P pf ah M s v V) (si:Step P pf ah R W i M s v V) (hj:Yields P pf ah k (s.put M.dst v V) u g) (sj:Step P pf ah R W j k (s.put M.dst v V) u g) :
  ∃ Hj1,Yields P pf ah k s u Hj1/\Step P pf ah R W j k s u Hj1/\Yields P pf ah M (s.put k.dst u Hj1) v g/\Step P pf ah R W i M (s.put k.dst u Hj1) v g:=by
 obtain⟨a1,a2,a3⟩:=KY h1;have wj:cH ah (s.put M.dst v V).fr k=cH ah s.fr k:=CC a1;have wi:∀ H2,cH ah (s.put k.dst u H2).fr M=cH ah s.fr M:=fun H2=>CC a3;have ej:∀ x∈k.op.operands,(s.put M.dst v V).eval x=s.eval x:=fun x hx=>eval_put a1 hx;have ei:∀ H2,∀ x∈M.op.operands,(s.put k.dst u H2).eval x=s.eval x:=fun H2 x hx=>eval_put a3 hx;have cj:=MZ k.op ej;have ci:=fun H2=>MZ M.op (ei H2);have evj:=MD (P:=P) (H:=V) k.op ej;have readJ:dG pf k.op=.read->Step P pf ah R W j k s u s.H:=fun q=>⟨fun d=>(by rw[q]at d; cases d),fun _ d id hid=>sj.2.1 q (by rw[wj]; exact d) id (by rw[cj]; exact hid),CG (by rw[q]; simp),fun _ d=>(by rw[q]at d; cases d)⟩
 have readI:dG pf M.op=.read->∀ H2 H3,Step P pf ah R W i M (s.put k.dst u H2) v H3:=fun q H2 H3=>⟨fun d=>(by rw[q]at d; cases d),fun _ d id hid=>si.2.1 q (by rw[wi]at d; exact d) id (by rw[ci]at hid; exact hid),CG (by rw[q]; simp),fun _ d=>(by rw[q]at d; cases d)⟩
 have frj:∀{H2 H3:List ai} {v':AV},Yields P pf ah k ⟨(s.put M.dst v V).fr,H2⟩ v' H3->Yields P pf ah k ⟨s.fr,H2⟩ v' H3:=fun {H2 _ _} h=>(ic (s1:=⟨(s.put M.dst v V).fr,H2⟩) (s:=⟨s.fr,H2⟩) wj (fun x hx=>by
  have:=ej x hx;cases x<;>exact this) rfl).1 h
 have fri:∀{H1 H2 H3:List ai} {v':AV},Yields P pf ah M ⟨s.fr,H2⟩ v' H3->Yields P pf ah M ⟨(s.put k.dst u H1).fr,H2⟩ v' H3:=fun {H1 H2 _ _} h=>(ic (s1:=⟨(s.put k.dst u H1).fr,H2⟩) (s:=⟨s.fr,H2⟩) (wi H1) (fun x hx=>by
  have:=ei H1 x hx;cases x<;>exact this) rfl).2 h
 have toJ:V=s.H->Step P pf ah R W j k s u g:=by
  intro e;subst e;exact⟨fun d A hA=>sj.1 d A hA,fun q d id hid=>sj.2.1 q (by rw[wj]; exact d) id (by rw[cj]; exact hid),fun ha ht d=>sj.2.2.1 ha ht (by rw[wj]; exact d),
   fun U d hwa σ hσ=>frj (sj.2.2.2 U d (by rw[wj]; exact hwa) σ hσ)⟩
 have toI:g=V->Step P pf ah R W i M (s.put k.dst u s.H) v g:=by
  intro e;subst e;exact⟨fun d A hA=>si.1 d A hA,fun q d id hid=>si.2.1 q (by rw[wi]at d; exact d) id (by rw[ci]at hid; exact hid),fun ha ht d=>si.2.2.1 ha ht (by rw[wi]at d; exact d),
   fun U d hwa σ hσ=>fri (si.2.2.2 U d (by rw[wi]at hwa; exact hwa) σ hσ)⟩
 have old:qh pf M k=true->∃ Hj1,Yields P pf ah k s u Hj1/\Yields P pf ah M (s.put k.dst u Hj1) v g:=fun hc=>MH h1 h2 hc hi hj;cases N:dG pf M.op with
 | pure =>
  obtain⟨e1,g1⟩:=y8 N hi;subst e1;refine⟨g,(ic wj ej rfl).1 hj,toJ rfl,
   (ic (s1:=s.put k.dst u g) (s:=⟨s.fr,g⟩) (wi g) (fun x hx=>by rw[ei g x hx]; cases x<;>rfl) rfl).2 (g1 g),⟨fun d=>(by rw[N]at d; cases d),fun q=>(by rw[N]at q; cases q),CG (by rw[N]; simp),fun _ d=>(by rw[N]at d; cases d)⟩⟩
 | read =>
  have e1:=tD N hi;subst e1;have hj':=(ic wj ej rfl).1 hj;refine⟨g,hj',toJ rfl,?_,readI N _ _⟩;have key:∀ H2:List ai,St.eval ⟨s.fr,H2⟩=s.eval:=fun H2=>by funext x; cases x<;>rfl
  have same:cH ah s.fr M=some true->gA P s.eval g M.op=gA P s.eval s.H M.op:=by
   intro d;cases O:dG pf k.op with
   | pure =>
    have:=(y8 O hj').1;rw[this]
   | read =>
    have:=tD O hj';rw[this]
   | write =>
    rcases hc with hc|⟨_,_,hap⟩|⟨hw',_,_⟩|⟨hw',_,_⟩|⟨hw',_⟩|⟨hw',_⟩
    ·obtain ⟨Hj1, q1, q2⟩ := old hc
     have q3:=(ic (s1:=s.put k.dst u Hj1) (s:=⟨s.fr,Hj1⟩) (wi Hj1) (fun x hx=>by rw[ei Hj1 x hx]; cases x<;>rfl) rfl).1 q2;have e2:g=Hj1:=tD N q3;subst e2;unfold Yields at q3 hi;simp only[N,d]at q3 hi;rw[key]at q3;rw[q3.2,hi.2]
    ·exact MY fun id hid=>sj.1 O id (hap id (si.2.1 N d id hid))
    ·rw [N] at hw'
     cases hw'
    ·rw [qj hw'] at N
     cases N
    ·rw [N] at hw'
     cases hw'
    ·rw [qj hw'] at N
     cases N
  refine(ic (s1:=s.put k.dst u g) (s:=⟨s.fr,g⟩) (wi g) (fun x hx=>by rw[ei g x hx]; cases x<;>rfl) rfl).2 ?_;unfold Yields at hi|-;simp only[N]at hi|-;cases d:cH ah s.fr M with
  |none=>rw[d]at hi; exact hi.elim
  | some b =>
   rw[d]at hi;cases b with
   |false=>exact⟨hi.1,by simp⟩
   | true =>
    refine⟨by simp,?_⟩;rw[key,same d];exact hi.2
 | write =>
  cases O:dG pf k.op with
  | pure =>
   obtain⟨e1,g1⟩:=y8 O hj;have e1':g=V:=e1;subst e1';refine⟨s.H,?_,⟨fun d=>(by rw[O]at d; cases d),fun q=>(by rw[O]at q; cases q),CG (by rw[O]; simp),fun _ d=>(by rw[O]at d; cases d)⟩,(ic (s1:=s.put k.dst u s.H) (s:=s) (wi s.H) (ei s.H) rfl).2 hi,toI rfl⟩;exact(ic (s1:=⟨(s.put M.dst v g).fr,s.H⟩) (s:=s) wj (fun x hx=>by
    have:=ej x hx;cases x<;>exact this) rfl).1 (g1 s.H)
  | read =>
   have e2:=tD O hj;have e2':g=V:=e2;subst e2';refine⟨s.H,?_,readJ O,(ic (s1:=s.put k.dst u s.H) (s:=s) (wi s.H) (ei s.H) rfl).2 hi,toI rfl⟩;have same:cH ah s.fr k=some true->gA P s.eval g k.op=gA P s.eval s.H k.op:=by
    intro d;rcases hc with hc|⟨hr',_,_⟩|⟨_,_,hap⟩|⟨_,hr',_⟩|⟨_,_,hr',_⟩|⟨_,hr',_⟩
    ·unfold qh at hc
     rw[N,O]at hc;cases hc
    ·rw [N] at hr'
     cases hr'
    ·exact MY fun id hid=>si.1 N id (hap id (sj.2.1 O (by rw[wj]; exact d) id (by rw[cj]; exact hid)))
    ·rw [qj hr'] at O
     cases O
    ·rw [qj (vO hr')] at O
     cases O
    ·rw [M0 hr'] at O
     cases O
   unfold Yields at hj|-;simp only[O]at hj|-;rw[wj]at hj;cases d:cH ah s.fr k with
   |none=>rw[d]at hj; exact hj.elim
   | some b =>
    rw[d]at hj;cases b with
    |false=>exact⟨hj.1,by simp⟩
    | true =>
     refine⟨by simp,?_⟩;rw[<-same d,<-evj];exact hj.2
  | write =>
   rcases hc with hc|⟨hr',_,_⟩|⟨_,hr',_⟩|⟨hai,haj,htw⟩|⟨_,hvi,haj,hap⟩|⟨hai,hqj,htw,hap⟩
   ·unfold qh at hc
    rw[N,O]at hc;cases hc
   ·rw [N] at hr'
    cases hr'
   ·rw [O] at hr'
    cases hr'
   ·-- two allocations, each in its ab place
    have ck:∀{f:Option Bool},f=some true->f=some false->False:=fun h1 h2=>by rw[h1]at h2; cases h2
    rcases Hm hai hi (fun d=>(si.2.2.1 hai htw d).1)with⟨wi',rfl,e1⟩|⟨wi',idi,yi,xi,ni,z2,e1⟩
    ·subst e1
     refine⟨g,(ic wj ej rfl).1 hj,toJ rfl,?_,⟨fun _ A _=>rfl,fun q=>(by rw[N]at q; cases q),fun _ _ _=>⟨rfl,fun _ h=>(h rfl).elim⟩,fun U=>(by rw[pn hai]at U; cases U)⟩⟩;unfold Yields;rw[wi,wi'];exact⟨rfl,rfl⟩
    ·rcases Hm haj hj (fun d => (sj.2.2.1 haj htw d).1) with ⟨wj', rfl, e2⟩ | ⟨wj', I, yj, xj, nj, y2, e2⟩
     ·have e2' : g = V := e2
      subst e2';refine⟨s.H,?_,⟨fun _ A _=>rfl,fun q=>(by rw[O]at q; cases q),fun _ _ _=>⟨rfl,fun _ h=>(h rfl).elim⟩,fun U=>(by rw[pn haj]at U; cases U)⟩,(ic (s1:=s.put k.dst (.tuple []) s.H) (s:=s) (wi s.H) (ei s.H) rfl).2 hi,toI rfl⟩;unfold Yields;rw[wj]at wj';rw[wj'];exact⟨rfl,rfl⟩
     ·have e2' : g = V.set I xj := e2
      have y2':V[I]? = some yj:=y2;have hne:I≠idi:=by
       intro e;subst e;rw[e1,bB (aY z2)]at y2';exact jL.ne ni nj (g_ y2')
      have y2s:s.H[I]? = some yj:=by rw[e1,bg (Ne.symm hne)]at y2'; exact y2'
      have wjs:cH ah s.fr k=some true:=by rw[<-wj]; exact wj'
      have hjj:∀ A,kept W j A->A≠I:=by
       intro A hA e;subst e;have h:=sj.1 O A hA;have h':g[A]? = V[A]? := h;rw[e2',bB (aY y2'),y2']at h';exact jL.ne nj nj (g_ h')
      have hii:∀ A,kept W i A->A≠idi:=by
       intro A hA e;subst e;have h:=si.1 N A hA;rw[e1,bB (aY z2),z2]at h;exact jL.ne ni ni (g_ h)
      have hcomm:g=(s.H.set I xj).set idi xi:=by rw[e2',e1,oc _ _ (Ne.symm hne)]
      refine⟨s.H.set I xj,Hn wjs nj y2s,⟨fun _ A hA=>bg (Ne.symm (hjj A hA)),fun q=>(by rw[O]at q; cases q),fun _ _ _=>⟨by simp,fun id hne=>?_⟩,fun U=>(by rw[pn haj]at U; cases U)⟩,?_,
       ⟨fun _ A hA=>?_,fun q=>(by rw[N]at q; cases q),fun _ _ _=>⟨?_,fun id hne=>?_⟩,fun U=>(by rw[pn hai]at U; cases U)⟩⟩
      ·have e : id = I := F1 fun e => hne (bg (Ne.symm e))
       subst e;refine(sj.2.2.1 haj htw wj').2 id ?_;show g[id]? ≠ V[id]?
       rw[e2',bB (aY y2'),y2'];exact fun e=>jL.ne nj nj (g_ e)
      ·rw [hcomm]
       refine Hn (s:=s.put k.dst u (s.H.set I xj)) (by rw[wi]; exact wi') ni ?_;show (s.H.set I _)[idi]? = _
       rw[bg hne];exact z2
      ·show g[A]? = (s.H.set I _)[A]?
       rw[hcomm,bg (Ne.symm (hii A hA))]
      ·show g.length = (s.H.set I _).length
       rw[hcomm];simp
      ·have e:id=idi:=F1 fun e=>hne (by
        show g[id]? = (s.H.set I _)[id]?
        rw[hcomm,bg (Ne.symm e)])
       subst e;refine(si.2.2.1 hai htw wi').2 id ?_;rw[e1,bB (aY z2),z2];exact fun e=>jL.ne ni ni (g_ e)
   ·-- a call, and an allocation in a place that it does not touch
    have hih:nw ah=true:=XA hvi;rcases M2 haj hj (fun d=>(sj.2.2.1 (vO haj) hih d).1)with⟨wj',rfl,e2⟩|⟨wj',tj,I,zj,yj,xj,mj,oj',y1,y2,y3,e2⟩
    ·have e2' : g = V := e2
     subst e2';refine⟨s.H,?_,⟨fun _ A _=>rfl,fun q=>(by rw[O]at q; cases q),fun _ _ _=>⟨rfl,fun _ h=>(h rfl).elim⟩,fun U=>(by rw[pn (vO haj)]at U; cases U)⟩,(ic (s1:=s.put k.dst (.tuple []) s.H) (s:=s) (wi s.H) (ei s.H) rfl).2 hi,toI rfl⟩;unfold Yields;rw[wj]at wj';rw[wj'];exact⟨rfl,rfl⟩
    ·have e2' : g = V.set I xj := e2
     have y2':V[I]? = some yj:=y2;obtain⟨e,he,hej,hid⟩:=(sj.2.2.1 (vO haj) hih wj').2 I (by
      show g[I]? ≠ V[I]?
      rw[e2',bB (aY y2'),y2'];exact fun e=>y3.full y3.hole (g_ e))
     have hk:=hap e he hej I hid;have y2s:s.H[I]? = some yj:=by rw[<-si.1 N I hk]; exact y2'
     have wjs:cH ah s.fr k=some true:=by rw[<-wj]; exact wj'
     have hjj:∀ A,kept W j A->A≠I:=by
      intro A hA e;subst e;have h:=sj.1 O A hA;have h':g[A]? = V[A]? := h;rw[e2',bB (aY y2'),y2']at h';exact y3.full y3.hole (g_ h')
     have hfill:CH W i s.H [(I,xj)]:=by
      intro p hp;rw[List.mem_singleton.1 hp];exact⟨hk,yj,y2s,y3.hole⟩
     have hcall:Yields P pf ah M ⟨s.fr,s.H.set I xj⟩ v g/\(cH ah s.fr M=some true->∀ σ,CH W i (s.H.set I xj) σ->Yields P pf ah M ⟨s.fr,nz σ (s.H.set I xj)⟩ v (nz σ g)):=by
      cases d:cH ah s.fr M with
      | none =>
       unfold Yields at hi;rw[d]at hi;exact hi.elim
      | some b =>
       cases b with
       | false =>
        refine⟨?_,fun h=>by cases h⟩;unfold Yields at hi|-;rw[d]at hi;rw[show cH ah (St.mk s.fr (s.H.set I xj)).fr M=some false from d];refine⟨hi.1,?_⟩;show g=s.H.set I _
        rw[e2',hi.2]
       | true =>
        have h4:=si.2.2.2 hvi N d;refine⟨?_,fun _ σ hσ=>?_⟩
        ·have := h4 _ hfill
         rw[e2'];exact this
        ·have:=h4 ((I,xj)::σ) (by
          intro p hp;rcases List.mem_cons.1 hp with rfl|hp
          ·exact hfill _ cX
          ·obtain ⟨a2, y, a3, a4⟩ := hσ p hp
           refine⟨a2,y,?_,a4⟩;have hne:p.1≠I:=fun e=>by
            rw[e,bB (aY y2s)]at a3;exact y3.full a4 (g_ a3)
           rwa [bg (Ne.symm hne)]at a3)
         rw[e2'];exact this
     refine⟨s.H.set I xj,M3 wjs oj' y1 y2s y3,⟨fun _ A hA=>bg (Ne.symm (hjj A hA)),fun q=>(by rw[O]at q; cases q),fun _ _ _=>⟨by simp,fun id hne=>?_⟩,fun U=>(by rw[pn (vO haj)]at U; cases U)⟩,fri (H1:=s.H.set I xj) hcall.1,
      ⟨fun _ A hA=>?_,fun q=>(by rw[N]at q; cases q),fun ha=>(by rw[pn ha]at hvi; cases hvi),fun _ _ hwa σ hσ=>fri (H1:=s.H.set I xj) (hcall.2 (by rw[wi]at hwa; exact hwa) σ hσ)⟩⟩
     ·have e : id = I := F1 fun e => hne (bg (Ne.symm e))
      subst e;exact⟨_,he,hej,hid⟩
     ·show g[A]? = (s.H.set I _)[A]?
      have h1:V[A]? = s.H[A]? := si.1 N A hA;by_cases e:A=I
      ·subst e
       rw[e2',bB (aY y2'),bB (aY y2s)]
      ·rw[e2',bg (Ne.symm e),bg (Ne.symm e),h1]
   ·-- an allocation in its place, and an operation that does not touch it
    rcases Hm hai hi (fun d=>(si.2.2.1 hai htw d).1)with⟨wi',rfl,e1⟩|⟨wi',idi,yi,xi,ni,z2,e1⟩
    ·subst e1
     refine⟨g,(ic wj ej rfl).1 hj,toJ rfl,?_,⟨fun _ A _=>rfl,fun q=>(by rw[N]at q; cases q),fun _ _ _=>⟨rfl,fun _ h=>(h rfl).elim⟩,fun U=>(by rw[pn hai]at U; cases U)⟩⟩;unfold Yields;rw[wi,wi'];exact⟨rfl,rfl⟩
    ·have hii:∀ A,kept W i A->A≠idi:=by
      intro A hA e;subst e;have h:=si.1 N A hA;rw[e1,bB (aY z2),z2]at h;exact jL.ne ni ni (g_ h)
     obtain⟨e,he,hei,hid⟩:=(si.2.2.1 hai htw wi').2 idi (by
      rw[e1,bB (aY z2),z2];exact fun e=>jL.ne ni ni (g_ e))
     have hk:kept W j idi:=hap e he hei idi hid;have hHi:V[idi]? = some xi:=by rw[e1,bB (aY z2)]
     have hjk:g[idi]? = some xi:=by rw[sj.1 O idi hk]; exact hHi
     have hback:∃ H1,Yields P pf ah k s u H1/\g=H1.set idi xi/\H1[idi]? = some yi:=by
      cases d:cH ah s.fr k with
      | none =>
       unfold Yields at hj;rw[wj,d]at hj;exact hj.elim
      | some b =>
       cases b with
       | false =>
        unfold Yields at hj;rw[wj,d]at hj;refine⟨s.H,?_,?_,z2⟩
        ·unfold Yields
         rw[d];exact⟨hj.1,rfl⟩
        ·rw [hj.2]
         exact e1
       | true =>
        have h1:=XK hqj hj (by rw[wj]; exact d);have h2:dD P s.eval (s.H.set idi xi) k.op=some (u,g):=by
         rw[<-e1];have:=ME (P:=P) (H:=V) k.op ej;rw[<-this];exact h1
        obtain⟨H1,g1,g2,g3⟩:=XJ hqj z2 ni.no h2 hjk;refine⟨H1,?_,g2,g3⟩;unfold Yields;simp only[d,O];exact .inl (.inl g1)
     obtain⟨H1,q1,q2,q3⟩:=hback;refine⟨H1,q1,⟨fun _ A hA=>?_,fun q=>(by rw[O]at q; cases q),fun ha=>(by rw[Xy hqj]at ha; cases ha),fun U=>(by rw[Xz hqj]at U; cases U)⟩,?_,⟨fun _ A hA=>?_,fun q=>(by rw[N]at q; cases q),fun _ _ _=>⟨?_,fun id hne=>?_⟩,fun U=>(by rw[pn hai]at U; cases U)⟩⟩
     ·by_cases hA2 : A = idi
      ·rw[hA2,q3,z2]
      ·have h3 : g[A]? = V[A]? := sj.1 O A hA
       rw[q2,bg (Ne.symm hA2),e1,bg (Ne.symm hA2)]at h3;exact h3
     ·rw [q2]
      exact Hn (s:=s.put k.dst u H1) (by rw[wi]; exact wi') ni q3
     ·show g[A]? = H1[A]?
      rw[q2,bg (Ne.symm (hii A hA))]
     ·show g.length = H1.length
      rw[q2];simp
     ·have e2:id=idi:=F1 fun e2=>hne (by
       show g[id]? = H1[id]?
       rw[q2,bg (Ne.symm e2)])
      subst e2;exact⟨e,he,hei,hid⟩
def y_(P:aj)(pf:bP->Bool)(ah:Array aU)(R:lf)(W:j9)(i:Nat)(K:St->Prop)(s:St):Prop :=
 match ah[i]? with
 |none=>K s
 |some o=>∃ v H',Yields P pf ah o s v H'/\Step P pf ah R W i o s v H'/\K (s.put o.dst v H')
def za(P:aj)(pf:bP->Bool)(ah:Array aU)(R:lf)(W:j9)(s':St):Nat->Array Bool->St->Prop
 |0,d,s=>od .any ah d=[]/\s=s'
 |g+1,d,s=>(od .any ah d=[]->s=s')/\∀ i∈od .any ah d,y_ P pf ah R W i (za P pf ah R W s' g (d.setIfInBounds i true)) s
def Ho{R:lf}{W:j9}{s':St}:∀(d:Nat) (g:Array Bool) (s:St),za P pf ah R W s' d g s->vK P pf ah s' d g s
 |0,_,_,h=>h
 | d+1,g,s,h=>by
  refine⟨h.1,fun i hi=>?_⟩;have h1:=h.2 i hi;unfold y_ at h1;unfold vJ;cases ho:ah[i]? with
  |none=>rw[ho]at h1; exact Ho d _ _ h1
  | some o =>
   rw[ho]at h1;obtain⟨v,H',k,_,q⟩:=h1;exact⟨v,H',k,Ho d _ _ q⟩
def XM{R:lf}{W:j9}{s':St}{i:Nat}{q:aU}(hi:ah[i]? = some q):∀(N:Nat) (d:Array Bool) (s:St) (v:AV) (H':List ai),tF ah d ->
  (∀ j y,ah[j]? = some y->j≠i->d.getD j true=false->waits ah ah.size j i=false->q.apart ah y=true/\y.apart ah q=true/\CI pf ah R W i q j y) ->
  i∈od .any ah d->Yields P pf ah q s v H'->Step P pf ah R W i q s v H'->za P pf ah R W s' N (d.setIfInBounds i true) (s.put q.dst v H')->za P pf ah R W s' (N+1) d s:=by
 intro N
 induction N with
 | zero =>
  intro d s v H' _ _ I U O H;refine⟨fun h=>(by rw[h]at I; cases I),fun j M=>?_⟩;by_cases g:j=i
  ·subst g
   unfold y_;simp only[hi];exact⟨v,H',U,O,H⟩
  ·have := ready_mono M g
   rw[H.1]at this;cases this
 | succ N ih =>
  intro d s v H' hcl hfree I U O H;refine⟨fun h=>(by rw[h]at I; cases I),fun j M=>?_⟩;by_cases g:j=i
  ·subst g
   unfold y_;simp only[hi];exact⟨v,H',U,O,H⟩
  ·have h1 := H.2 j (ready_mono M g)
   obtain⟨hjun,y,hoj,hall⟩:=mem_ready.1 M;unfold y_ at h1|-;simp only[hoj]at h1|-;obtain⟨u,Hj,hyj,hsj,hrest⟩:=h1;have hnw:waits ah ah.size j i=false:=by
    cases hw:waits ah ah.size j i with
    |false=>rfl
    | true =>
     have:=Hc hcl _ _ _ (Hd M) hw;rw[MJ I]at this;cases this
   obtain⟨a1,a2,a3⟩:=hfree j y hoj g hjun hnw;obtain⟨V,q1,q2,q3,q4⟩:=XL a1 a2 a3 U O hyj hsj;refine⟨u,V,q1,q2,?_⟩;refine ih (d.setIfInBounds j true) (s.put y.dst u V) v Hj (CD hcl M) ?_ (ready_mono I (Ne.symm g)) q3 q4 ?_
   ·intro k ok hk hki hun hno
    refine hfree k ok hk hki ?_ hno;by_cases hjk:j=k
    ·subst hjk; exact hjun
    ·rw[getD_set_ne true hjk]at hun; exact hun
   ·rw [amo _ _ g]
    have:=MI s q.dst y.dst v u H' Hj V (KY a1).2.1;rw[<-this];exact hrest
def vP(P:aj)(pf:bP->Bool)(ah:Array aU)(R:lf)(W:j9):List aU->Nat->St->St->Prop
 | [],_,s,s'=>s=s'
 |o::l,j,s,s'=>∃ v H',Yields P pf ah o s v H'/\Step P pf ah R W j o s v H'/\vP P pf ah R W l (j+1) (s.put o.dst v H') s'
def Hp(pf:bP->Bool)(x y:aU):Bool :=
 qh pf x y||((match dG pf x.op,dG pf y.op with
  |.read,.write=>true
  |.write,.read=>true
  |_,_=>false)||((fG x.op&&fG y.op)||((match dG pf x.op with
  |.write=>tH x.op&&isVar y.op
  |_=>false)||(fG x.op&&lg y.op))))
def XN{i j:Nat}{x y:aU}(hi:ah[i]? = some x)(d:ah[j]? = some y)(g:i<j)(h:waits ah ah.size j i=false)(k:fG x.op=true)(q:fG y.op=true):Hk ah=true:=by
 unfold Hk;refine lG.2 ⟨j,gH.2 (mu.1 d).1,lG.2 ⟨i,gH.2 g,?_⟩⟩;rw[hi,d];simp[k,q,h]
def XO{i j:Nat}{x y:aU}(hi:ah[i]? = some x)(d:ah[j]? = some y)(g:i<j)(h:waits ah ah.size j i=false)(k:fG x.op=true)(q:lg y.op=true):Hl ah=true:=by
 unfold Hl;refine lG.2 ⟨j,gH.2 (mu.1 d).1,lG.2 ⟨i,gH.2 g,?_⟩⟩;rw[hi,d];simp[k,q,h]
def XP{i j:Nat}{x y:aU}(hi:ah[i]? = some x)(d:ah[j]? = some y)(g:i<j)(h:waits ah ah.size j i=false)(k:tH x.op=true)(q:isVar y.op=true):CF ah=true:=by
 unfold CF;refine lG.2 ⟨j,gH.2 (mu.1 d).1,lG.2 ⟨i,gH.2 g,?_⟩⟩;rw[hi,d];simp[k,q,h]
def Hq(pf:bP->Bool)(ah:Array aU)(x y:aU):Bool:=match dG pf x.op with
 |.write=>oD x.op&&(isVar y.op&&nw ah)
 |_=>false
def vR(pf:bP->Bool)(ah:Array aU):Bool :=
  amn ah &&
  (fo ah.size).all fun j=>(match ah[j]? with
    | some d=>(d.after.toList.all fun e => !KX .any e||e.on<j) &&
      ((fo j).all fun i => match ah[i]? with
        |some g=>waits ah ah.size j i||(g.apart ah d&&d.apart ah g&&(Hp pf g d||Hq pf ah g d))
        |none=>true)
    |none=>true)
def tJ(ah:Array aU)(R:lf)(W:j9):Prop:=(∀ i id,(i,id)∈R->∀ e∈W,(i<e.1->waits ah ah.size e.1 i=false->id∉e.2.1/\id<e.2.2)/\(e.1<i->waits ah ah.size i e.1=false->id∉e.2.1/\id<e.2.2)) /\
 (∀ e∈W,∀ d∈W,e.1<d.1->waits ah ah.size d.1 e.1=false->∀ id∈d.2.1,id∉e.2.1/\id<e.2.2) /\
 ∀ e∈W,∀ d∈W,e.1<d.1->waits ah ah.size d.1 e.1=false->∀ id∈e.2.1,id<d.2.2
def XQ{R:lf}{W:j9}(v:tJ ah R W){i j:Nat}{x y:aU}(hi:ah[i]? = some x)(q:ah[j]? = some y)(g:i<j)(k:waits ah ah.size j i=false)(d:Hp pf x y=true):CI pf ah R W i x j y:=by
 unfold Hp at d;simp only[uY]at d;rcases d with d|d|d|d|d
 ·exact .inl d
 ·split at d
  ·rename_i h1 U
   refine .inr (.inl ⟨h1,U,fun id h e he q=>?_⟩);subst q;exact(v.1 i id h e he).1 g k
  ·rename_i h1 U
   refine .inr (.inr (.inl ⟨h1,U,fun id h e he q=>?_⟩));subst q;exact(v.1 j id h e he).2 g k
  ·cases d
 ·simp only [aK] at d
  refine .inr (.inr (.inr (.inl ⟨d.1,d.2,?_⟩)));unfold nw;rw[XN hi q g k d.1 d.2];rfl
 ·split at d
  ·rename_i h1
   simp only[aK]at d;refine .inr (.inr (.inr (.inr (.inl ⟨h1,by unfold ny; rw[d.1,XP hi q g k d.1 d.2]; rfl,d.2,fun e he N id h M I O=>?_⟩))));subst N O;exact v.2.1 M I e he g k id h
  ·cases d
 ·simp only [aK] at d
  refine .inr (.inr (.inr (.inr (.inr ⟨d.1,d.2,?_,fun e he O id h M I N=>?_⟩))))
  ·unfold nw
   rw[XO hi q g k d.1 d.2];simp
  ·subst O N
   exact⟨fun hm=>(v.2.1 e he M I g k id hm).1 h,v.2.2 e he M I g k id h⟩
def XR{R:lf}{W:j9}(I:tJ ah R W){i j:Nat}{x y:aU}(g:i<j)(M:waits ah ah.size j i=false)(d:Hq pf ah x y=true):CI pf ah R W i x j y:=by
 unfold Hq at d;split at d
 ·rename_i h1
  simp only[aK]at d;refine .inr (.inr (.inr (.inr (.inl ⟨h1,by unfold ny; rw[d.1,d.2.2]; simp,d.2.1,fun e he h id k N q v=>?_⟩))));subst h v;exact I.2.1 N q e he g M id k
 ·cases d
def M4{R:lf}{W:j9}{s':St}(hB:vR pf ah=true)(V:tJ ah R W):∀(l:List aU) (k:Nat) (d:Array Bool) (s:St),l=ah.toList.drop k->tF ah d->d.size=ah.size ->
  (∀ j,j<ah.size->(d.getD j true=false↔k<=j))->vP P pf ah R W l k s s'->za P pf ah R W s' l.length d s
 | [],k,d,s,N,_,hsz,g,h=>by
  simp only[vP]at h;refine⟨?_,h⟩;apply amp.2;intro j q;obtain⟨h0,o,ho,_⟩:=mem_ready.1 q;have M:j<ah.size:=(mu.1 ho).1;have:=(g j M).1 h0;have hlen:(ah.toList.drop k).length=0:=by rw[<-N]; rfl
  simp at hlen;omega
 | o::l,k,d,s,N,hcl,hsz,g,h=>by
  obtain⟨v,H',hy,hst,hrest⟩:=h;have h0:ah[k]? = some o:=by
   have:(ah.toList.drop k)[0]? = some o:=by rw[<-N]; rfl
   simpa using this
  have M:k<ah.size:=(mu.1 h0).1;simp only[vR,aK,dN,gH]at hB;obtain⟨_,O⟩:=hB;have hlistedlt:∀ j,j<k->d.getD j false=true:=by
   intro j q;have hn:¬ (d.getD j true=false):=fun e=>by have:=(g j (by omega)).1 e; omega
   have:j<d.size:=by omega
   simp[this]at hn|-;exact hn
  have hready:k∈od .any ah d:=by
   refine mem_ready.2 ⟨(g k M).2 (aM _),o,h0,fun e he hb=>?_⟩;have:=O k M;rw[h0]at this;simp only[aK,dN]at this;have h1:=this.1 e (by simpa using he);simp only[hb,yp,uZ,dT]at h1;exact hlistedlt e.on h1
  refine XM h0 l.length d s v H' hcl ?_ hready hy hst ?_
  ·intro j oj q hjk hun U
   have I:j<ah.size:=(mu.1 q).1;have hkj:k<=j:=(g j I).1 hun;have:=O j I;rw[q]at this;simp only[aK,dN,gH]at this;have h1:=this.2 k (by omega);rw[h0]at h1;simp only[U,uZ,aK]at h1;exact⟨h1.1.1,h1.1.2,by
    have y:=h1.2;rw[uY]at y;rcases y with y|y
    ·exact XQ V h0 q (by omega) U y
    ·exact XR V (by omega) U y⟩
  ·refine M4 (by simp only [vR, aK, dN, gH]; exact ⟨‹_›, O⟩) V l (k + 1) _ _ ?_ (CD hcl hready) (by simpa using hsz) ?_ hrest
   ·rw[<-sU,<-N]; rfl
   ·intro j I
    by_cases e:k=j
    ·subst e
     have:k<d.size:=by omega
     simp[this]
    ·rw [getD_set_ne true e, g j I]
     omega
def XT{R:lf}{W:j9}{id:Nat}{s s':St}{E:af}{a:Act}{Q:Exit->Act->a_->Prop}(hm:P.follows .mixedOrders=true)(hB:vR pf ah=true)(y:tJ ah R W)(d:dX s E a)
  (h:vP P pf ah R W ah.toList 0 s s') (I:∀ g w',gB E s' g w'->Q .normal g w'):∀ q:Option Nat,(Code.region id ah true).wpIn (fz q) 0 P Q a E.w:=by
 intro q;have v:dX s { E with w:={ E.w with drawn:=E.w.drawn+1 } } a:=⟨d.H,eh (af.lH (Ext.drawn E.w _)) _ d.fr,Gk d.heap (af.lH (Ext.drawn E.w _)) d.defers,d.heap.ext (Ext.drawn E.w _)⟩
 refine wpIn_region_any hm (CB (pf:=pf) _ _ s { E with w:={ E.w with drawn:=E.w.drawn+1 } } a v ?_ (fun g w' M=>I g w' (gB.after (af.lH (Ext.drawn E.w _)) M)) q);have:=Ho _ _ _ (M4 (P:=P) (s':=s') hB y ah.toList 0 (u3 ah.size false) s (by simp) (by
  intro j k;exfalso;rcases mo j ah.size with h'|h'
  ·simp[h']at k
  ·simp[KZ (xs:=u3 ah.size false) (by simpa using h')]at k) (by simp) (by intro j k; simp[k]) h)
 simpa using this
end Go.AL
