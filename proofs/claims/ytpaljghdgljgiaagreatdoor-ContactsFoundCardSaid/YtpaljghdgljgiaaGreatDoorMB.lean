/-
 What is proved here: every operation that the logic knows,put together,with calls; what an operation leaves. No program in sight; no condition.
-/
import Derived.Test.YtpaljghdgljgiaaGreatDoorMAB
set_option linter.all false
open Array renaming ext'->jb,getElem?_eq_some_iff->l8,getElem?_eq_none->J1,setIfInBounds_comm->akk,replicate->uH
open Bool renaming and_eq_true->aL,not_true->xR,or_eq_true->uF,false_or->uG
open Classical renaming byContradiction->akm
open Decidable renaming byContradiction->Fi
open Function renaming comp_def->T4
open Go renaming Value->al,FuncId->bO,TypeId->aD,World->ba,Program->aj,Operand->ct,Oper->aR
open Go.Builtin renaming len_->T3
open Go.Call renaming operands->uE
open Go.Op renaming operands->fc
open Go.Oper renaming wpIn->sM,semAt_eq->sN,apart_spec->J0
open Go.Region renaming wanted->T5,binds->JZ,noSelect->akj,ready->nN
open Go.Result renaming andThen_ok->b_
open Go.Sem renaming run_bind->cf,run_pure->fp
open Go.Value.slice renaming injEq->l6
open List renaming length_cons->cd,getElem?_append_left->di,getElem?_set_self->bB,getElem?_set_ne->bf,all_eq_true->dK,drop_drop->sJ,map_map->nI,replicate->cC,mem_cons_self->cW,nodup_cons->pL,set_comm->nM,set_append_left->Bk,range->fj,map_congr_left->mL,any_eq_true->lq,eq_nil_iff_forall_not_mem->akl,mem_range->gH
open Nat renaming le_refl->aQ,lt_of_lt_of_le->eQ,lt_or_ge->l5
open Option renaming map_some->e_
open Option.some renaming injEq->be,inj->jd
namespace Go.AL
open Go
variable [Dr]
def B2(x:ct):Bool:=x matches .const _
def Gj:AV->AV->Option AV
 |.lit (.int k a),.lit (.int _ b)=>some (.lit (.int k (if b>a then b else a)))
 |_,_=>none
def Gk:AV->AV->Option AV
 |.lit (.int k a),.lit (.int _ b)=>some (.lit (.int k (if b<a then b else a)))
 |_,_=>none
def vg(f:AV->AV->Option AV):AV->List AV->Option AV
 |x,[]=>some x
 | x,y::l=>match f x y with
  |some z=>vg f z l
  |none=>none
def VG:List AV->Option AV
 | []=>none
 |x::d=>vg Gj x d
def VH:List AV->Option AV
 | []=>none
 |x::d=>vg Gk x d
def Gl(k:SK)(x:AV):Option AV :=
 match k,x with
 |.str,.lit (.string s)=>some (.int s.size)
 |.slice _ _ _,.lit (.string _)=>none
 | .slice _ _ _,x=>match BD x with
  |some n=>some (.int n)
  |none=>none
 |_,_=>none
def Gm(P:aj)(b:Builtin)(ji:List aD)(args:List AV):Option AV :=
 match b with
 | .len=>match ji[0]?,args[0]? with
  |some t,some x=>Gl (cZ P t) x
  |_,_=>none
 |.max=>VG args
 |.min=>VH args
 | .cap=>match ji,args with
  | t::_,.lit (.slice none 0 0)::_=>match cZ P t with
   |.slice _ _ _=>some (.int 0)
   |_=>none
  |_,_=>none
 |_=>none
def Gn(r:ct->AV)(fn:Fn)(first caps:Array ct):Option AV :=
 match fn with
 |.func f=>if first.toList.isEmpty then some (.clo f (caps.toList.map r)) else none
 |_=>none
def Gp(P:aj)(r:ct->AV)(c:Call):Option AV :=
 match c.callee with
 |.builtin b=>Gm P b c.argTypes.toList (c.args.toList.map r)
 |_=>none
def jO(P:aj)(r:ct->AV):Op->Option AV
 |.move x | .assign x=>some (r x)
 | .pick c a b=>match r c with
  |.lit (.bool t)=>some (bif t then r a else r b)
  |_=>none
 | .extract t i=>match r t with
  |.tuple h=>h[i]?
  |_=>none
 | .field t x f=>match uT P t f with
  |some k=>FT k (r x)
  |none=>none
 | .fieldAddr t x f=>match uT P t f with
  |some k=>FF k (r x)
  |none=>none
 |.indexAddr t x i=>kh (cZ P t) (r x) (r i)
 |.index t x i=>qR (cZ P t) (r x) (r i)
 |.binOp op t x y _=>lv P op t (B2 x||B2 y) (r x) (r y)
 |.unOp op _ x=>u5 op (r x)
 |.convert s d x=>u6 P s d (r x)
 |.build t parts=>FU P t (parts.toList.map fun p=>(p.1,r p.2))
 |.buildSlice t n parts=>vc P t n (parts.toList.map fun p=>(p.1,r p.2))
 |.slice t x lo hi mx=>nU P t (r x) (lo.map r) (hi.map r) (mx.map r)
 |.makeFunc fn first caps=>Gn r fn first caps
 | .nilCheck x=>match r x with
  |.ptr id ak k row g=>some (.ptr id ak k row g)
  |.cptr cells=>some (.cptr cells)
  |.clo f caps=>some (.clo f caps)
  |_=>none
 | .makeInterface t _=>match P.underlying t with
  |some (.interface _)=>none
  |some _=>some .ifc
  |none=>none
 |.call c=>Gp P r c
 |_=>none
theorem tf{E:af}{r:ct->AV}{ρ:ct->al}(h:∀ x,ad E (r x) (ρ x)):∀(l:List ct),aw E (l.map r) (l.map ρ)
 | []=>by simp[aw]
 |x::l=>by simp only[List.map_cons,aw]; exact⟨h x,tf h l⟩
theorem Gq{E:af}{r:ct->AV}{ρ:ct->al}(h:∀ x,ad E (r x) (ρ x))(o:Option ct):qP E (o.map r) (o.map ρ):=by
 cases o with
 |none=>simp[qP]
 |some x=>simpa[qP]using h x
def jk(E:af)(v:AV)(u:al)(w':ba):Prop:=Ext E.w w'/\ad { E with w:=w' } v u
theorem jk.same{E:af}{v:AV}{u:al}(h:ad E v u):jk E v u E.w:=⟨Ext.refl _,h⟩
theorem mT{P:aj}{s:Sem al}{w w':ba}{u:al}(h:s.run P w=.ok u w'):(do pure (Next.value (<- s)):Sem Next).run P w=.ok (.value u) w':=by
 simp[h]
theorem Gr{P:aj}{E:af}{f:AV->AV->Option AV}{g:al->al->Sem al}
  (M:∀ x y c d z,f x y=some z->ad E x c->ad E y d->∃ u,(g c d).run P E.w=.ok u E.w/\ad E z u) :
  ∀(q:List AV) (x:AV) (c:al) (cs:List al) (v:AV),ad E x c->aw E q cs->vg f x q=some v ->
   ∃ u,(cs.foldlM g c).run P E.w=.ok u E.w/\ad E v u
 | [],x,c,cs,v,I,k,h=>by
  cases cs with
  |nil=>simp[vg]at h; subst h; exact⟨c,rfl,I⟩
  |cons _ _=>simp[aw]at k
 | y::q,x,c,cs,v,I,k,h=>by
  cases cs with
  |nil=>simp[aw]at k
  | cons d cs =>
   simp only[aw]at k;simp only[vg]at h;split at h
   ·rename_i z N
    obtain⟨u,O,U⟩:=M x y c d z N I k.1;obtain⟨V,W,g4⟩:=Gr M q z u cs v U k.2 h;exact⟨V,by simp only[List.foldlM_cons,cf,O,b_]; exact W,g4⟩
   ·cases h
theorem VJ{P:aj}{E:af}(x y:AV)(c d:al)(z:AV)(h:Gj x y=some z)(g:ad E x c)(k:ad E y d) :
  ∃ u,(Builtin.max2 c d).run P E.w=.ok u E.w/\ad E z u:=by
 unfold Gj at h;split at h
 ·cases h
  simp only[ad]at g k;subst g; subst k;exact⟨_,rfl,by simp[ad]⟩
 ·cases h
theorem VK{P:aj}{E:af}(x y:AV)(c d:al)(z:AV)(h:Gk x y=some z)(g:ad E x c)(k:ad E y d) :
  ∃ u,(Builtin.min2 c d).run P E.w=.ok u E.w/\ad E z u:=by
 unfold Gk at h;split at h
 ·cases h
  simp only[ad]at g k;subst g; subst k;exact⟨_,rfl,by simp[ad]⟩
 ·cases h
theorem VL{P:aj}{E:af}{b:Builtin}{ji:Array aD}{ty:aD}{consts:Array Bool}{args:List AV}{cargs:Array al}{v:AV}
  (h:Gm P b ji.toList args=some v) (d:aw E args cargs.toList):∃ u,(builtin b ji ty consts cargs).run P E.w=.ok (.value u) E.w/\ad E v u:=by
 cases b<;>simp only[Gm]at h<;>try cases h
 case len =>
  split at h
  case h_2=>cases h
  rename_i t x N hx;obtain⟨c,O,g⟩:=pS d hx;have q:ji[0]? = some t:=by simpa using N
  have y:cargs[0]? = some c:=by simpa using O
  unfold Gl at h;split at h
  ·rename_i s k
   cases h;simp only[ad]at g;subst g;refine⟨goInt s.size,?_,by simp[ad,goInt]⟩;simp[builtin,T3,q,y,Sem.bE (sW k)]
  ·cases h
  ·rename_i e sz by_ k hns
   split at h
   ·rename_i n I
    cases h;obtain⟨U,_⟩:=je k;rcases Ut I g with⟨s,rfl,_⟩|⟨aN,cap,rfl⟩
    ·exfalso
     unfold BD at I;split at I
     ·rename_i s'
      exact hns s' rfl
     all_goals first
      |(simp[ad,fk]at g; done)
      |cases I
    ·refine ⟨goInt n, ?_, by simp [ad, goInt]⟩
     simp[builtin,T3,q,y,Sem.bE U]
   ·cases h
  ·cases h
 case max =>
  cases args with
  |nil=>cases h
  | cons x M =>
   cases bX:cargs.toList with
   |nil=>rw[bX]at d; simp[aw]at d
   | cons c cs =>
    rw[bX]at d;simp only[aw]at d;obtain⟨u,V,W⟩:=Gr (P:=P) VJ M x c cs v d.1 d.2 h;refine⟨u,?_,W⟩;simp[builtin,Builtin.max_,bX,V]
 case min =>
  cases args with
  |nil=>cases h
  | cons x M =>
   cases bX:cargs.toList with
   |nil=>rw[bX]at d; simp[aw]at d
   | cons c cs =>
    rw[bX]at d;simp only[aw]at d;obtain⟨u,V,W⟩:=Gr (P:=P) VK M x c cs v d.1 d.2 h;refine⟨u,?_,W⟩;simp[builtin,Builtin.min_,bX,V]
 case cap =>
  split at h
  case h_2=>cases h
  rename_i t ts as N;obtain⟨c,O,g⟩:=pS (i:=0) d rfl;have q:ji[0]? = some t:=by
   have:ji.toList[0]? = some t:=by rw[N]; rfl
   simpa using this
  have y:cargs[0]? = some c:=by simpa using O
  simp only[ad]at g;subst g;split at h
  ·rename_i e sz by_ k
   cases h;obtain⟨U,_⟩:=je k;refine⟨goInt 0,?_,by simp[ad,goInt]⟩;simp[builtin,Builtin.cap_,q,y,Sem.bE U]
  ·cases h
theorem VM{P:aj}{E:af}(HE:aI E){r:ct->AV}{ρ:ct->al}(g:∀ x,ad E (r x) (ρ x)){o:aR}{v:AV}(h:jO P r o.op=some v) :
  ∃ u w',(execOp ρ o).run P E.w=.ok (.value u) w'/\jk E v u w':=by
 obtain⟨dst,op,type,pos,after,guard⟩:=o;have same:∀{s:Sem al},(∃ u,s.run P E.w=.ok u E.w/\ad E v u)->∃ u w',(do pure (Next.value (<- s)):Sem Next).run P E.w=.ok (.value u) w'/\jk E v u w':=by
  rintro s ⟨u,I,N⟩;exact⟨u,E.w,mT I,jk.same N⟩
 cases op<;>simp only[jO]at h<;>try cases h
 case move x=>exact⟨ρ x,E.w,rfl,jk.same (g x)⟩
 case assign x=>exact⟨ρ x,E.w,rfl,jk.same (g x)⟩
 case pick c a b =>
  split at h
  ·rename_i t V
   cases h;have M:=g c;rw[V]at M;simp only[ad]at M;refine⟨if t then ρ a else ρ b,E.w,?_,?_⟩
   ·simp[execOp,M,asBool]
   ·cases t
    ·exact jk.same (g b)
    ·exact jk.same (g a)
  ·cases h
 case build t parts =>
  obtain⟨u,I,N⟩:=UJ (E:=E) (cparts:=parts.toList.map fun p=>(p.1,ρ p.2)) h (by simp) (by
   simp only[nI];have:=tf g (parts.toList.map (·.2));simpa[nI,T4]using this)
  have e:(parts.toList.map fun p=>(p.1,ρ p.2)).toArray=parts.map fun(i,x)=>(i,ρ x):=by
   apply jb; simp
  rw[e]at I;exact same ⟨u,I,N⟩
 case buildSlice t n parts =>
  obtain⟨u,w',I,N,g3⟩:=U2 HE (cparts:=parts.toList.map fun p=>(p.1,ρ p.2)) h (by simp) (by
   simp only[nI];have:=tf g (parts.toList.map (·.2));simpa[nI,T4]using this)
  have e:(parts.toList.map fun p=>(p.1,ρ p.2)).toArray=parts.map fun(i,x)=>(i,ρ x):=by
   apply jb; simp
  rw[e]at I;exact⟨u,w',mT I,N,g3⟩
 case nilCheck x =>
  have q:=g x;split at h
  ·rename_i id ak k row col he
   cases h;rw[he]at q;have O:=q;simp only[ad]at O;obtain⟨⟨b,o,M⟩,_⟩:=O;exact⟨ρ x,E.w,by simp[execOp,M],jk.same q⟩
  ·rename_i cells he
   cases h;rw[he]at q;have O:=q;simp only[ad]at O;obtain⟨_,b,o,M,_⟩:=O;exact⟨ρ x,E.w,by simp[execOp,M],jk.same q⟩
  ·rename_i f caps he
   cases h;rw[he]at q;have O:=q;simp only[ad]at O;obtain⟨cs,M,_⟩:=O;exact⟨ρ x,E.w,by simp[execOp,M],jk.same q⟩
  ·cases h
 case binOp op t x y _ =>
  refine same (UE (x:=x) (y:=y) (fun U=>?_) h (g x) (g y));cases x<;>cases y<;>first|rfl|exact U
 case unOp op _ x=>exact same (UF h (g x))
 case convert s d x=>exact same (UG h (g x))
 case makeInterface t x =>
  split at h
  ·cases h
  ·rename_i d W hu
   cases h;refine same ⟨.iface t (ρ x),?_,by simp only[ad]; exact⟨_,_,rfl⟩⟩;simp only[Instr.makeInterface,cf,Sem.bE hu,b_];cases d<;>first|rfl|(exact(W _ hu).elim)|(exact(W _ rfl).elim)
  ·cases h
 case makeFunc fn first caps =>
  cases fn<;>simp only[Gn]at h<;>try cases h
  rename_i f;split at h
  ·rename_i hf
   cases h;refine⟨.func (.func f) (first.map ρ) (caps.map ρ),E.w,rfl,jk.same ?_⟩;simp only[ad];refine⟨caps.map ρ,?_,by simpa using tf g caps.toList⟩;have:first=#[]:=by
    apply jb;simpa using hf
   simp[this]
  ·cases h
 case slice t x lo hi mx=>exact same (Uz h (g x) (Gq g lo) (Gq g hi) (Gq g mx))
 case fieldAddr t x f =>
  split at h
  ·rename_i k U; exact same (Uv U h (g x))
  ·cases h
 case field t x f =>
  split at h
  ·rename_i k U; exact same (UI U h (g x))
  ·cases h
 case indexAddr t x i=>exact same (Uw HE h (g x) (g i))
 case index t x i=>exact same (UH h (g x) (g i))
 case extract t i =>
  split at h
  ·rename_i vs V
   have q:=g t;rw[V]at q;simp only[ad]at q;obtain⟨cs,M,hl⟩:=q;obtain⟨u,I,N⟩:=pS hl h;refine same ⟨u,?_,N⟩;have g1':cs[i]? = some u:=by simpa using I
   simp[Instr.extract,M,g1']
  ·cases h
 case call c =>
  obtain⟨callee,args,argTypes⟩:=c;cases callee<;>simp only[Gp]at h<;>try cases h
  rename_i b;obtain⟨u,I,N⟩:=VL (P:=P) (E:=E) (b:=b) (ji:=argTypes) (ty:=type) (consts:=args.map fun | .const _=>true|_=>false) (cargs:=args.map ρ) h
   (by simpa using tf g args.toList)
  exact⟨u,E.w,by simp only[execOp,resolve,cf,fp,b_,invoke]; exact I,jk.same N⟩
def B3(P:aj)(r:ct->AV)(H:List ai)(c:Call):Option (AV × List ai) :=
 match c.callee with
 | .builtin .append=>match c.args.toList,c.argTypes.toList with
  | [s,x],[t,xt]=>match s9 P t xt (r s) (r x) H with
   |some y=>some y
   |none=>u9 P t xt (r s) (r x) H
  |_,_=>none
 | .builtin .clear=>match c.args.toList,c.argTypes.toList with
  | [x],[t]=>match yu P t (r x) H with
   |some H'=>some (.tuple [],H')
   |none=>none
  |_,_=>none
 | .builtin .delete=>match c.args.toList,c.argTypes.toList with
  | [x,k],t::_=>match yt P t (r x) (r k) H with
   |some H'=>some (.tuple [],H')
   |none=>none
  |_,_=>none
 |_=>none
def dy(P:aj)(r:ct->AV)(H:List ai):Op->Option (AV × List ai)
 |.alloc t=>sZ P t H
 |.box _ x=>BR (r x) H
 | .store t a x=>match oW P t (r a) (r x) H with
  |some H'=>some (.undef,H')
  | none=>match te P t (r a) (r x) H with
   |some H'=>some (.undef,H')
   | none=>match yz P t (r a) (r x) H with
    |some H'=>some (.undef,H')
    |none=>none
 |.makeSlice t l c=>yo P t (r l) (r c) H
 |.buildSlice t n parts=>yv P t n (parts.toList.map fun p=>(p.1,r p.2)) H
 |.range t x=>BU P t (r x) H
 |.next it isString=>BV (r it) isString H
 |.makeMap _ none=>some (.map H.length,H++[.map [] 0])
 | .mapUpdate t m k v=>match mR P t (r m) (r k) (r v) H with
  |some H'=>some (.undef,H')
  | none=>match pX P t (r m) (r k) (r v) H with
   |some H'=>some (.undef,H')
   | none=>match tc P t (r m) (r k) (r v) H with
    |some H'=>some (.undef,H')
    | none=>match yB P t (r m) (r k) (r v) H with
     |some H'=>some (.undef,H')
     |none=>none
 | .insert t m k v=>match mR P t (r m) (r k) (r v) H with
  |some H'=>some (.undef,H')
  |none=>none
 | .lookup t m k false=>match hZ P t (r m) (r k) false H with
  |some v=>some (v,H)
  | none=>match s_ P t (r m) (r k) H with
   |some y=>some y
   |none=>yA P t (r m) (r k) H
 | .mapEntry t m k=>match ki P t (r m) (r k) H with
  |some y=>some y
  |none=>lx P t (r m) (r k) H
 | .entryStore _ m s x=>match mS (r m) (r s) (r x) H with
  |some H'=>some (.undef,H')
  | none=>match nZ (r m) (r s) (r x) H with
   |some H'=>some (.undef,H')
   |none=>none
 |.call c=>B3 P r H c
 |_=>none
theorem dh.of_le{E:af}{w':ba}{H':List ai}(h1:aI { w:=w',H:=H',ae:=E.ae,X:=E.X })(d:E.le { w:=w',H:=H',ae:=E.ae,X:=E.X })(u:al) :
  dh E .undef H' u w':=⟨E.ae,E.X.r,by simp[ad],h1,d⟩
theorem jk.toOp{E:af}(HE:aI E){v:AV}{u:al}{w':ba}(h:jk E v u w'):dh E v E.H u w' :=
 ⟨E.ae,E.X.r,h.2,HE.ext h.1,af.lr h.1⟩
theorem VN{P:aj}{E:af}(HE:aI E){r:ct->AV}{ρ:ct->al}(d:∀ x,ad E (r x) (ρ x)){o:aR}{v:AV}{H':List ai}
  (h:dy P r E.H o.op=some (v,H')) :
  ∃ n u w',(execOp ρ o).run P E.w=.ok n w'/\(n=.value u\/n=.skip/\u=undef)/\dh E v H' u w':=by
 obtain⟨dst,op,type,pos,after,guard⟩:=o;have same:∀{s:Sem al},(∃ u w',s.run P E.w=.ok u w'/\dh E v H' u w') ->
   ∃ n u w',(do pure (Next.value (<- s)):Sem Next).run P E.w=.ok n w'/\(n=.value u\/n=.skip/\u=undef)/\dh E v H' u w':=by
  rintro s ⟨u,w',g,q⟩;exact⟨_,u,w',mT g,.inl rfl,q⟩
 cases op<;>simp only[dy]at h<;>try cases h
 case alloc t=>exact same (US HE h)
 case box t x=>exact same (UY HE h (d x))
 case store t a x =>
  split at h
  ·rename_i H1 I
   cases h;obtain⟨w',g,q,M⟩:=KO HE I (d a) (d x);exact⟨.skip,undef,w',by simp[execOp,g],.inr ⟨rfl,rfl⟩,dh.of_le q M _⟩
  ·split at h
   ·rename_i H1 I
    cases h;obtain⟨w',g,q,M⟩:=VA HE I (d a) (d x);exact⟨.skip,undef,w',by simp[execOp,g],.inr ⟨rfl,rfl⟩,dh.of_le q M _⟩
   ·split at h
    ·rename_i H1 I
     cases h;obtain⟨w',g,q⟩:=VB HE I (d a) (d x);exact⟨.skip,undef,w',by simp[execOp,g],.inr ⟨rfl,rfl⟩,q _⟩
    ·cases h
 case makeSlice t l c=>exact same (U1 HE h (d l) (d c))
 case buildSlice t n parts =>
  obtain⟨u,w',g,q⟩:=Vd HE (cparts:=parts.toList.map fun p=>(p.1,ρ p.2)) h (by simp) (by
   simp only[nI];have:=tf d (parts.toList.map (·.2));simpa[nI,T4]using this)
  have e:(parts.toList.map fun p=>(p.1,ρ p.2)).toArray=parts.map fun(i,x)=>(i,ρ x):=by
   apply jb; simp
  rw[e]at g;exact same ⟨u,w',g,q⟩
 case range t x=>exact same (U4 HE h (d x))
 case next it isString=>exact same (U5 HE h (d it))
 case makeMap t res =>
  cases res with
  |some _=>cases h
  | none =>
   cases h;exact same ⟨_,_,by simp[Instr.makeMap,newObj]; rfl,U7 HE⟩
 case mapUpdate t m k x =>
  split at h
  ·rename_i H1 I
   cases h;obtain⟨w',g,q,M⟩:=K8 HE I (d m) (d k) (d x);exact⟨.skip,undef,w',by simp[execOp,g],.inr ⟨rfl,rfl⟩,dh.of_le q M _⟩
  ·split at h
   ·rename_i H1 I
    cases h;obtain⟨w',g,q⟩:=Vk HE I (d m) (d k) (d x);exact⟨.skip,undef,w',by simp[execOp,g],.inr ⟨rfl,rfl⟩,q _⟩
   ·split at h
    ·rename_i H1 I
     cases h;obtain⟨w',g,q,M⟩:=Vv HE I (d m) (d k) (d x);exact⟨.skip,undef,w',by simp[execOp,g],.inr ⟨rfl,rfl⟩,dh.of_le q M _⟩
    ·split at h
     ·rename_i H1 I
      cases h;obtain⟨w',g,q⟩:=VF HE I (d m) (d k) (d x);exact⟨.skip,undef,w',by simp[execOp,g],.inr ⟨rfl,rfl⟩,q _⟩
     ·cases h
 case lookup t m k ok =>
  cases ok with
  |true=>cases h
  | false =>
   simp only[]at h;split at h
   ·rename_i v1 hv
    cases h;obtain⟨u,g,q⟩:=K4 HE hv (d m) (d k);exact same ⟨u,_,g,jk.toOp HE ⟨Ext.refl _,q⟩⟩
   ·split at h
    ·rename_i y N
     cases h;exact same (Vj HE N (d m) (d k))
    ·exact same (VD HE h (d m) (d k))
 case mapEntry t m k =>
  split at h
  ·rename_i y N
   cases h;exact same (Vo HE N (d m) (d k))
  ·exact same (Vw HE h (d m) (d k))
 case entryStore t m s x =>
  split at h
  ·rename_i H1 I
   cases h;obtain⟨w',g,q⟩:=Vq (P:=P) (t:=t) HE I (d m) (d s) (d x);exact⟨.skip,undef,w',by simp[execOp,g],.inr ⟨rfl,rfl⟩,q _⟩
  ·split at h
   ·rename_i H1 I
    cases h;obtain⟨w',g,q⟩:=Vy (P:=P) (t:=t) HE I (d m) (d s) (d x);exact⟨.skip,undef,w',by simp[execOp,g],.inr ⟨rfl,rfl⟩,q _⟩
   ·cases h
 case insert t m k x =>
  split at h
  ·rename_i H1 I
   cases h;obtain⟨w',g,q,M⟩:=K8 HE I (d m) (d k) (d x);exact⟨.skip,undef,w',by simp[execOp,g],.inr ⟨rfl,rfl⟩,dh.of_le q M _⟩
  ·cases h
 case call c =>
  obtain⟨callee,args,argTypes⟩:=c;unfold B3 at h;split at h
  ·rename_i O
   simp only[]at O;subst O;simp only[]at h;split at h
   case h_2=>cases h
   rename_i s x t xt V W;have U:args=#[s,x]:=by apply jb; simpa using V
   have htys':argTypes=#[t,xt]:=by apply jb; simpa using W
   subst U;subst htys';split at h
   ·rename_i y N
    cases h;obtain⟨u,w',g,q⟩:=Vc (P:=P) (ty:=type) HE N (d s) (d x);refine⟨.value u,u,w',?_,.inl rfl,q⟩;simp[execOp,resolve,invoke,builtin,g]
   ·obtain ⟨u, w', g, q⟩ := UP (P := P) (ty := type) HE h (d s) (d x)
    refine⟨.value u,u,w',?_,.inl rfl,q⟩;simp[execOp,resolve,invoke,builtin,g]
  ·rename_i O
   simp only[]at O;subst O;simp only[]at h;split at h
   case h_2=>cases h
   rename_i x t V W;have U:args=#[x]:=by apply jb; simpa using V
   have htys':argTypes=#[t]:=by apply jb; simpa using W
   subst U;subst htys';split at h
   ·rename_i H1 N
    cases h;obtain⟨w',g,q,M⟩:=Va (P:=P) (ty:=type) (ji:=#[t]) (cs:=#[ρ x]) HE N rfl rfl (d x);refine⟨.value (.tuple #[]),.tuple #[],w',?_,.inl rfl,E.ae,E.X.r,by simp[ad,aw],q,M⟩;simp[execOp,resolve,invoke,builtin,g]
   ·cases h
  ·rename_i O
   simp only[]at O;subst O;simp only[]at h;split at h
   case h_2=>cases h
   rename_i x k t ts V W;have U:args=#[x,k]:=by apply jb; simpa using V
   subst U;split at h
   ·rename_i H1 N
    cases h;have ht0:argTypes[0]? = some t:=by
     have:argTypes.toList[0]? = some t:=by rw[W]; rfl
     simpa using this
    obtain⟨w',g,q,M⟩:=U_ (P:=P) (ty:=type) (ji:=argTypes) (cs:=#[ρ x,ρ k]) HE N ht0 rfl rfl (d x) (d k);refine⟨.value (.tuple #[]),.tuple #[],w',?_,.inl rfl,E.ae,E.X.r,by simp[ad,aw],q,M⟩;simp[execOp,resolve,invoke,builtin,g]
   ·cases h
  ·cases h
def pY(P:aj)(f:bO)(args:List AV)(H:List ai)(Q:AV->List ai->Prop):Prop :=
 ∀(E:af) (d:Array al),E.H=H->aI E->aw E args d.toList ->
  Calls P f d E.w fun e w'=>∃ c v H',e=.returned c/\Q v H'/\dh E v H' c w'
def dM(P:aj)(f:bO)(args:List AV)(v:AV):Prop:=∀ H,pY P f args H fun d H'=>d=v/\H'=H
theorem pY.mono{P:aj}{f:bO}{args:List AV}{H:List ai}{Q d:AV->List ai->Prop}(h:pY P f args H Q)(k:∀ v H',Q v H'->d v H'):pY P f args H d :=
 fun E g h1 y I=>(h E g h1 y I).mono fun _ _ ⟨c,v,H',e,q,r⟩=>⟨c,v,H',e,k v H' q,r⟩
def iD(P:aj)(f:bO):Bool :=
 match P.funcs[f]? with
 |some fn => !(fn.name == "runtime.NumGoroutine")&&fn.body.isSome
 |none=>false
theorem Lv{P:aj}{f:bO}(h:iD P f=true)(args:Array al)(w:ba):(callFunc f args).run P w=.ok (.enter f args) w:=by
 unfold iD at h;split at h
 ·rename_i fn d
  simp only[aL,Bool.not_eq_true']at h;have h1:fn.name ≠ "runtime.NumGoroutine" := by simpa using h.1
  have g:fn.body≠none:=fun e=>by rw[e]at h; simp at h
  simp[callFunc,d,h1,g]
 ·cases h
def B4(r:ct->AV)(c:Call):Option (bO × List AV) :=
 match c.callee with
 | .value g=>match r g with
  |.clo f caps=>some (f,c.args.toList.map r++caps)
  |_=>none
 |_=>none
def jC(r:ct->AV):Op->Option (bO × List AV)
 |.call c=>B4 r c
 |_=>none
theorem Lw{P:aj}{E:af}{r:ct->AV}{ρ:ct->al}(q:∀ x,ad E (r x) (ρ x)){o:aR}{f:bO}{args:List AV}
  (h:jC r o.op=some (f,args)) (hb:iD P f=true):∃ k:Array al,(execOp ρ o).run P E.w=.ok (.enter f k) E.w/\aw E args k.toList:=by
 obtain⟨dst,op,M,pos,after,guard⟩:=o;cases op<;>simp only[jC]at h<;>try cases h
 rename_i c;obtain⟨callee,as,argTypes⟩:=c;cases callee<;>simp only[B4]at h<;>try cases h
 rename_i g;split at h
 case h_2=>cases h
 rename_i N caps v;cases h;have d:=q g;rw[v]at d;simp only[ad]at d;obtain⟨cs,y,I⟩:=d;refine⟨as.map ρ++cs,?_,?_⟩
 ·simp[execOp,resolve,y,Deferred.ofValue,invoke,Lv hb]
 ·simp only [Array.toList_append, Array.toList_map]
  exact oR (tf q as.toList) I
end Go.AL

namespace Go.AL
open Go
variable [Dr]
inductive VO where
 |pure|read|write
 deriving DecidableEq
def VP(pf:bO->Bool)(c:Call):Bool :=
 match c.argTypes.toList with
 | [t]=>pf (t+1000000)
 |_=>false
def dz(pf:bO->Bool):Op->VO
 |.load ..=>.read
 |.lookup t _ _ _=>if pf (t+1500000) then .write else .read
 |.buildSlice t n _=>if pf (t+100000*n+2000000) then .write else .pure
 |.alloc .. | .box .. | .store .. | .makeSlice .. | .mapUpdate .. | .insert .. | .makeMap .. | .mapEntry .. | .entryStore .. | .range .. | .next .. | .entry ..=>.write
 |.go .. | .defer .. | .panic .. | .send .. | .recv .. | .select .. | .makeChan .. | .ready .. | .waits ..=>.write
 | .call c=>match c.callee with
  | .builtin .len=>match VP pf c with
   |true=>.read
   |false=>.pure
  |.builtin .max | .builtin .min | .builtin .cap=>.pure
  |.value (.func f)=>if pf f then .pure else .write
  |_=>.write
 |_=>.pure
def qU(P:aj)(r:ct->AV)(H:List ai)(c:Call):Option AV :=
 match c.callee,c.args.toList,c.argTypes.toList with
 | .builtin .len,[a],[t]=>match dL P t,r a with
  | some _,.map id=>match H[id]? with
   |some (.map d _)=>some (.int d.length)
   |_=>none
  |_,_=>none
 |_,_,_=>none
theorem VQ{P:aj}{E:af}(HE:aI E){r:ct->AV}{ρ:ct->al}(O:∀ x,ad E (r x) (ρ x)){o:aR}{c:Call}{v:AV}(ho:o.op=.call c)(h:qU P r E.H c=some v) :
  ∃ u,(execOp ρ o).run P E.w=.ok (.value u) E.w/\ad E v u:=by
 obtain⟨dst,op,type,pos,after,guard⟩:=o;subst ho;obtain⟨callee,args,argTypes⟩:=c;unfold qU at h;split at h
 case h_2=>cases h
 rename_i a t g d k;simp only[]at g d k;subst g;have I:args=#[a]:=by apply jb; simpa using d
 have M:argTypes=#[t]:=by apply jb; simpa using k
 subst I;subst M;split at h
 case h_2=>cases h
 rename_i p id U N;split at h
 case h_2=>cases h
 rename_i es cl hH;cases h;have q:=O a;rw[N]at q;obtain⟨b,n,y,V,h1,W,h3⟩:=vd HE hH q;obtain⟨kt,et⟩:=p;have hl:=(eW.1 h3).1;have e2:(getObj b).run P E.w=.ok (.map y cl) E.w:=by simp[getObj,Sem.run,W]
 refine⟨goInt y.size,?_,by simp[ad,goInt,hl]⟩;simp only[execOp,resolve,cf,fp,b_,invoke];simp[builtin,T3,Sem.bE (gl U),V,e2]
def gz(P:aj)(r:ct->AV)(H:List ai):Op->Option AV
 |.load t a=>mP P t (r a) H
 | .lookup t m k ok=>match hZ P t (r m) (r k) ok H with
  |some v=>some v
  |none=>mh P t (r m) (r k) ok H
 |.call c=>qU P r H c
 |_=>none
theorem VR{P:aj}{E:af}(HE:aI E){r:ct->AV}{ρ:ct->al}(d:∀ x,ad E (r x) (ρ x)){o:aR}{v:AV}(h:gz P r E.H o.op=some v) :
  ∃ u,(execOp ρ o).run P E.w=.ok (.value u) E.w/\ad E v u:=by
 obtain⟨dst,op,y,pos,after,guard⟩:=o;cases op<;>simp only[gz]at h<;>try cases h
 case load t a =>
  obtain⟨u,g,q⟩:=Ku HE h (d a);exact⟨u,mT g,q⟩
 case lookup t m k ok =>
  split at h
  ·rename_i I h1
   cases h;obtain⟨u,g,q⟩:=K4 HE h1 (d m) (d k);exact⟨u,mT g,q⟩
  ·obtain ⟨u, g, q⟩ := Vt HE h (d m) (d k)
   exact⟨u,mT g,q⟩
 case call c=>exact VQ HE d rfl h
def fN(P:aj)(f:bO)(args:List AV)(H:List ai)(v:AV)(H':List ai):Prop:=pY P f args H fun d H1=>d=v/\H1=H'
def cH(ah:Array aR)(fr:List AV)(o:aR):Option Bool :=
 match o.guard with
 |none=>some true
 | some (j,d)=>match (ah[j]?).bind (·.dst) with
  | some t=>match fr[t]? with
   |some (.lit (.bool b))=>some (b==d)
   |some (.tuple [])=>some false
   |_=>none
  |none=>none
def VS(H:List ai)(v d:AV)(H1:List ai):Prop :=
 ∃(id ak:Nat) (ks:List Kd) (rZ:List (List G)),((v=.vQ ks.length id ak 0 rZ.length/\d=.listF ks rZ)\/∃ cs,v=.agg (.vQ ks.length id ak 0 rZ.length::cs)/\d=.agg (.listF ks rZ::cs))/\H[id]? = some (.vQ ks.length ak (rZ.map (aT ks)))/\H1=H.set id .dead
theorem Gs{E:af}(HE:aI E){id ak:Nat}{ks:List Kd}{rZ:List (List G)} (v:E.H[id]? = some (.vQ ks.length ak (rZ.map (aT ks)))) {c:al} (h:ad E (.vQ ks.length id ak 0 rZ.length) c) :
  ad { w:=E.w,H:=E.H.set id .dead,ae:=E.ae.set id none,X:=E.X } (.listF ks rZ) c:=by
 have O:=af.yc HE id;have ho:=HE.obj id _ v;rw[kf];simp only[ad]at h|-;obtain⟨⟨aN,cap,rfl,N,_⟩,_,q⟩:=h;obtain⟨q1,V⟩:=q ⟨_,v,rfl⟩;have y:fq (rZ.map (aT ks)):=by
  intro r h;obtain⟨g,_,rfl⟩:=List.mem_map.1 h;exact gJ ks g
 refine⟨y,aN,cap,by simp,by simpa using N,?_⟩;simp only[aY]at ho;rcases ho with⟨h1,I⟩|⟨b,mm,h1,I,q,_,W⟩
 ·exact .inl I
 ·obtain ⟨g1, o, g2, M⟩ := V b mm h1
  by_cases hm:rZ=[]
  ·subst hm; exact .inl rfl
  ·right
   have:0<rZ.length:=by cases rZ with|nil=>exact(hm rfl).elim|cons _ _=>simp
   simp at q;have ho:=g2 (by omega);simp at ho;subst ho;simp only[l6]at M;refine⟨b,0,M.1,⟨(HE.lt id b mm h1).1,?_,(HE.lt id b mm h1).2⟩,kN O.toC _ y rfl W⟩;rintro(⟨j,c',d⟩|⟨l,k,c',d⟩)
   case inr=>exact HE.dm _ _ _ _ _ _ h1 d
   simp only[List.getElem?_set]at d;split at d
   ·split at d<;>cases d
   ·rename_i U
    exact U (HE.inj _ _ _ _ _ h1 d)
def vh(P:aj)(r:ct->AV)(H:List ai)(v:AV)(H':List ai):Op->Prop
 |.store t a x=>∃ d H1,VS H (r x) d H1/\oW P t (r a) d H1=some H'/\v=.undef
 |_=>False
theorem VT{P:aj}{r d:ct->AV}{H:List ai}{v:AV}{H':List ai}(o:Op)(h:∀ x∈o.operands,r x=d x):vh P r H v H' o=vh P d H v H' o:=by
 cases o<;>try rfl
 rename_i t a x;simp only[vh];rw[h a (by simp[fc]),h x (by simp[fc])]
theorem VU{P:aj}{E:af}(HE:aI E){r:ct->AV}{ρ:ct->al}(M:∀ x,ad E (r x) (ρ x)){o:aR}{v:AV}{H':List ai}(h:vh P r E.H v H' o.op) :
  ∃ w',(execOp ρ o).run P E.w=.ok .skip w'/\dh E v H' undef w':=by
 obtain⟨dst,op,type,pos,after,guard⟩:=o;cases op<;>try exact h.elim
 rename_i t a x;obtain⟨O,H1,⟨id,ak,ks,rZ,h1,q,rfl⟩,U,rfl⟩:=h;have g:=M x;have k:=af.yc HE id;have N:ad { w:=E.w,H:=E.H.set id .dead,ae:=E.ae.set id none,X:=E.X } O (ρ x):=by
  rcases h1 with⟨h1,rfl⟩|⟨cs,h1,rfl⟩
  ·rw [h1] at g
   exact Gs HE q g
  ·rw [h1, ad] at g
   obtain⟨l,e,ho,d⟩:=g;rw[e,ad];refine⟨l,rfl,ho,?_⟩;cases I:l.toList with
   |nil=>rw[I]at d; simp[aw]at d
   | cons u us =>
    rw[I]at d;simp only[aw]at d|-;exact⟨Gs HE q d.1,en k cs d.2⟩
 obtain⟨w',y,V,W⟩:=KO (E:={ w:=E.w,H:=E.H.set id .dead,ae:=E.ae.set id none,X:=E.X }) (aI.drop HE id fun o ho=>by rw[q]at ho; cases ho; rfl) U (bD k _ (M a)) N;have y:(Instr.storeAt t (ρ a) (ρ x)).run P E.w=.ok () w':=y;exact⟨w',by simp[execOp,y],E.ae.set id none,E.X.r,by simp[ad],V,k.trans W⟩
def Yields(P:aj)(pf:bO->Bool)(ah:Array aR)(o:aR)(s:St)(v:AV)(H':List ai):Prop :=
 match cH ah s.fr o with
 |none=>False
 |some false=>v=.tuple []/\H'=s.H
 | some true=>match dz pf o.op with
  |.pure=>H'=s.H/\(jO P s.eval o.op=some v\/∃ f args,jC s.eval o.op=some (f,args)/\iD P f=true/\dM P f args v)
  |.read=>H'=s.H/\gz P s.eval s.H o.op=some v
  |.write=>(dy P s.eval s.H o.op=some (v,H')\/∃ f args,jC s.eval o.op=some (f,args)/\iD P f=true/\fN P f args s.H v H')\/(((∃ t id m,o.op=.alloc t/\qS P t id m s.H=some (v,H'))\/∃ t id,o.op=.makeMap t none/\s8 id s.H=some (v,H'))\/vh P s.eval s.H v H' o.op)
def ml(fr:List AV)(dst:Option Tmp)(v:AV):List AV :=
 match dst with
 |some d=>fr.set d v
 |none=>fr
def St.put(s:St)(dst:Option Tmp)(v:AV)(H':List ai):St:=⟨ml s.fr dst v,H'⟩
theorem Lx{E:af}:∀{as:List AV} {g:List al} {a:AV} {v:al} (d:Nat),aw E as g->ad E a v->aw E (as.set d a) (g.set d v)
 | [],[],_,_,_,_,_=>by simp[aw]
 | [],_::_,_,_,_,h,_=>by simp[aw]at h
 |_::_,[],_,_,_,h,_=>by simp[aw]at h
 |_::as,_::g,a,v,0,h,k=>by simp only[aw]at h; simp only[List.set_cons_zero,aw]; exact⟨k,h.2⟩
 |_::as,_::g,a,v,d+1,h,k=>by simp only[aw]at h; simp only[List.set_cons_succ,aw]; exact⟨h.1,Lx d h.2 k⟩
theorem Ly{E E':af}{s:St}{a:Act}(h:aw E s.fr a.tmps.toList)(g:E.le E')(dst:Option Tmp){v:AV}{u:al}(k:ad E' v u) :
  aw E' (ml s.fr dst v) (a.put dst u).tmps.toList:=by
 have h':=en g _ h;cases dst with
 |none=>exact h'
 | some d =>
  simp only[ml,Act.put,Array.toList_setIfInBounds];exact Lx d h' k
def fz(r:Option Nat):Fence:={ Fence.wide with round:=r }
theorem Lz{r:Option Nat}{n:Nat}{P:aj}{f:bO}{args:Array al}{w:ba}{R:Ending->ba->Prop}(h:Calls P f args w R):CallsIn (fz r) n P f args w R:=(callsIn_wide (n:=n)).2 h
theorem put_defers(a:Act)(dst:Option Tmp)(v:al):(a.put dst v).defers=a.defers:=by cases dst<;>rfl
theorem LA{ah:Array aR}{s:St}{E:af}{a:Act}(h:dS s E a){o:aR}{b:Bool}(d:cH ah s.fr o=some b) :
  T5 o (yielded ah a.tmps)=b:=by
 unfold cH at d;unfold T5;cases v:o.guard with
 |none=>rw[v]at d; simpa using d
 | some I =>
  obtain⟨j,N⟩:=I;rw[v]at d;simp only[]at d|-;split at d
  case h_2=>cases d
  rename_i t y;split at d
  ·rename_i M hb
   cases d;obtain⟨u,q,g⟩:=pS h.fr hb;simp only[ad]at g;subst g;have k:a.tmps[t]? = some (.bool M):=by simpa using q
   simp[yielded,y,k]
  ·rename_i hb
   cases d;obtain⟨u,q,g⟩:=pS h.fr hb;simp only[ad]at g;obtain⟨cs,rfl,_⟩:=g;have k:a.tmps[t]? = some (.tuple cs):=by simpa using q
   simp[yielded,y,k]
  ·cases d
def gA(E:af)(s':St)(h:Act)(w':ba):Prop :=
 ∃ d g,dS s' { w:=w',H:=s'.H,ae:=d,X:=E.X.re g } h/\E.le { w:=w',H:=s'.H,ae:=d,X:=E.X.re g }
theorem Gt{P:aj}{pf:bO->Bool}{ah:Array aR}{s:St}{E:af}{a:Act}(g:dS s E a){i:Nat}{o:aR}(hi:ah[i]? = some o){v:AV}{H':List ai}
  (d:Yields P pf ah o s v H') {K:Act->ba->Prop} {Q:Exit->Act->ba->Prop} (hK:∀ a' w',gA E (s.put o.dst v H') a' w'->K a' w') (ro:Option Nat):wpOpIn (fz ro) 0 P ah Q i K a E.w:=by
 have N:=g.eval;have hH:=g.H;have I:∀{u:al} {w':ba},dh E v H' u w'->K (a.put o.dst u) w':=by
  rintro u w' ⟨loc',r',h1,U,M⟩;exact hK _ _ ⟨loc',r',⟨rfl,Ly g.fr M o.dst h1,by rw[put_defers]; exact FE g.heap M g.defers,U⟩,M⟩
 have pure':H'=s.H->∀{u:al} {w':ba},jk E v u w'->dh E v H' u w':=by
  intro e u w' V;have:=V.toOp g.heap;rw[hH,<-e]at this;exact this
 have enterOk:(fz ro).depth.isSome=true->1<=0:=fun h=>by cases h
 unfold wpOpIn;simp only[hi];unfold Yields at d;split at d
 ·cases d
 ·rename_i hw
  rw[LA g hw];simp only[Bool.false_eq_true,if_false];obtain⟨rfl,e⟩:=d;refine⟨fun _ _=>trivial,I ?_⟩;rw[e,<-hH];exact⟨E.ae,E.X.r,by simp only[ad]; exact⟨#[],rfl,by simp[aw]⟩,g.heap,af.le.refl E⟩
 ·rename_i hw
  rw[LA g hw];simp only[if_true];split at d
  ·obtain ⟨e, d⟩ := d
   rcases d with d|⟨f,args,h1,U,M⟩
   ·have y : ∀ c, o.op ≠ .defer c := fun c e => by rw [e] at d; cases d
    obtain⟨u,w',k,q⟩:=VM g.heap N d;unfold sM;rw[sN _ _ _ y,k];exact⟨fun _ _=>trivial,I (pure' e q)⟩
   ·have y : ∀ c, o.op ≠ .defer c := fun c e => by rw [e] at h1; cases h1
    obtain⟨W,k,q⟩:=Lw N h1 U;unfold sM;rw[sN _ _ _ y,k];refine⟨fun _ _=>trivial,enterOk,Lz ((M s.H E W hH g.heap q).mono ?_)⟩;rintro _ w' ⟨c,v',H1,rfl,⟨rfl,rfl⟩,V⟩;exact I (by rw[e]; exact V)
  ·obtain ⟨e, d⟩ := d
   rw[<-hH]at d;have y:∀ c,o.op≠.defer c:=fun c e=>by rw[e]at d; cases d
   obtain⟨u,k,q⟩:=VR g.heap N d;unfold sM;rw[sN _ _ _ y,k];exact⟨fun _ _=>trivial,I (pure' e (jk.same q))⟩
  ·rcases d with (d | ⟨f, args, h1, U, M⟩) | (⟨t, id, m, ho, d⟩ | ⟨t, id, ho, d⟩) | d
   ·have y : ∀ c, o.op ≠ .defer c := fun c e => by rw [e] at d; cases d
    rw[<-hH]at d;obtain⟨n,u,w',k,q,O⟩:=VN g.heap N d;unfold sM;rw[sN _ _ _ y,k];rcases q with rfl|⟨rfl,rfl⟩
    ·exact⟨fun _ _=>trivial,I O⟩
    ·exact⟨fun _ _=>trivial,I O⟩
   ·have y : ∀ c, o.op ≠ .defer c := fun c e => by rw [e] at h1; cases h1
    obtain⟨W,k,q⟩:=Lw N h1 U;unfold sM;rw[sN _ _ _ y,k];refine⟨fun _ _=>trivial,enterOk,Lz ((M E W hH g.heap q).mono ?_)⟩;rintro _ w' ⟨c,v',H1,rfl,⟨rfl,rfl⟩,V⟩;exact I V
   ·rw [<- hH] at d
    obtain⟨u,w',k,q⟩:=UX g.heap d;unfold sM;obtain⟨dst,op,type,pos,after,guard⟩:=o;simp only[]at ho;subst ho;have O:(execOp a.eval ⟨dst,.alloc t,type,pos,after,guard⟩).run P E.w=.ok (.value u) w':=mT k;rw[sN _ _ _ (fun c e=>by cases e),O];exact⟨fun _ _=>trivial,I q⟩
   ·rw [<- hH] at d
    obtain⟨u,w',k,q⟩:=U9 (P:=P) (t:=t) g.heap d;unfold sM;obtain⟨dst,op,type,pos,after,guard⟩:=o;simp only[]at ho;subst ho;have O:(execOp a.eval ⟨dst,.makeMap t none,type,pos,after,guard⟩).run P E.w=.ok (.value u) w':=mT k;rw[sN _ _ _ (fun c e=>by cases e),O];exact⟨fun _ _=>trivial,I q⟩
   ·have y : ∀ c, o.op ≠ .defer c := fun c e => by rw [e] at d; exact d
    rw[<-hH]at d;obtain⟨w',k,q⟩:=VU g.heap N d;unfold sM;rw[sN _ _ _ y,k];exact⟨fun _ _=>trivial,I q⟩
def kR(P:aj)(pf:bO->Bool)(ah:Array aR):List aR->St->St->Prop
 | [],s,s'=>s'=s
 |o::d,s,s'=>∃ v H',Yields P pf ah o s v H'/\kR P pf ah d (s.put o.dst v H') s'
theorem gA.after{E E':af}{s':St}{d:Act}{w':ba}(h:E.le E')(h':gA E' s' d w'):gA E s' d w':=by
 obtain⟨g,k,q,v⟩:=h';refine⟨g,k,?_,?_⟩
 ·rw[<-XS.Kh h.X]; exact q
 ·rw[<-XS.Kh h.X]; exact h.trans v
theorem gA.refl{s:St}{E:af}{a:Act}(h:dS s E a):gA E s a E.w:=by
 obtain⟨w,H,ae,X⟩:=E;have:=h.H;simp only at this;subst this;exact⟨ae,X.r,h,af.le.refl _⟩
theorem Gu{P:aj}{pf:bO->Bool}{ah:Array aR}{Q:Exit->Act->ba->Prop}:∀(l:List aR) (k:Nat) (s s':St) (E:af) (a:Act),
  l=ah.toList.drop k->kR P pf ah l s s'->dS s E a->(∀ g w',gA E s' g w'->Q .normal g w')->∀ d:Option Nat,wpOpsIn (fz d) 0 P ah Q (List.range' k l.length) a E.w
 | [],k,s,s',E,a,_,h,q,y,d=>by
  simp only[kR]at h;subst h;exact y _ _ (gA.refl q)
 | o::l,k,s,s',E,a,I,h,q,y,d=>by
  obtain⟨v,H',U,M⟩:=h;simp only[cd,List.range'_succ];rw[wpOpsIn_cons];have V:ah[k]? = some o:=by
   have:(ah.toList.drop k)[0]? = some o:=by rw[<-I]; rfl
   simpa using this
  refine Gt q V U (fun g w' W=>?_) d;obtain⟨N,r',h1,h2⟩:=W;refine Gu l (k+1) _ s' { w:=w',H:=H',ae:=N,X:=E.X.re r' } g ?_ M h1 (fun a2 w2 O=>y a2 w2 ?_) d
  ·rw[<-sJ,<-I]; rfl
  ·exact gA.after h2 O
def waits(ah:Array aR):Nat->Nat->Nat->Bool
 |0,_,_=>false
 | n+1,j,i=>match ah[j]? with
  |some o=>o.after.toList.any fun e=>JZ .any e&&(e.on==i||waits ah n e.on i)
  |none=>false
def fD:Op->Bool
 |.alloc _=>true
 |.makeMap _ none=>true
 |_=>false
def pZ(pf:bO->Bool)(x y:aR):Bool :=
 match dz pf x.op,dz pf y.op with
 |.pure,_|_,.pure | .read,.read=>true
 |.read,.write=>fD y.op
 |_,_=>false
def vj(pf:bO->Bool)(ah:Array aR):Bool :=
  akj ah &&
  (fj ah.size).all fun j=>(match ah[j]? with
    | some d=>(d.after.toList.all fun e => !JZ .any e||e.on<j) &&
      ((fj j).all fun i => match ah[i]? with
        |some g=>waits ah ah.size j i||(g.apart ah d&&d.apart ah g&&pZ pf g d)
        |none=>true)
    |none=>true)
def vk(P:aj)(pf:bO->Bool)(ah:Array aR)(i:Nat)(K:St->Prop)(s:St):Prop :=
 match ah[i]? with
 |none=>K s
 |some o=>∃ v H',Yields P pf ah o s v H'/\K (s.put o.dst v H')
def vl(P:aj)(pf:bO->Bool)(ah:Array aR)(s':St):Nat->Array Bool->St->Prop
 |0,d,s=>nN .any ah d=[]/\s=s'
 |g+1,d,s=>(nN .any ah d=[]->s=s')/\∀ i∈nN .any ah d,vk P pf ah i (vl P pf ah s' g (d.setIfInBounds i true)) s
theorem B5{P:aj}{pf:bO->Bool}{ah:Array aR}{s':St}{Q:Exit->Act->ba->Prop}:∀(d:Nat) (I:Array Bool) (s:St) (E:af) (a:Act),
  dS s E a->vl P pf ah s' d I s->(∀ y w',gA E s' y w'->Q .normal y w')->∀ g:Option Nat,wpAnyIn (fz g) 0 P .any ah Q d I a E.w
 |0,_,s,E,a,k,h,q,_=>⟨h.1,q _ _ (h.2▸gA.refl k)⟩
 | d+1,I,s,E,a,k,h,q,g=>by
  refine⟨fun h0=>q _ _ (h.1 h0▸gA.refl k),fun i hi=>?_⟩;have h1:=h.2 i hi;unfold vk at h1;cases ho:ah[i]? with
  | none =>
   rw[ho]at h1;unfold wpOpIn;simp only[ho];exact B5 d _ s E a k h1 q g
  | some o =>
   rw[ho]at h1;obtain⟨v,H',O,U⟩:=h1;refine Gt k ho O (fun y w' V=>?_) g;obtain⟨M,W,g1,g2⟩:=V;exact B5 d _ _ { w:=w',H:=H',ae:=M,X:=E.X.re W } y g1 U (fun a2 w2 N=>q a2 w2 (gA.after g2 N)) g
theorem VV{ah:Array aR}{o:aR}{t:Tmp}(h:Operand.tmp t∈o.op.operands):t∈o.looksAt ah :=
 List.mem_append_left _ (List.mem_filterMap.2 ⟨.tmp t,by simpa using h,rfl⟩)
theorem VW{fr:List AV}{d t:Nat}{v:AV}(h:d≠t):(fr.set d v).getD t .undef=fr.getD t .undef:=by
 simp[List.getD_eq_getElem?_getD,bf h]
theorem eval_put{ah:Array aR}{s:St}{o:aR}{dst:Option Tmp}{v:AV}{H':List ai}(h:∀ d,dst=some d->d∉o.looksAt ah){x:ct}(k:x∈o.op.operands) :
  (s.put dst v H').eval x=s.eval x:=by
 cases dst with
 |none=>cases x<;>rfl
 | some d =>
  cases x with
  | tmp t =>
   have g:d≠t:=fun e=>h d rfl (e▸VV k);simp only[St.eval,St.put,ml];exact VW g
  |_=>rfl
theorem B6{ah:Array aR}{fr:List AV}{o:aR}{dst:Option Tmp}{v:AV}(h:∀ d,dst=some d->d∉o.looksAt ah) :
  cH ah (ml fr dst v) o=cH ah fr o:=by
 cases dst with
 |none=>rfl
 | some d =>
  unfold cH;cases q:o.guard with
  |none=>rfl
  | some y =>
   obtain⟨g,M⟩:=y;simp only[];cases I:(ah[g]?).bind (·.dst)with
   |none=>rfl
   | some t =>
    have k:d≠t:=fun e=>h d rfl (by subst e; simp[Oper.looksAt,q,I]);simp only[ml,bf k]
theorem VX(fr:List AV){x y:Option Tmp}(v u:AV)(h:∀ d,x=some d->y≠some d):ml (ml fr x v) y u=ml (ml fr y u) x v:=by
 cases x with
 |none=>rfl
 | some d =>
  cases y with
  |none=>rfl
  | some e =>
   have g:d≠e:=fun he=>h d rfl (he▸rfl);simp only[ml];rw[nM _ _ g]
theorem LB{P:aj}{r d:ct->AV}(o:Op)(h:∀ x∈o.operands,r x=d x):jO P r o=jO P d o:=by
 cases o<;>simp only[jO]<;>simp only[fc]at h
 case build t ps =>
  have:(ps.toList.map fun p=>(p.1,r p.2))=ps.toList.map fun p=>(p.1,d p.2):=mL fun p g=>by
   rw[h p.2 (by simp; exact⟨p.1,by simpa using g⟩)]
  rw[this]
 case buildSlice t n ps =>
  have:(ps.toList.map fun p=>(p.1,r p.2))=ps.toList.map fun p=>(p.1,d p.2):=mL fun p g=>by
   rw[h p.2 (by simp; exact⟨p.1,by simpa using g⟩)]
  rw[this]
 case makeFunc fn first captured =>
  unfold Gn;cases fn<;>try rfl
  have:(captured.toList.map r)=captured.toList.map d:=mL fun x k=>h x (by simp; right; simpa using k);simp only[this]
 case call c =>
  obtain⟨callee,args,argTypes⟩:=c;unfold Gp;cases callee<;>try rfl
  have:(args.toList.map r)=args.toList.map d:=mL fun x k=>h x (by simp[uE]; simpa using k);simp only[this]
 case slice t x lo hi mx=>cases lo<;>cases hi<;>cases mx<;>simp_all
 all_goals (first|rfl|(simp_all; done))
theorem LC{P:aj}{r d:ct->AV}{H:List ai}(o:Op)(h:∀ x∈o.operands,r x=d x):gz P r H o=gz P d H o:=by
 cases o<;>simp only[gz]<;>simp only[fc]at h
 case call c =>
  obtain⟨callee,args,argTypes⟩:=c;unfold qU;cases callee<;>try rfl
  split
  ·rename_i a t g ha k
   have hm:a∈args:=by
    have:a∈args.toList:=by rw[show args.toList=[a] from ha]; simp
    simpa using this
   have:r a=d a:=h a (by simp[uE]; simpa using hm);simp only[this,g,ha,k]
  ·rfl
 all_goals (first|rfl|(simp_all; done))
theorem LD{P:aj}{r g:ct->AV}{H:List ai}(o:Op)(h:∀ x∈o.operands,r x=g x):dy P r H o=dy P g H o:=by
  cases o<;>simp only[dy]<;>simp only[fc]at h
  case buildSlice t n ps =>
    have:(ps.toList.map fun p=>(p.1,r p.2))=ps.toList.map fun p=>(p.1,g p.2):=mL fun p v=>by
      rw[h p.2 (by simp; exact⟨p.1,by simpa using v⟩)]
    rw[this]
  case call c =>
    obtain⟨callee,args,argTypes⟩:=c;unfold B3;cases callee<;>try rfl
    rename_i b;have d:∀ x,x∈args.toList->r x=g x:=fun x y=>h x (by simp[uE]; simpa using y);cases b<;>try rfl
    all_goals simp only[]
    all_goals split
    all_goals first
      |rfl
      | (rename_i s x t xt ha q
         rw[d s (by rw[ha]; simp),d x (by rw[ha]; simp)])
      | (rename_i x t ha q
         rw[d x (by rw[ha]; simp)])
      | (rename_i x k t I ha q
         rw[d x (by rw[ha]; simp),d k (by rw[ha]; simp)])
  case makeMap t res=>cases res<;>rfl
  case lookup t m k ok =>
    cases ok with
    |true=>rfl
    |false=>simp only[h m (by simp),h k (by simp)]
  case mapEntry t m k=>simp only[h m (by simp),h k (by simp)]
  case entryStore t m s x=>simp only[h m (by simp),h s (by simp),h x (by simp)]
  all_goals (first|rfl|(simp_all; done))
theorem LF{r d:ct->AV}(o:Op)(h:∀ x∈o.operands,r x=d x):jC r o=jC d o:=by
 cases o<;>simp only[jC]<;>simp only[fc]at h
 rename_i c;obtain⟨callee,args,argTypes⟩:=c;unfold B4;cases callee<;>try rfl
 rename_i g;have k:r g=d g:=h g (by simp[uE]);have q:(args.toList.map r)=args.toList.map d:=mL fun x v=>h x (by simp[uE]; right; simpa using v);simp only[k,q]
end Go.AL

namespace Go.AL
open Go
variable [Dr]
variable {P:aj} {pf:bO->Bool} {ah:Array aR}
theorem ia{o:aR}{s s1:St}{v:AV}{H':List ai}(g:cH ah s1.fr o=cH ah s.fr o)(d:∀ x∈o.op.operands,s1.eval x=s.eval x)(hH:s1.H=s.H) :
  Yields P pf ah o s1 v H'↔Yields P pf ah o s v H':=by
 unfold Yields;rw[g,hH,LB o.op d,LC o.op d,LD o.op d,LF o.op d,VT o.op d]
theorem yC{o:aR}{s:St}{v:AV}{H':List ai}(k:dz pf o.op=.pure)(h:Yields P pf ah o s v H'):H'=s.H/\∀ d,Yields P pf ah o ⟨s.fr,d⟩ v d:=by
 have key:∀ d:List ai,∀ x∈o.op.operands,St.eval ⟨s.fr,d⟩ x=s.eval x:=fun d x _=>by cases x<;>rfl
 unfold Yields at h;cases g:cH ah s.fr o with
 |none=>rw[g]at h; exact h.elim
 | some b =>
  rw[g]at h;cases b with
  | false =>
   refine⟨h.2,fun d=>?_⟩;unfold Yields;rw[show cH ah (St.mk s.fr d).fr o=some false from g];exact⟨h.1,rfl⟩
  | true =>
   simp only[k]at h;refine⟨h.1,fun d=>?_⟩;unfold Yields;rw[show cH ah (St.mk s.fr d).fr o=some true from g];simp only[k];refine⟨trivial,?_⟩;rw[LB o.op (key d),LF o.op (key d)];exact h.2
theorem tg{o:aR}{s:St}{v:AV}{H':List ai}(d:dz pf o.op=.read)(h:Yields P pf ah o s v H'):H'=s.H:=by
 unfold Yields at h;simp only[d]at h;split at h
 ·cases h
 ·exact h.2
 ·exact h.1
theorem VY{r:ct->AV}{H:List ai}{x:ai}{v:AV}:∀{op:Op},gz P r H op=some v->gz P r (H++[x]) op=some v:=by
 have get:∀{i:Nat} {y:ai},H[i]? = some y->(H++[x])[i]? = some y:=by
  intro i y h;rw[di (List.getElem?_eq_some_iff.1 h).1];exact h
 intro op h;cases op<;>simp only[gz]at h|-<;>try cases h
 case load t a =>
  unfold mP at h|-;split at h
  ·rename_i n agg M
   split at h
   ·exact h
   ·rename_i id ak w row g ha
    cases hi:H[id]? with
    |none=>rw[hi]at h; cases h
    |some y=>rw[hi]at h; rw[get hi]; exact h
   ·rename_i id l j w row g ha
    cases hi:H[id]? with
    |none=>rw[hi]at h; cases h
    |some y=>rw[hi]at h; rw[get hi]; exact h
   ·cases h
  ·cases h
 case lookup t m k ok =>
  split at h
  ·rename_i N h1
   cases h;have d:hZ P t (r m) (r k) ok (H++[x])=some v:=by
    unfold hZ at h1|-;split at h1
    ·rename_i O U id hm I
     cases hi:H[id]? with
     |none=>rw[hi]at h1; cases h1
     |some y=>rw[hi]at h1; rw[get hi]; exact h1
    ·cases h1
   rw[d]
  ·obtain ⟨d, q⟩ := Lj (H2 := H ++ [x]) (fun i l V W cl hi => get hi) h
   rw[q,d]
 case call c =>
  unfold qU at h|-;split at h
  ·split at h
   ·rename_i id _ _
    cases hi:H[id]? with
    |none=>rw[hi]at h; cases h
    |some y=>rw[hi]at h; rw[get hi]; exact h
   ·cases h
  ·cases h
theorem VZ{r:ct->AV}{H:List ai}{id:Nat}{x y:ai}{v:AV}(d:H[id]? = some y)(g:(∃ k,y=.vQ k 0 [])\/y=.fA):∀{op:Op},gz P r H op=some v->gz P r (H.set id x) op=some v:=by
 have get:∀{i:Nat},i≠id->(H.set id x)[i]? = H[i]? := fun h=>bf (Ne.symm h);intro op h;cases op<;>simp only[gz]at h|-<;>try cases h
 case load t a =>
  unfold mP at h|-;split at h
  ·rename_i n agg O
   split at h
   ·exact h
   ·rename_i i ak w row I ha
    by_cases e:i=id
    ·subst e
     rw[d]at h;rcases g with⟨k,rfl⟩|rfl<;>simp at h
    ·rw [get e]
     exact h
   ·rename_i i l j w row I ha
    by_cases e:i=id
    ·subst e
     rw[d]at h;rcases g with⟨k,rfl⟩|rfl<;>simp at h
    ·rw [get e]
     exact h
   ·cases h
  ·cases h
 case lookup t m k ok =>
  split at h
  ·rename_i U h1
   cases h;have q:hZ P t (r m) (r k) ok (H.set id x)=some v:=by
    unfold hZ at h1|-;split at h1
    ·rename_i V W i hm N
     by_cases e:i=id
     ·subst e
      rw[d]at h1;rcases g with⟨k,rfl⟩|rfl<;>simp at h1
     ·rw [get e]
      exact h1
    ·cases h1
   rw[q]
  ·obtain ⟨q,M⟩:=Lj (H2:=H.set id x) (fun i l es ms cl hi=>by
    have e:i≠id:=fun e=>by
     rw[e,d]at hi;rcases g with⟨k,rfl⟩|rfl<;>cases hi
    rw[get e];exact hi) h
   rw[M,q]
 case call c =>
  unfold qU at h|-;split at h
  ·split at h
   ·rename_i i _ _
    by_cases e:i=id
    ·subst e
     rw[d]at h;rcases g with⟨k,rfl⟩|rfl<;>simp at h
    ·rw [get e]
     exact h
   ·cases h
  ·cases h
theorem LH{P:aj}{t:aD}{id:Nat}{m:List (Option (List Kd))}{H H':List ai}{v:AV}(h:qS P t id m H=some (v,H')) :
  ∃ z k,fC P t=some z/\H[id]? = some (.vQ k 0 [])/\k=z.length/\v=.ptr id 1 k 0 0/\H'=H.set id (.vQ k 1 [fm m z]):=by
 unfold qS at h;split at h
 ·rename_i z k g d
  split at h
  ·rename_i q
   cases h;exact⟨z,k,g,d,q,rfl,rfl⟩
  ·cases h
 ·cases h
theorem LI{P:aj}{t:aD}{id:Nat}{H:List ai}{z:List al}{k:Nat} (m:List (Option (List Kd))) (g:fC P t=some z) (d:H[id]? = some (.vQ k 0 [])) (h:k=z.length) :
  qS P t id m H=some (.ptr id 1 k 0 0,H.set id (.vQ k 1 [fm m z])):=by
 unfold qS;rw[g,d];simp only[];rw[iP h]
theorem LJ{q h:aR}{s:St}{v u:AV}{W g:List ai}(h1:q.apart ah h=true)(_h2:h.apart ah q=true)(I:pZ pf q h=true)
  (hi:Yields P pf ah q s v W) (hj:Yields P pf ah h (s.put q.dst v W) u g) :
  ∃ Hj1,Yields P pf ah h s u Hj1/\Yields P pf ah q (s.put h.dst u Hj1) v g:=by
 obtain⟨a1,a2,a3⟩:=J0 h1;have wj:cH ah (s.put q.dst v W).fr h=cH ah s.fr h:=B6 a1;have wi:∀ N,cH ah (s.put h.dst u N).fr q=cH ah s.fr q:=fun N=>B6 a3;have ej:∀ x∈h.op.operands,(s.put q.dst v W).eval x=s.eval x:=fun x M=>eval_put a1 M;have ei:∀ N,∀ x∈q.op.operands,(s.put h.dst u N).eval x=s.eval x:=fun N x M=>eval_put a3 M;unfold pZ at I;split at I
 ·-- q only computes
  rename_i U;obtain⟨O,g1⟩:=yC U hi;subst O;refine⟨g,(ia wj ej rfl).1 hj,?_⟩;exact(ia (s1:=s.put h.dst u g) (s:=⟨s.fr,g⟩) (wi g) (fun x M=>by rw[ei g x M]; cases x<;>rfl) rfl).2 (g1 g)
 ·-- h only computes
  rename_i V _;obtain⟨O,g1⟩:=yC V hj;have e1':g=W:=O;subst e1';refine⟨s.H,?_,?_⟩
  ·have := g1 s.H
   exact(ia (s1:=⟨(s.put q.dst v g).fr,s.H⟩) (s:=s) wj (fun x M=>by
    have:=ej x M;cases x<;>exact this) rfl).1 this
  ·exact(ia (s1:=s.put h.dst u s.H) (s:=s) (wi s.H) (ei s.H) rfl).2 hi
 ·rename_i U V
  have O:=tg U hi;subst O;have e2:=tg V hj;have e2':g=s.H:=e2;subst e2';exact⟨s.H,(ia wj ej rfl).1 hj,(ia (s1:=s.put h.dst u s.H) (s:=s) (wi s.H) (ei s.H) rfl).2 hi⟩
 ·rename_i U V
  have O:=tg U hi;subst O;have d:=(ia wj ej rfl).1 hj;refine⟨g,d,?_⟩;have hpush:g=s.H\/(∃ x,g=s.H++[x])\/∃ id y x,s.H[id]? = some y/\((∃ k,y=.vQ k 0 [])\/y=.fA)/\g=s.H.set id x:=by
   unfold Yields at d;simp only[V]at d;split at d
   ·exact d.elim
   ·exact .inl d.2
   ·rcases d with (d | ⟨f, args, h1, _⟩) | (⟨t, id, m, ho, hv⟩ | ⟨t, id, ho, hv⟩) | hst
    ·unfold fD at I
     split at I
     ·rename_i t ho
      rw[ho]at d;simp only[dy,sZ]at d;split at d
      ·split at d
       ·cases d; exact .inr (.inl ⟨_,rfl⟩)
       ·cases d
      ·split at d
       ·cases d; exact .inr (.inl ⟨_,rfl⟩)
       ·cases d
     ·rename_i t ho
      rw[ho]at d;simp only[dy]at d;cases d;exact .inr (.inl ⟨_,rfl⟩)
     ·cases I
    ·unfold fD at I
     split at I
     ·rename_i t ho
      rw[ho]at h1;cases h1
     ·rename_i t ho
      rw[ho]at h1;cases h1
     ·cases I
    ·obtain ⟨z, k, _, h2, _, _, h3⟩ := LH hv
     exact .inr (.inr ⟨id,_,_,h2,.inl ⟨k,rfl⟩,h3⟩)
    ·obtain ⟨h1, _, h3⟩ := F_ hv
     exact .inr (.inr ⟨id,_,_,h1,.inr rfl,h3⟩)
    ·unfold fD at I
     split at I
     ·rename_i t ho
      rw[ho]at hst;exact hst.elim
     ·rename_i t ho
      rw[ho]at hst;exact hst.elim
     ·cases I
  refine(ia (s1:=s.put h.dst u g) (s:=⟨s.fr,g⟩) (wi g) (fun x M=>by rw[ei g x M]; cases x<;>rfl) rfl).2 ?_;have key:∀ N:List ai,St.eval ⟨s.fr,N⟩=s.eval:=fun N=>by funext x; cases x<;>rfl
  unfold Yields at hi|-;simp only[U]at hi|-;cases hw:cH ah s.fr q with
  |none=>rw[hw]at hi; exact hi.elim
  | some b =>
   rw[hw]at hi;cases b with
   |false=>exact⟨hi.1,by simp⟩
   | true =>
    refine⟨by simp,?_⟩;rw[key];rcases hpush with rfl|⟨x,rfl⟩|⟨id,y,x,hid,hy,rfl⟩
    ·exact hi.2
    ·exact VY hi.2
    ·exact VZ hid hy hi.2
 ·cases I
def Gv(ah:Array aR)(d:Array Bool)(j:Nat):Prop :=
 ∀ o,ah[j]? = some o->∀ e∈o.after,JZ .any e=true->d.getD e.on false=true
def th(ah:Array aR)(d:Array Bool):Prop:=∀ j,d.getD j false=true->Gv ah d j
theorem Gw{d:Array Bool}(g:th ah d):∀(n j i:Nat),Gv ah d j->waits ah n j i=true->d.getD i false=true
 |0,_,_,_,h=>by simp[waits]at h
 | n+1,j,i,q,h=>by
  unfold waits at h;split at h
  ·rename_i o ho
   rw[lq]at h;obtain⟨e,he,hb⟩:=h;simp only[aL,uF,beq_iff_eq]at hb;have k:=q o ho e (by simpa using he) hb.1;rcases hb.2 with rfl|v
   ·exact k
   ·exact Gw g n e.on i (g _ k) v
  ·cases h
theorem Gx{d:Array Bool}{j:Nat}(h:j∈nN .any ah d):Gv ah d j:=by
 obtain⟨_,o,ho,k⟩:=mem_ready.1 h;intro o' g;rw[ho]at g;cases g;exact k
theorem B7{d:Array Bool}(q:th ah d){j:Nat}(v:j∈nN .any ah d):th ah (d.setIfInBounds j true):=by
 intro k y o ho e he hb;by_cases g:j=k
 ·subst g
  exact getD_set_true (Gx v o ho e he hb)
 ·have:d.getD k false=true:=by
   have h:=y;simp[Array.getElem?_setIfInBounds_ne g]at h;simpa using h
  exact getD_set_true (q k this o ho e he hb)
theorem LK(s:St)(x y:Option Tmp)(v u:AV)(H1 g k:List ai)(h:∀ d,x=some d->y≠some d):(s.put x v H1).put y u g=(s.put y u k).put x v g:=by
 simp only[St.put,VX s.fr v u h]
theorem LM{d:Array Bool}{i:Nat}(h:i∈nN .any ah d):d.getD i false=false:=by
 obtain⟨h0,_⟩:=mem_ready.1 h;rcases l5 i d.size with h'|h'
 ·simp[h']at h0|-; exact h0
 ·simp[J1 h']at h0
theorem V0{s':St}{i:Nat}{y:aR}(hi:ah[i]? = some y):∀(N:Nat) (d:Array Bool) (s:St) (v:AV) (H':List ai),th ah d ->
  (∀ j q,ah[j]? = some q->j≠i->d.getD j true=false->waits ah ah.size j i=false->y.apart ah q=true/\q.apart ah y=true/\pZ pf y q=true) ->
  i∈nN .any ah d->Yields P pf ah y s v H'->vl P pf ah s' N (d.setIfInBounds i true) (s.put y.dst v H')->vl P pf ah s' (N+1) d s:=by
 intro N
 induction N with
 | zero =>
  intro d s v H' _ _ I O H;refine⟨fun h=>(by rw[h]at I; cases I),fun j M=>?_⟩;by_cases g:j=i
  ·subst g
   unfold vk;simp only[hi];exact⟨v,H',O,H⟩
  ·have := ready_mono M g
   rw[H.1]at this;cases this
 | succ N ih =>
  intro d s v H' hcl V I O H;refine⟨fun h=>(by rw[h]at I; cases I),fun j M=>?_⟩;by_cases g:j=i
  ·subst g
   unfold vk;simp only[hi];exact⟨v,H',O,H⟩
  ·have h1 := H.2 j (ready_mono M g)
   obtain⟨W,q,hoj,hall⟩:=mem_ready.1 M;unfold vk at h1|-;simp only[hoj]at h1|-;obtain⟨u,Hj,hyj,hrest⟩:=h1;have hnw:waits ah ah.size j i=false:=by
    cases hw:waits ah ah.size j i with
    |false=>rfl
    | true =>
     have:=Gw hcl _ _ _ (Gx M) hw;rw[LM I]at this;cases this
   obtain⟨a1,a2,a3⟩:=V j q hoj g W hnw;obtain⟨U,q1,q2⟩:=LJ a1 a2 a3 O hyj;refine⟨u,U,q1,?_⟩;refine ih (d.setIfInBounds j true) (s.put q.dst u U) v Hj (B7 hcl M) ?_ (ready_mono I (Ne.symm g)) q2 ?_
   ·intro k ok hk hki hun hno
    refine V k ok hk hki ?_ hno;by_cases hjk:j=k
    ·subst hjk; exact W
    ·rw[getD_set_ne true hjk]at hun; exact hun
   ·rw [akk _ _ g]
    have:=LK s y.dst q.dst v u H' Hj U (J0 a1).2.1;rw[<-this];exact hrest
theorem LN{s':St}(hB:vj pf ah=true):∀(l:List aR) (k:Nat) (d:Array Bool) (s:St),l=ah.toList.drop k->th ah d->d.size=ah.size ->
  (∀ j,j<ah.size->(d.getD j true=false↔k<=j))->kR P pf ah l s s'->vl P pf ah s' l.length d s
 | [],k,d,s,M,_,U,g,h=>by
  simp only[kR]at h;refine⟨?_,h.symm⟩;apply akl.2;intro j q;obtain⟨h0,o,ho,_⟩:=mem_ready.1 q;have I:j<ah.size:=(l8.1 ho).1;have:=(g j I).1 h0;have hlen:(ah.toList.drop k).length=0:=by rw[<-M]; rfl
  simp at hlen;omega
 | o::l,k,d,s,M,V,U,g,h=>by
  obtain⟨v,H',hy,hrest⟩:=h;have h0:ah[k]? = some o:=by
   have:(ah.toList.drop k)[0]? = some o:=by rw[<-M]; rfl
   simpa using this
  have I:k<ah.size:=(l8.1 h0).1;simp only[vj,aL,dK,gH]at hB;obtain⟨_,N⟩:=hB;have hlistedlt:∀ j,j<k->d.getD j false=true:=by
   intro j q;have W:¬ (d.getD j true=false):=fun e=>by have:=(g j (by omega)).1 e; omega
   have:j<d.size:=by omega
   simp[this]at W|-;exact W
  have O:k∈nN .any ah d:=by
   refine mem_ready.2 ⟨(g k I).2 (aQ _),o,h0,fun e he hb=>?_⟩;have:=N k I;rw[h0]at this;simp only[aL,dK]at this;have h1:=this.1 e (by simpa using he);simp only[hb,xR,uG,dT]at h1;exact hlistedlt e.on h1
  refine V0 h0 l.length d s v H' V ?_ O hy ?_
  ·intro j oj q hjk hun hnw
   have y:j<ah.size:=(l8.1 q).1;have hkj:k<=j:=(g j y).1 hun;have:=N j y;rw[q]at this;simp only[aL,dK,gH]at this;have h1:=this.2 k (by omega);rw[h0]at h1;simp only[hnw,uG,aL]at h1;exact⟨h1.1.1,h1.1.2,h1.2⟩
  ·refine LN (by simp only [vj, aL, dK, gH]; exact ⟨‹_›, N⟩) l (k + 1) _ _ ?_ (B7 V O) (by simpa using U) ?_ hrest
   ·rw[<-sJ,<-M]; rfl
   ·intro j y
    by_cases e:k=j
    ·subst e
     have:k<d.size:=by omega
     simp[this]
    ·rw [getD_set_ne true e, g j y]
     omega
theorem V3{id:Nat}{s s':St}{E:af}{a:Act}{Q:Exit->Act->ba->Prop}(hm:P.follows .mixedOrders=true)(hB:vj pf ah=true)(d:dS s E a)
  (h:kR P pf ah ah.toList s s') (y:∀ g w',gA E s' g w'->Q .normal g w'):∀ q:Option Nat,(Code.region id ah true).wpIn (fz q) 0 P Q a E.w:=by
 intro q;have v:dS s { E with w:={ E.w with drawn:=E.w.drawn+1 } } a:=⟨d.H,en (af.lr (Ext.drawn E.w _)) _ d.fr,FE d.heap (af.lr (Ext.drawn E.w _)) d.defers,d.heap.ext (Ext.drawn E.w _)⟩
 refine wpIn_region_any hm (B5 (pf:=pf) _ _ s { E with w:={ E.w with drawn:=E.w.drawn+1 } } a v ?_ (fun g w' I=>y g w' (gA.after (af.lr (Ext.drawn E.w _)) I)) q);have:=LN (P:=P) (s':=s') hB ah.toList 0 (uH ah.size false) s (by simp) (by
  intro j k;exfalso;rcases l5 j ah.size with h'|h'
  ·simp[h']at k
  ·simp[J1 (xs:=uH ah.size false) (by simpa using h')]at k) (by simp) (by intro j k; simp[k]) h
 simpa using this
theorem V4{id:Nat}{s s':St}{E:af}{a:Act}{Q:Exit->Act->ba->Prop}(k:dS s E a)
  (h:kR P pf ah ah.toList s s') (q:∀ g w',gA E s' g w'->Q .normal g w'):∀ d:Option Nat,(Code.region id ah false).wpIn (fz d) 0 P Q a E.w:=by
 intro d;refine wpIn_region ?_;have:=Gu (Q:=Q) ah.toList 0 s s' E a (by simp) h k q d;rw[List.range_eq_range'];simpa using this
end Go.AL

namespace Go.AL
open Go
variable [Dr]
inductive cD where
 |normal
 |exit (id:Nat)
 |ret
 deriving DecidableEq
def cD.toExit:cD->Exit
 |.normal=>.normal
 |.exit id=>.exit id
 |.ret=>.ret
structure af.gB (m:Nat) (E E':af):Prop where
 bu:∀ id,id<m->E.bu id 0->E'.bu id 0
 size:E.w.heap.size<=E'.w.heap.size
 same:∀ b,b<E.w.heap.size->¬ E.ab b->E'.w.heap[b]? = E.w.heap[b]?
 ab:∀ b,b<E.w.heap.size->¬ E.ab b->¬ E'.ab b
 live:∀ id,id<m->E.bu id 0->E'.live id 0->E.live id 0/\E'.ae[id]? = E.ae[id]?
 X:∀ b,b<E.w.heap.size->(E'.X b↔E.X b)/\(E'.X.z b↔E.X.z b)
 rl:∀ l h,h<(E.X.r l).length->h<(E'.X.r l).length/\∀ q,(E'.X.r l)[h]? = some (some q)->(E.X.r l)[h]? = some (some q)
 env:ft E.w E'.w
 grow:∀ id,id<m->∀ l o,E.H[id]? = some o->o.dR=some l->E'.live id 0->(∃ t,E'.X.r l=E.X.r l++t)/\∃ o',E'.H[id]? = some o'/\o'.dR=some l
theorem af.le.toM{m:Nat}{E E':af}(h:E.le E'):E.gB m E':=⟨fun id _ d=>h.bu id 0 d,h.size,h.same,h.ab,fun id _ d g=>h.live id 0 d g,fun b _=>by rw[show E'.X.x=E.X.x from h.X.1,show E'.X.z=E.X.z from h.X.2]; exact⟨Iff.rfl,Iff.rfl⟩,h.rl,h.env,fun id _ l o h1 k q=>h.grow id l o h1 k q⟩
def LO(H:List ai):Prop:=∀ o∈H,o.aU = some 0
theorem af.gB.full{m:Nat}{E E':af}(h:E.gB m E')(hX:E'.X.x=E.X.x/\E'.X.z=E.X.z)(hm:E.H.length<=m)(k:LO E.H):E.le E':=by
 have key:∀ id ak,E.bu id ak->id<m/\ak=0:=by
  rintro id ak ⟨o,ho,q⟩;have h1:=aV ho;have g:=q.2 0 (k o (List.mem_of_getElem? ho));exact⟨by omega,by omega⟩
 refine⟨fun id ak d=>?_,h.size,h.same,h.ab,fun id ak d v=>?_,hX,h.rl,h.env,fun id l o h1 g y=>h.grow id (eQ (aV h1) hm) l o h1 g y⟩
 ·obtain ⟨h1, rfl⟩ := key id ak d
  exact h.bu id h1 d
 ·obtain ⟨h1, rfl⟩ := key id ak d
  exact h.live id h1 d v
theorem af.gB.trans{m:Nat}{E E' O:af}(h:E.gB m E')(h':E'.gB m O):E.gB m O where
 bu:=fun id hi g=>h'.bu id hi (h.bu id hi g)
 size:=Nat.le_trans h.size h'.size
 same:=fun b hb ho=>by rw[h'.same b (eQ hb h.size) (h.ab b hb ho),h.same b hb ho]
 ab:=fun b hb ho=>h'.ab b (eQ hb h.size) (h.ab b hb ho)
 live:=fun id hi U hl=>by
  obtain⟨k,y⟩:=h'.live id hi (h.bu id hi U) hl;obtain⟨I,M⟩:=h.live id hi U k;exact⟨I,by rw[y,M]⟩
 X:=fun b hb=>by
  have h1:=h'.X b (eQ hb h.size);have d:=h.X b hb;exact⟨h1.1.trans d.1,h1.2.trans d.2⟩
 rl:=fun l i hi=>by
  obtain⟨k,y⟩:=h.rl l i hi;obtain⟨I,M⟩:=h'.rl l i k;exact⟨I,fun q hq=>y q (M q hq)⟩
 env:=h.env.trans h'.env
 grow:=fun id hi l o h1 d N=>by
  have g:E.bu id 0:=⟨o,h1,ai.Fq d,fun v N=>Nat.zero_le _⟩
  obtain⟨V,_⟩:=h'.live id hi (h.bu id hi g) N;obtain⟨⟨t,ht⟩,o',g1,g2⟩:=h.grow id hi l o h1 d V;obtain⟨⟨t',W⟩,o'',g3,g4⟩:=h'.grow id hi l o' g1 g2 N;exact⟨⟨t++t',by rw[W,ht,List.append_assoc]⟩,o'',g3,g4⟩
def fv(m:Nat)(E:af)(s':St)(h:Act)(w':ba):Prop :=
 ∃ d g,dS s' { w:=w',H:=s'.H,ae:=d,X:=g } h/\E.gB m { w:=w',H:=s'.H,ae:=d,X:=g }
theorem gA.toM{m:Nat}{E:af}{s':St}{a:Act}{w:ba}(h:gA E s' a w):fv m E s' a w:=let ⟨ae,r,h1,d⟩:=h; ⟨ae,E.X.re r,h1,d.toM⟩
theorem fv.after{m:Nat}{E E':af}{s':St}{d:Act}{w':ba}(h:E.gB m E')(h':fv m E' s' d w'):fv m E s' d w':=by
 obtain⟨g,k,h1,q⟩:=h';exact⟨g,k,h1,h.trans q⟩
theorem fv.refl{m:Nat}{s:St}{E:af}{a:Act}(h:dS s E a):fv m E s a E.w:=(gA.refl h).toM
def jP:Code->Bool
 |.seq a b=>jP a&&jP b
 |.cond _ a b=>jP a&&jP b
 |.block _ c=>jP c
 |.loop c=>jP c
 |.scope c=>jP c
 |.rangeFunc ..=>false
 |_=>true
def ib(d:Option Nat)(c:Code):Prop:=d=none\/jP c=true
theorem ib.seq1{d:Option Nat}{a b:Code}(h:ib d (.seq a b)):ib d a:=h.imp id fun h=>by
 have h:(jP a&&jP b)=true:=h;exact(aL _ _▸h).1
theorem ib.LP{d:Option Nat}{a b:Code}(h:ib d (.seq a b)):ib d b:=h.imp id fun h=>by
 have h:(jP a&&jP b)=true:=h;exact(aL _ _▸h).2
theorem ib.cond{d:Option Nat}{o:ct}{a b:Code}(t:Bool)(h:ib d (.cond o a b)):ib d (if t then a else b):=h.imp id fun h=>by
 have h:(jP a&&jP b)=true:=h;cases t
 ·exact(aL _ _▸h).2
 ·exact(aL _ _▸h).1
theorem ib.block{d:Option Nat}{i:Nat}{a:Code}(h:ib d (.block i a)):ib d a:=h
theorem ib.loop{d:Option Nat}{a:Code}(h:ib d (.loop a)):ib d a:=h
theorem LQ(c:Code):ib none c:=.inl rfl
def dX(P:aj)(m:Nat)(c:Code)(s:St)(x:cD)(s':St):Prop :=
 ∀(d:Option Nat),ib d c->∀(E:af) (a:Act),dS s E a->c.wpIn (fz d) 0 P (fun e g h=>e=x.toExit/\fv m E s' g h) a E.w
def bF(m:Nat)(s s':St):Prop:=∀(E:af) (a:Act),dS s E a->fv m E s' a E.w
theorem bF.refl{m:Nat}(s:St):bF m s s:=fun _ _ h=>fv.refl h
theorem bF.trans{m:Nat}{s s1 s2:St}(h:bF m s s1)(h':bF m s1 s2):bF m s s2:=fun E a d=>by
 obtain⟨ae,X,h1,g⟩:=h E a d;exact fv.after g (h' _ a h1)
theorem fv.weaken{m:Nat}{E:af}{s s':St}{a:Act}{w:ba}(h:fv m E s a w)(d:bF m s s'):fv m E s' a w:=by
 obtain⟨ae,X,h1,g⟩:=h;exact fv.after g (d _ a h1)
section rules
variable {P:aj} {m:Nat} {s s' s1:St} {x:cD}
theorem vm{c:Code}(d:bF m s s1)(h:dX P m c s1 x s'):dX P m c s x s':=fun g ho E a k=>by
 obtain⟨ae,X,h1,q⟩:=d E a k;exact wpIn_mono (h g ho { w:=E.w,H:=s1.H,ae:=ae,X:=X } a h1) fun e I M ⟨v,y⟩=>⟨v,fv.after q y⟩
theorem vn{c:Code}(h:dX P m c s x s1)(d:bF m s1 s'):dX P m c s x s':=fun g ho E a k =>
 wpIn_mono (h g ho E a k) fun _ _ _ ⟨q,v⟩=>⟨q,v.weaken d⟩
theorem V5:dX P m .skip s .normal s:=fun _ _ _ _ d=>wpIn_skip ⟨rfl,fv.refl d⟩
theorem V6:dX P m .ret s .ret s:=fun _ _ _ _ d=>wpIn_ret ⟨rfl,fv.refl d⟩
theorem V7{id:Nat}:dX P m (.exit id) s (.exit id) s:=fun _ _ _ _ d=>wpIn_exit ⟨rfl,fv.refl d⟩
theorem V8{pf:bO->Bool}{id:Nat}{ah:Array aR}{d:Bool}(hm:P.follows .mixedOrders=true)(v:d=true->vj pf ah=true)(h:kR P pf ah ah.toList s s') :
  dX P m (.region id ah d) s .normal s':=fun k ho E a q=>by
 cases d with
 |false=>exact V4 q h (fun y w' g=>⟨rfl,g.toM⟩) k
 |true=>exact V3 hm (v rfl) q h (fun y w' g=>⟨rfl,g.toM⟩) k
theorem LR{c d:Code}(h:dX P m c s .normal s1)(h':dX P m d s1 x s'):dX P m (.seq c d) s x s':=fun g ho E a k =>
 wpIn_seq (wpIn_mono (h g ho.seq1 E a k) fun e q U ⟨v,y⟩=>by
  subst v;obtain⟨ae,X,I,M⟩:=y;exact wpIn_mono (h' g ho.LP _ q I) fun _ _ _ ⟨N,O⟩=>⟨N,fv.after M O⟩)
theorem LS{c d:Code}(h:dX P m c s x s')(k:x≠.normal):dX P m (.seq c d) s x s':=fun q ho E a v =>
 wpIn_seq (wpIn_mono (h q ho.seq1 E a v) fun e I M ⟨y,g⟩=>by
  subst y;cases x with
  |normal=>exact(k rfl).elim
  |exit id=>exact⟨rfl,g⟩
  |ret=>exact⟨rfl,g⟩)
theorem LU{o:ct}{c d:Code}{b:Bool}(hb:s.eval o=.lit (.bool b))(h:dX P m (if b then c else d) s x s'):dX P m (.cond o c d) s x s':=fun k ho E a g=>by
 have:=g.eval o;rw[hb]at this;simp only[ad]at this;exact wpIn_cond this (h k (ho.cond b) E a g)
def cD.inBlock(id:Nat):cD->cD
 |.exit i=>if i=id then .normal else .exit i
 |x=>x
theorem V9{id:Nat}{c:Code}(h:dX P m c s x s'):dX P m (.block id c) s (x.inBlock id) s':=fun g ho E a k =>
 wpIn_block (wpIn_mono (h g ho E a k) fun e v y ⟨q,d⟩=>by
  subst q;cases x with
  |normal=>exact⟨rfl,d⟩
  | exit i =>
   simp only[cD.toExit,Exit.inBlock,cD.inBlock];split
   ·exact⟨rfl,d⟩
   ·exact⟨rfl,d⟩
  |ret=>exact⟨rfl,d⟩)
def vo(P:aj)(m:Nat)(c:Code):Nat->St->cD->St->Prop
 |0,s,x,s'=>x≠.normal/\dX P m c s x s'
 |n+1,s,x,s'=>∃ s1,dX P m c s .normal s1/\vo P m c n s1 x s'
def mU(P:aj)(m:Nat)(c:Code)(s:St)(x:cD)(s':St):Prop:=∃ n,vo P m c n s x s'
theorem mU.stop{c:Code}(h:dX P m c s x s')(d:x≠.normal):mU P m c s x s':=⟨0,d,h⟩
theorem mU.next{c:Code}(h:dX P m c s .normal s1)(h':mU P m c s1 x s'):mU P m c s x s':=let ⟨n,d⟩:=h'; ⟨n+1,s1,h,d⟩
theorem mU.pre{c:Code}(g:bF m s s1)(h:mU P m c s1 x s'):mU P m c s x s':=by
 obtain⟨n,d⟩:=h;cases n with
 |zero=>exact⟨0,d.1,vm g d.2⟩
 | succ n =>
  obtain⟨s2,h1,k⟩:=d;exact⟨n+1,s2,vm g h1,k⟩
theorem LV{c:Code}(h:mU P m c s x s'):dX P m (.loop c) s x s':=fun U ho E a hs b k cs hro hb q=>by
 obtain⟨n,hn⟩:=h;have key:∀(n:Nat) (s1:St) (d:af) (a:Act),dS s1 d a->E.gB m d->vo P m c n s1 x s' ->
   ∃ e v w',(e=x.toExit/\fv m E s' v w')/\ArrivesIn (Machine.fenced P (fz U)) P (lone (b.atR a (.code c::.inLoop c::k)) cs d.w) b k cs e v w':=by
  intro n
  induction n with
  | zero =>
   intro s1 d a N O I;obtain⟨hx,M⟩:=I;obtain⟨e,V,w1,⟨y,h4⟩,g⟩:=M U ho.loop d a N b (.inLoop c::k) cs hro hb q;refine⟨e,V,w1,⟨y,fv.after O h4⟩,?_⟩;subst y;exact .pass (x:=.inLoop c) rfl (fun _ _=>.inl (by cases x<;>simp_all[cD.toExit])) g
  | succ n ih =>
   intro s1 d a N O I;obtain⟨s2,M,hrest⟩:=I;obtain⟨e,V,w1,⟨y,ae,X,h5,h6⟩,g⟩:=M U ho.loop d a N b (.inLoop c::k) cs hro hb q;subst y;obtain⟨e2,a2,w2,W,harr2⟩:=ih s2 _ V h5 (O.trans h6) hrest;exact⟨e2,a2,w2,W,.of_steps (StepsIn.trans g (.one (fenced_calm hb q rfl) stepR_inLoop)) harr2⟩
 obtain⟨e,v,w',W,g⟩:=key n s E a hs (af.le.refl E).toM hn;exact⟨e,v,w',W,.of_steps (.one (fenced_calm hb q rfl) stepR_loop) g⟩
end rules
def B8(P:aj)(s:St):ResultVar->Option AV
 |.tmp t=>some (s.fr.getD t .undef)
 |.cell a t=>mP P t (s.fr.getD a .undef) s.H
def n9(P:aj)(s:St):List ResultVar->Option (List AV)
 | []=>some []
 | r::rs=>match B8 P s r,n9 P s rs with
  |some v,some d=>some (v::d)
  |_,_=>none
def fE:List AV->AV
 | [v]=>v
 |d=>.tuple d
def Gy(tmps:Array al):ResultVar->Sem al
 |.tmp t=>pure (tmps.getD t undef)
 |.cell a t=>do loadVar t (<- asAddr (tmps.getD a undef))
theorem V_{P:aj}{s:St}{E:af}{a:Act}(k:dS s E a){r:ResultVar}{v:AV}(h:B8 P s r=some v) :
  ∃ u,(Gy a.tmps r).run P E.w=.ok u E.w/\ad E v u:=by
 cases r with
 | tmp t =>
  simp only[B8,be]at h;subst h;exact⟨_,rfl,k.eval (.tmp t)⟩
 | cell x t =>
  simp only[B8]at h;rw[<-k.H]at h;have d:=k.eval (.tmp x);simp only[St.eval,Act.eval]at d;obtain⟨u,q,y⟩:=Ku k.heap h d;refine⟨u,?_,y⟩;have I:∃ b o,a.tmps.getD x undef=.pointer (some ⟨b,o,none⟩):=by
   unfold mP at h;split at h
   case h_2=>cases h
   split at h
   ·rename_i g
    rw[g]at d;simp only[ad]at d;obtain⟨_,b,o,e,_⟩:=d;exact⟨b,o,e⟩
   ·rename_i g
    rw[g]at d;simp only[ad]at d;obtain⟨⟨b,o,e⟩,_⟩:=d;exact⟨b,o,e⟩
   ·rename_i g
    rw[g]at d;simp only[ad]at d;obtain⟨⟨b,o,e⟩,_⟩:=d;exact⟨b,o,e⟩
   ·cases h
  obtain⟨b,o,e⟩:=I;show (do loadVar t (<- asAddr (a.tmps.getD x undef)):Sem al).run P E.w=.ok u E.w
  rw[e]at q|-;simpa[Instr.loadAt,Instr.sureAddr,asAddr]using q
theorem Gz{P:aj}{s:St}{E:af}{a:Act}(k:dS s E a):∀(rs:List ResultVar) (d:List AV),n9 P s rs=some d ->
  ∃ g:List al,(rs.mapM (Gy a.tmps)).run P E.w=.ok g E.w/\aw E d g
 | [],d,h=>by simp[n9]at h; subst h; exact⟨[],rfl,by simp[aw]⟩
 | r::rs,d,h=>by
  simp only[n9]at h;split at h
  case h_2=>cases h
  rename_i v q h1 y;cases h;obtain⟨u,I,M⟩:=V_ k h1;obtain⟨g,N,O⟩:=Gz k rs q y;refine⟨u::g,?_,by simp only[aw]; exact⟨M,O⟩⟩;simp only[List.mapM_cons,cf];rw[I];simp only[b_];rw[N];rfl
theorem LW(fn:Func)(tmps:Array al):results fn tmps=(do let d <- fn.results.mapM (Gy tmps); pure (if h:d.size=1 then d[0] else .tuple d)):=by
 unfold results;congr 1
def qV(args:List AV)(n:Nat):List AV:=args++cC (n-args.length) .undef
theorem GA{E:af}:∀(d:List al),aw E (cC d.length .undef) d
 | []=>by simp[aw]
 |_::d=>by simp only[cd,List.replicate_succ,aw,ad]; exact⟨trivial,GA d⟩
structure mV (E E':af):Prop where
 H:E'.H=E.H
 ae:E'.ae=E.ae
 size:E.w.heap.size<=E'.w.heap.size
 same:∀ b,b<E.w.heap.size->¬ E.X b->¬ E'.X b/\E'.w.heap[b]? = E.w.heap[b]?
 X:∀ b,E'.X b->b<E'.w.heap.size
 r:E'.X.r=E.X.r
theorem mV.ab{E E':af}(h:mV E E')(b:Nat):E'.ab b↔E.ab b:=by unfold af.ab af.sat; rw[h.ae,h.r]
theorem mV.toC{E E':af}(h:mV E E'):E.bT E' :=
 ⟨fun b hb=>⟨⟨eQ hb.1 h.size,fun ho=>hb.2.1 ((h.ab b).1 ho),(h.same b hb.1 hb.2.2).1⟩,(h.same b hb.1 hb.2.2).2⟩⟩
mutual
theorem LX{E E':af}(h:mV E E'):∀(a:AV) {c:al},ad E a c->ad E' a c
 |.undef,_,_=>by simp[ad]
 |.lit v,c,d=>by simpa only[ad]using d
 |.nils,c,d=>by simpa only[ad]using d
 |.list k rZ,c,d=>fB h.toC _ (by simp[AV.closed]) d
 |.listF ks rZ,c,d=>fB h.toC _ (by simp[AV.closed]) d
 | .agg cells,c,d=>by
  simp only[ad]at d|-;obtain⟨cs,e,h1,g⟩:=d;exact⟨cs,e,h1,tm h cells g⟩
 | .tuple cells,c,d=>by
  simp only[ad]at d|-;obtain⟨cs,e,g⟩:=d;exact⟨cs,e,tm h cells g⟩
 |.cptr cells,c,d=>fB h.toC _ (by simp[AV.closed]) d
 | .ptr id ak k row q,c,d=>by
  simp only[ad,af.bu,af.live,h.H,h.ae]at d|-;exact d
 | .vQ k id ak oF n,c,d=>by
  simp only[ad,af.bu,af.live,h.H,h.ae]at d|-;exact d
 | .map id,c,d=>by
  simp only[ad,af.bu,af.live,h.H,h.ae]at d|-;exact d
 | .clo f caps,c,d=>by
  simp only[ad]at d|-;obtain⟨cs,e,g⟩:=d;exact⟨cs,e,tm h caps g⟩
 |.ifc,c,d=>by simpa only[ad]using d
 |.emptyS n,c,d=>by simpa only[ad]using d
 | .sub id l j,c,d=>by
  simp only[ad,af.bu,af.live,af.Ki,h.H,h.r]at d|-;exact d
 | .svec ..,c,d=>by
  simp only[ad,af.bu,af.live,af.uO,h.H,h.r]at d|-;exact d
 | .sptr ..,c,d=>by
  simp only[ad,af.bu,af.live,af.uO,h.H,h.r]at d|-;exact d
theorem tm{E E':af}(h:mV E E'):∀(as:List AV) {g:List al},aw E as g->aw E' as g
 | [],[],_=>by simp[aw]
 | [],_::_,d=>by simp[aw]at d
 |_::_,[],d=>by simp[aw]at d
 | a::as,v::g,d=>by
  simp only[aw]at d|-;exact⟨LX h a d.1,tm h as d.2⟩
end
theorem aI.jl{E E':af}(H:aI E)(h:mV E E'):aI E' where
 gL:=H.gL.bT h.toC
 len:=by rw[h.ae,h.H]; exact H.len
 inj:=by rw[h.ae]; exact H.inj
 lt:=fun i b m hi=>by
  rw[h.ae]at hi;have:=H.lt i b m hi;exact⟨eQ this.1 h.size,(h.same b this.1 this.2).1⟩
 X:=h.X
 obj:=fun i o hi=>by
  rw[h.H]at hi;exact mO (fun a _ q=>LX h a q) (by rw[h.ae]) (fun b n hb=>(h.same b (H.lt i b n hb).1 (H.lt i b n hb).2).2) (fun l _=>⟨by rw[h.r],fun k g m d=>(h.same g (H.cQ l k g m d).1 (H.cQ l k g m d).2).2⟩) (H.obj i o hi)
 fM:=by rw[h.r]; exact H.fM
 dm:=by rw[h.r,h.ae]; exact H.dm
 cQ:=fun l k b m d=>by
  rw[h.r]at d;have:=H.cQ l k b m d;exact⟨eQ this.1 h.size,(h.same b this.1 this.2).1⟩
 uniq:=by rw[h.H]; exact H.uniq
 iO:=by rw[h.H,h.r]; exact H.iO
theorem dS.jl{s:St}{E E':af}{a:Act}(d:dS s E a)(h:mV E E'){l:List Deferred}(hm:oO E'.w E'.X l):dS s E' { a with defers:=l } :=
 ⟨by rw[h.H]; exact d.H,tm h _ d.fr,hm,d.heap.jl h⟩
theorem LY{P:aj}{fn:Func}{tmps:Array al}{R:Ending->ba->Prop}:∀(l:List Deferred) (w:ba) (X:XS),oO w X l ->
  (∀ w',w'.heap.size=w.heap.size->(∀ b,w'.heap[b]? ≠ w.heap[b]? -> X b/\X.z b)->ft w w'->∃ v,(results fn tmps).run P w'=.ok v w'/\R (.returned v) w')->LeavesInM (fz none) 0 P fn tmps R l .returning w
 | [],w,X,_,h=>h w rfl (fun b hb=>(hb rfl).elim) (ft.refl w)
 | d::l,w,X,hm,h=>by
  obtain⟨D,e,h1,M,N⟩:=hm.2 d cW;subst e;have hlt:D<w.heap.size:=(l8.1 h1).1;have g:∀ b,b≠D->(w.putObj D (.deferred none)).heap[b]? = w.heap[b]? := fun b hb=>World.putObj_heap_other hb;have I:(w.putObj D (.deferred none)).heap.size=w.heap.size:=by simp[World.putObj]
  refine⟨by simp,.inl ⟨D,_,rfl,run_takeDeferred h1,LY l _ X ⟨(pL.1 hm.1).2,fun O k=>?_⟩ fun w' U V W=>h w' (by rw[U,I]) (fun b hb=>?_) (ft.trans ⟨rfl,rfl,rfl,by first|exact fun _=>aQ _|exact fun _=>Nat.le_add_right _ _⟩ W)⟩⟩
  ·obtain ⟨q, y, k1, k2, k3⟩ := hm.2 O (List.mem_cons_of_mem _ k)
   refine⟨q,y,?_,k2,k3⟩;rw[g q (fun e=>(pL.1 hm.1).1 (by rw[<-e,<-y]; exact k))];exact k1
  ·by_cases e : b = D
   ·subst e
    exact⟨M,N⟩
   ·refine V b ?_
    rw[g b e];exact hb
theorem LZ{P:aj}{f:bO}{fn:Func}{c:Code}{args:Array al}{w:ba}{R:Ending->ba->Prop}(k:P.funcs[f]? = some fn)(hb:fn.body=some c)
  (h : c.wpIn (fz none) 0 P (fun e g d => (e = .normal \/ e = .ret) /\ ∃ X, oO d X g.defers /\ ∀ w', w'.heap.size = d.heap.size -> (∀ b, w'.heap[b]? ≠ d.heap[b]? -> X b /\ X.z b) -> ft d w' -> ∃ v, (results fn g.tmps).run P w' = .ok v w' /\ R (.returned v) w')
   { tmps:=args++uH (fn.ntmps-args.size) undef,defers:=[] } w):Calls P f args w R:=by
 refine(callsIn_wide (n:=0)).1 (callsIn_of_wp_marks (F:=fz none) k hb trivial (wpIn_mono h fun e g d q=>?_));obtain⟨he,X,h1,y⟩:=q;have:=LY (P:=P) (fn:=fn) (tmps:=g.tmps) (R:=R) g.defers d X h1 y;rcases he with rfl|rfl
 ·exact this
 ·exact this
theorem L1{m:Nat}{E:af}{s':St}{k:List (Option (Nat × Nat))}{h:XS}{v:Act}{g w':ba}(HE:aI E)(N:dS s' { w:=g,H:=s'.H,ae:=k,X:=h } v)
  (d:({ E with X:=⟨E.X.x,fun _=>False,E.X.r⟩ }:af).gB m { w:=g,H:=s'.H,ae:=k,X:=h }) (h1:w'.heap.size=g.heap.size) (y:∀ b,w'.heap[b]? ≠ g.heap[b]? -> h b/\h.z b) (O:ft g w') :
  dS s' { w:=w',H:=s'.H,ae:=k,X:=E.X.re h.r } { v with defers:=[] }/\E.gB m { w:=w',H:=s'.H,ae:=k,X:=E.X.re h.r }:=by
 have M:∀ b,b<E.w.heap.size->w'.heap[b]? = g.heap[b]? := fun b hb=>akm fun q=>((d.X b hb).2.1 (y b q).2).elim;have U:E.w.heap.size<=g.heap.size:=d.size;have jl:mV { w:=g,H:=s'.H,ae:=k,X:=h } { w:=w',H:=s'.H,ae:=k,X:=E.X.re h.r } :=
  ⟨rfl, rfl, by show g.heap.size <= w'.heap.size; omega, fun b hb I => ⟨fun he => I ((d.X b (HE.X b he)).1.2 he), akm fun q => I (y b q).1⟩, fun b hb => by
   have:=HE.X b hb;show b<w'.heap.size
   omega,rfl⟩
 refine⟨N.jl jl (FD _ _),⟨d.bu,by show E.w.heap.size<=w'.heap.size; omega,fun b hb ho=>?_,d.ab,d.live,fun b _=>⟨Iff.rfl,Iff.rfl⟩,d.rl,d.env.trans O,d.grow⟩⟩;show w'.heap[b]? = E.w.heap[b]?
 rw[M b hb];exact d.same b hb ho
theorem L2{E:af}(HE:aI E):mV E { E with X:=⟨E.X.x,fun _=>False,E.X.r⟩ }:=⟨rfl,rfl,aQ _,fun b _ d=>⟨d,rfl⟩,HE.X,rfl⟩
theorem Wa{P:aj}{f:bO}{args:List AV}{v:AV}{H1:List ai}(h:fN P f args [] v H1)(ha:AV.bK args=true)(hv:v.closed=true):dM P f args v:=by
 intro H E O hH HE U
 let E0:af:={ w:=E.w,H:=[],ae:=[],X:=(E.X.or E.ab).re fe }
 have I:∀ b,¬ E0.ab b:=by rintro b (⟨id,c,W⟩|⟨l,k,c,d⟩); simp[E0]at W; simp[E0,fe]at d
 have hC:E.bT E0:=⟨fun b hb=>⟨⟨hb.1,I b,fun g=>g.elim hb.2.2 hb.2.1⟩,rfl⟩⟩
 have HE0:aI E0:=by
  refine⟨rfl,?_,?_,?_,?_,HE.gL.bT hC,fun l k l' k' b m n d=>by simp[E0,fe]at d,fun i b m l k n hi=>by simp[E0]at hi,fun l k b m d=>by simp[E0,fe]at d,fun i j o o' l hi=>by simp[E0]at hi,fun l _ k q d=>by simp[E0,fe]at d⟩
  ·intro i j b m n hi; simp[E0]at hi
  ·intro i b m hi; simp[E0]at hi
  ·rintro b (g | ho)
   ·exact HE.X b g
   ·exact(HE.BB ho).1
  ·intro i o hi; simp[E0]at hi
 refine(h E0 O rfl HE0 (qJ hC args ha U)).mono ?_;rintro _ w' ⟨c,N,H',rfl,⟨rfl,rfl⟩,V,r',g1,g2,y⟩;have M:Ext E.w w':=⟨y.size,fun b hb=>y.same b hb (I b),y.env⟩
 refine⟨c,N,H,rfl,⟨rfl,rfl⟩,E.ae,E.X.r,?_,?_,?_⟩
 ·rw [<- hH]
  exact fB (E:={ w:=w',H:=H',ae:=V,X:=E0.X.re r' }) (E':={ w:=w',H:=E.H,ae:=E.ae,X:=E.X })
   ⟨fun b hb=>⟨⟨hb.1,fun ho=>hb.2.2 (Or.inr ho),fun g=>hb.2.2 (Or.inl g)⟩,rfl⟩⟩ N hv g1
 ·rw[<-hH]; exact HE.ext M
 ·rw[<-hH]; exact af.lr M
end Go.AL

namespace Go.AL
open Go
variable [Dr]
variable {P:aj} {pf:bO->Bool} {ah:Array aR}
def n_(r:ct->AV):Op->Option Nat
 | .load _ a=>match r a with
  |.ptr id _ _ _ _=>some id
  |.sptr id _ _ _ _ _=>some id
  |_=>none
 | .lookup _ m _ _=>match r m with
  |.map id=>some id
  |.sub id _ _=>some id
  |_=>none
 | .call c=>match c.args.toList with
  | [a]=>match r a with
   |.map id=>some id
   |_=>none
  |_=>none
 |_=>none
theorem L3{r:ct->AV}{H d:List ai}:∀{op:Op},(∀ id,n_ r op=some id->d[id]? = H[id]?)->gz P r d op=gz P r H op:=by
 intro op h;cases op<;>simp only[gz]
 case load t a =>
  simp only[n_]at h;unfold mP;cases ha:r a with
  | ptr id ak w row g =>
   rw[ha]at h;have:=h id rfl;simp only[this]
  | sptr id l j w row g =>
   rw[ha]at h;have:=h id rfl;simp only[this]
  |_=>rfl
 case lookup t m k ok =>
  simp only[n_]at h;have q:mh P t (r m) (r k) ok d=mh P t (r m) (r k) ok H:=Vu (fun id e=>by rw[e]at h; exact h id rfl) (fun id l j e=>by rw[e]at h; exact h id rfl);rw[q];have h1:hZ P t (r m) (r k) ok d=hZ P t (r m) (r k) ok H:=by
   unfold hZ;cases dL P t with
   |none=>rfl
   | some p =>
    obtain⟨v,y⟩:=p;cases hm:r m with
    | map id =>
     rw[hm]at h;have:=h id rfl;simp only[this]
    |_=>rfl
  rw[h1]
 case call c =>
  simp only[n_]at h;unfold qU;split
  ·rename_i a t I ha M
   rw[ha]at h;simp only[]at h;cases dL P t with
   |none=>rfl
   | some p =>
    cases hm:r a with
    | map id =>
     rw[hm]at h;have:=h id rfl;simp only[this]
    |_=>rfl
  ·rfl
theorem L4{r d:ct->AV}(o:Op)(h:∀ x∈o.operands,r x=d x):n_ r o=n_ d o:=by
 cases o<;>simp only[n_]
 case load t a =>
  simp only[fc]at h;rw[h a (by simp)]
 case lookup t m k ok =>
  simp only[fc]at h;rw[h m (by simp)]
 case call c =>
  split
  ·rename_i a ha
   have:a∈(Op.call c).operands:=by
    show a∈c.operands
    have h1:a∈c.args:=by
     have:a∈c.args.toList:=by rw[ha]; simp
     simpa using this
    simp[uE,h1]
   rw[h a this]
  ·rfl
abbrev jQ:=List (Nat × List Nat × Nat)
abbrev kS:=List (Nat × Nat)
def kept(W:jQ)(j A:Nat):Prop:=∀ e∈W,e.1=j->A∉e.2.1/\A<e.2.2
def GB(ah:Array aR):Bool :=
 (fj ah.size).any fun j => (fj j).any fun i => match ah[i]?, ah[j]? with
  |some x,some y=>fD x.op&&fD y.op && !waits ah ah.size j i
  |_,_=>false
def tn:Op->Bool
 | .call c=>match c.callee with
  |.value (.func _)=>true
  |_=>false
 |_=>false
def isVar:Op->Bool
 |.alloc _=>true
 |_=>false
theorem vp{op:Op}(h:isVar op=true):fD op=true:=by
 unfold isVar at h;split at h
 ·rfl
 ·cases h
def B9(ah:Array aR):Bool :=
 (fj ah.size).any fun j => (fj j).any fun i => match ah[i]?, ah[j]? with
  |some x,some y=>tn x.op&&isVar y.op && !waits ah ah.size j i
  |_,_=>false
def kT:Op->Bool
 |.mapEntry ..=>true
 |.entryStore ..=>true
 |_=>false
def GC(ah:Array aR):Bool :=
 (fj ah.size).any fun j => (fj j).any fun i => match ah[i]?, ah[j]? with
  |some x,some y=>fD x.op&&kT y.op && !waits ah ah.size j i
  |_,_=>false
def mW(ah:Array aR):Bool:=(GB ah||B9 ah)||GC ah
theorem L5{pf:bO->Bool}{op:Op}(h:kT op=true):dz pf op=.write:=by
 unfold kT at h;split at h
 ·rfl
 ·rfl
 ·cases h
theorem Wb{op:Op}(h:kT op=true):fD op=false:=by
 unfold kT at h;split at h
 ·rfl
 ·rfl
 ·cases h
theorem p7{pf:bO->Bool}{op:Op}(h:fD op=true):dz pf op=.write:=by
 unfold fD at h;split at h
 ·rfl
 ·rfl
 ·cases h
theorem B_{pf:bO->Bool}{op:Op}{X:Prop}(h:dz pf op≠.write):fD op=true->X:=fun ha=>(h (p7 ha)).elim
def oa:Op->Bool
 |.buildSlice ..=>true
 | .call c=>match c.callee with
  |.builtin .append=>true
  |_=>false
 |_=>false
def mX(ah:Array aR)(op:Op):Bool:=(tn op&&B9 ah)||(oa op&&mW ah)
theorem oY{ah:Array aR}{op:Op}(h:fD op=true):mX ah op=false:=by
 unfold fD at h;split at h
 ·rfl
 ·rfl
 ·cases h
theorem Wc{ah:Array aR}{op:Op}(h:kT op=true):mX ah op=false:=by
 unfold kT at h;split at h
 ·rfl
 ·rfl
 ·cases h
theorem Wd{ah:Array aR}{op:Op}(h:mX ah op=true):mW ah=true:=by
 unfold mX at h;rw[uF,aL,aL]at h;rcases h with h|h
 ·unfold mW
  rw[h.2];simp
 ·exact h.2
def mY(d:List (Nat × ai))(H:List ai):List ai:=d.foldl (fun H p=>H.set p.1 p.2) H
def Ca(W:jQ)(j:Nat)(H:List ai)(d:List (Nat × ai)):Prop:=∀ p∈d,kept W j p.1/\∃ k r,H[p.1]? = some (.vQ k 0 [])/\p.2=.vQ k 1 r
def Step(P:aj)(pf:bO->Bool)(ah:Array aR)(R:kS)(W:jQ)(j:Nat)(o:aR)(s:St)(v:AV)(H':List ai):Prop :=
 (dz pf o.op = .write -> ∀ A, kept W j A -> H'[A]? = s.H[A]?) /\ (dz pf o.op = .read -> cH ah s.fr o = some true -> ∀ id, n_ s.eval o.op = some id -> (j, id) ∈ R) /\
  (fD o.op=true->mW ah=true->cH ah s.fr o=some true->H'.length=s.H.length/\∀ id,H'[id]? ≠ s.H[id]? -> ∃ e∈W,e.1=j/\id∈e.2.1) /\
  (mX ah o.op=true->dz pf o.op=.write->cH ah s.fr o=some true->∀ d,Ca W j s.H d->Yields P pf ah o ⟨s.fr,mY d s.H⟩ v (mY d H'))
def L6(R:kS)(W:jQ)(i j:Nat):Prop:=∀ id,(i,id)∈R->kept W j id
def Cb(pf:bO->Bool)(ah:Array aR)(R:kS)(W:jQ)(i:Nat)(x:aR)(j:Nat)(y:aR):Prop :=
 pZ pf x y=true\/(dz pf x.op=.read/\dz pf y.op=.write/\L6 R W i j)\/(dz pf x.op=.write/\dz pf y.op=.read/\L6 R W j i)\/(fD x.op=true/\fD y.op=true/\mW ah=true) \/
  (dz pf x.op=.write/\mX ah x.op=true/\isVar y.op=true/\∀ e∈W,e.1=j->∀ id∈e.2.1,kept W i id) \/
  (fD x.op=true/\kT y.op=true/\mW ah=true/\∀ e∈W,e.1=i->∀ id∈e.2.1,kept W j id)
theorem L7{o:aR}{s:St}{v:AV}{H':List ai}(ho:isVar o.op=true)(h:Yields P pf ah o s v H')(g:cH ah s.fr o=some true->H'.length=s.H.length) :
  (cH ah s.fr o = some false /\ v = .tuple [] /\ H' = s.H) \/
   (cH ah s.fr o=some true/\∃ t id z k m,o.op=.alloc t/\fC P t=some z/\s.H[id]? = some (.vQ k 0 [])/\k=z.length/\v=.ptr id 1 k 0 0/\H'=s.H.set id (.vQ k 1 [fm m z])):=by
 unfold Yields at h;cases q:cH ah s.fr o with
 |none=>rw[q]at h; exact h.elim
 | some b =>
  rw[q]at h;cases b with
  |false=>exact .inl ⟨rfl,h.1,h.2⟩
  | true =>
   right;refine⟨rfl,?_⟩;simp only[p7 (vp ho)]at h;have g:=g q;rcases h with(h|⟨f,args,h1,_⟩)|(⟨t,id,m,d,I⟩|⟨t,id,d,I⟩)|y
   ·unfold isVar at ho
    split at ho
    ·rename_i t d
     rw[d]at h;simp only[dy,sZ]at h;split at h
     ·split at h
      ·cases h
       simp at g
      ·cases h
     ·split at h
      ·cases h
       simp at g
      ·cases h
    ·cases ho
   ·unfold isVar at ho
    split at ho
    ·rename_i t d
     rw[d]at h1;cases h1
    ·cases ho
   ·obtain ⟨z, k, h1, M, N, O, U⟩ := LH I
    exact⟨t,id,z,k,m,d,h1,M,N,O,U⟩
   ·rw [d] at ho
    cases ho
   ·unfold isVar at ho
    split at ho
    ·rename_i t d
     rw[d]at y;exact y.elim
    ·cases ho
def ly(P:aj)(op:Op)(id:Nat)(y:ai)(v:AV)(x:ai):Prop :=
 (∃ t z k m,op=.alloc t/\fC P t=some z/\k=z.length/\y=.vQ k 0 []/\v=.ptr id 1 k 0 0/\x=.vQ k 1 [fm m z])\/∃ t,op=.makeMap t none/\y=.fA/\v=.map id/\x=.map [] 0
theorem ly.ne{op g:Op}{id k:Nat}{y d x q:ai}{v I:AV}(h:ly P op id y v x)(h':ly P g k d I q):x≠d:=by
 rcases h with⟨_,_,_,_,_,_,_,_,_,rfl⟩|⟨_,_,_,_,rfl⟩<;>rcases h' with⟨_,_,_,_,_,_,_,rfl,_,_⟩|⟨_,_,rfl,_,_⟩<;>intro e<;>cases e
theorem GD{o:aR}{s:St}{v:AV}{H':List ai}(ho:fD o.op=true)(h:Yields P pf ah o s v H')(q:cH ah s.fr o=some true->H'.length=s.H.length) :
  (cH ah s.fr o = some false /\ v = .tuple [] /\ H' = s.H) \/
   (cH ah s.fr o=some true/\∃ id y x,ly P o.op id y v x/\s.H[id]? = some y/\H'=s.H.set id x):=by
 cases g:isVar o.op with
 | true =>
  rcases L7 g h q with h|⟨h1,t,id,z,k,m,M,N,V,W,h6,h7⟩
  ·exact .inl h
  ·exact .inr ⟨h1,id,_,_,.inl ⟨t,z,k,m,M,N,W,rfl,h6,rfl⟩,V,h7⟩
 | false =>
  have hm:∃ t,o.op=.makeMap t none:=by
   unfold fD at ho;split at ho
   ·rename_i t d
    rw[d]at g;cases g
   ·rename_i t d
    exact⟨t,d⟩
   ·cases ho
  obtain⟨t,d⟩:=hm;unfold Yields at h;cases O:cH ah s.fr o with
  |none=>rw[O]at h; exact h.elim
  | some b =>
   rw[O]at h;cases b with
   |false=>exact .inl ⟨rfl,h.1,h.2⟩
   | true =>
    right;refine⟨rfl,?_⟩;simp only[p7 ho]at h;have q:=q O;rcases h with(h|⟨f,args,h1,_⟩)|(⟨t',id,m,I,g⟩|⟨t',id,I,g⟩)|U
    ·rw [d] at h
     simp only[dy]at h;cases h;simp at q
    ·rw [d] at h1
     cases h1
    ·rw [d] at I
     cases I
    ·obtain ⟨h1, M, N⟩ := F_ g
     exact⟨id,_,_,.inr ⟨t,d,rfl,M,rfl⟩,h1,N⟩
    ·rw [d] at U
     exact U.elim
theorem L8{o:aR}{s:St}{t:aD}{id k:Nat}{z:List al}(g:cH ah s.fr o=some true)(ho:o.op=.alloc t)(h:fC P t=some z)(d:s.H[id]? = some (.vQ k 0 []))(q:k=z.length) (m:List (Option (List Kd))) :
  Yields P pf ah o s (.ptr id 1 k 0 0) (s.H.set id (.vQ k 1 [fm m z])):=by
 unfold Yields;rw[g,ho];exact .inr (.inl (.inl ⟨t,id,m,rfl,LI m h d q⟩))
theorem GF{o:aR}{s:St}{id:Nat}{v:AV}{x y:ai}(g:cH ah s.fr o=some true)(h:ly P o.op id y v x)(d:s.H[id]? = some y):Yields P pf ah o s v (s.H.set id x):=by
 rcases h with⟨t,z,k,m,h1,q,I,rfl,rfl,rfl⟩|⟨t,h1,rfl,rfl,rfl⟩
 ·exact L8 g h1 q d I m
 ·unfold Yields
  rw[g,h1];exact .inr (.inl (.inr ⟨t,id,rfl,K5 d⟩))
def ob:ai->Bool
 |.a7 ..=>false
 |.mm ..=>false
 |.cM ..=>false
 |.bH ..=>false
 |_=>true
theorem ly.no{op:Op}{id:Nat}{y x:ai}{v:AV}(h:ly P op id y v x):ob x=true/\ob y=true/\x≠.dead:=by
 rcases h with⟨_,_,_,_,_,_,_,rfl,_,rfl⟩|⟨_,_,rfl,_,rfl⟩
 ·exact⟨rfl,rfl,fun e=>by cases e⟩
 ·exact⟨rfl,rfl,fun e=>by cases e⟩
theorem We{t:aD}{id:Nat}{k:AV}{H:List ai}{x:ai}(h:H[id]? = some x)(d:ob x=true):ki P t (.map id) k H=none/\lx P t (.map id) k H=none:=by
 unfold ki lx;cases dL P t with
 |none=>exact⟨rfl,rfl⟩
 | some p =>
  simp only[h];cases x<;>first|exact⟨rfl,rfl⟩|cases d
theorem Wf{t:aD}{id a:Nat}{k:AV}{H:List ai}{x:ai}(d:id≠a)(ha:a<H.length):ki P t (.map id) k (H.set a x)=(ki P t (.map id) k H).map fun p=>(p.1,p.2.set a x):=by
 unfold ki;cases dL P t with
 |none=>rfl
 | some p =>
  simp only[bf (Ne.symm d),List.length_set];split
  ·split
   ·split
    ·split
     ·split
      ·simp only [e_]
       rw[Bk _ _ (by simpa using ha),nM _ _ d]
      ·rfl
     ·simp only [e_]
      rw[Bk _ _ (by simpa using ha),nM _ _ d]
     ·rfl
    ·rfl
   ·rfl
  ·rfl
theorem Wg{t:aD}{id a:Nat}{k:AV}{H:List ai}{x:ai}(d:id≠a):lx P t (.map id) k (H.set a x)=(lx P t (.map id) k H).map fun p=>(p.1,p.2.set a x):=by
 unfold lx;cases dL P t with
 |none=>rfl
 | some p =>
  simp only[bf (Ne.symm d)];split
  ·split
   ·split
    ·simp only [e_]
     rw[nM _ _ d]
    ·rfl
   ·rfl
  ·rfl
theorem Wh{t:aD}{id a:Nat}{k v:AV}{H H':List ai}(d:id≠a)(ha:a<H.length)(h:ki P t (.map id) k H=some (v,H')):H'[a]? = H[a]? := by
 unfold ki at h;split at h
 case h_2=>cases h
 rename_i he;cases he;split at h
 case h_2=>cases h
 split at h
 case h_2=>cases h
 split at h
 case h_2=>cases h
 split at h
 ·split at h
  ·cases h
   rw[di (by simpa using ha),bf d]
  ·cases h
 ·cases h
  rw[di (by simpa using ha),bf d]
 ·cases h
theorem Wi{t:aD}{id a:Nat}{k v:AV}{H H':List ai}(d:id≠a)(h:lx P t (.map id) k H=some (v,H')):H'[a]? = H[a]? := by
 unfold lx at h;split at h
 case h_2=>cases h
 rename_i he;cases he;split at h
 case h_2=>cases h
 split at h
 case h_2=>cases h
 split at h
 ·cases h
  rw[bf d]
 ·cases h
theorem Wj{m s v:AV}{a:Nat}{x y:ai}{H k:List ai}(M:H[a]? = some y)(N:ob x=true/\ob y=true/\x≠.dead)(h:mS m s v (H.set a x)=some k)(O:k[a]? = some x) :
  ∃ H1,mS m s v H=some H1/\k=H1.set a x/\H1[a]? = some y:=by
 have I:=aV M;unfold mS at h|-;split at h
 case h_2=>cases h
 rename_i id st w j ak oF n;have d:id≠a:=fun e=>by
  subst e;rw[bB I]at h;obtain⟨h1,_⟩:=N;cases x<;>first|cases h|cases h1
 rw[bf (Ne.symm d)]at h;split at h
 case h_2=>cases h
 rename_i l w' es cl w2 ver' rZ W U;split at h
 case isFalse=>cases h
 rename_i hc;split at h
 case h_2=>cases h
 rename_i i hi;split at h
 case h_2=>cases h
 rename_i key q bn hb;split at h
 case h_2=>cases h
 rename_i V;cases h;have g:j≠a:=fun e=>by
  subst e;rw[bB (by simpa using I)]at O;exact N.2.2 (jd O).symm
 rw[bf (Ne.symm g)]at U;rw[W,U];simp only[iP hc,hi,hb,V];refine⟨_,rfl,?_,?_⟩
 ·rw[nM _ _ (Ne.symm d),nM _ _ (Ne.symm g)]
 ·rw[bf g,bf d,M]
theorem Wk{m s v:AV}{a:Nat}{x y:ai}{H k:List ai}(I:H[a]? = some y)(M:ob x=true/\ob y=true/\x≠.dead)(h:nZ m s v (H.set a x)=some k)(N:k[a]? = some x) :
  ∃ H1,nZ m s v H=some H1/\k=H1.set a x/\H1[a]? = some y:=by
 have q:=aV I;unfold nZ at h|-;split at h
 case h_2=>cases h
 rename_i id st j;have d:id≠a:=fun e=>by
  subst e;rw[bB q]at h;obtain⟨h1,_⟩:=M;cases x<;>first|cases h|cases h1
 rw[bf (Ne.symm d)]at h;split at h
 case h_2=>cases h
 rename_i l es ms cl V W U O;split at h
 case h_2=>cases h
 rename_i i hi;split at h
 case h_2=>cases h
 rename_i key bn hb;cases h;have g:j≠a:=fun e=>by
  subst e;rw[bB (by simpa using q)]at N;exact M.2.2 (jd N).symm
 rw[bf (Ne.symm g)]at O;rw[U,O];simp only[hi,hb];refine⟨_,rfl,?_,?_⟩
 ·rw[nM _ _ (Ne.symm d),nM _ _ (Ne.symm g)]
 ·rw[bf g,bf d,I]
theorem Wl{m s v:AV}{a:Nat}{x y:ai}{H:List ai}(g:H[a]? = some y)(h:ob x=true/\ob y=true/\x≠.dead){d:List ai}(hm:nZ m s v H=some d):mS m s v H=none:=by
 unfold nZ at hm;split at hm
 case h_2=>cases hm
 rfl
theorem Wm{op:Op}(O:kT op=true){r:ct->AV}{H U:List ai}{a:Nat}{x y:ai}{u:AV}(d:H[a]? = some y)(q:ob x=true/\ob y=true/\x≠.dead)(h:dy P r (H.set a x) op=some (u,U))(hk:U[a]? = some x) :
  ∃ H1,dy P r H op=some (u,H1)/\U=H1.set a x/\H1[a]? = some y:=by
 have M:=aV d;unfold kT at O;split at O
 ·rename_i t m k
  simp only[dy]at h|-;cases hm:r m with
  | map id =>
   rw[hm]at h;by_cases g:id=a
   ·subst g
    obtain⟨n1,n2⟩:=We (P:=P) (t:=t) (k:=r k) (bB (a:=x) M) q.1;rw[n1,n2]at h;cases h
   ·rw [Wf g M, Wg g] at h
    cases he:ki P t (.map id) (r k) H with
    | some p =>
     rw[he]at h;simp only[e_]at h;obtain⟨p1,V⟩:=p;cases h;exact⟨V,rfl,rfl,by rw[Wh g M he,d]⟩
    | none =>
     rw[he]at h;simp only[Option.map_none]at h;cases N:lx P t (.map id) (r k) H with
     | some p =>
      rw[N]at h;simp only[e_]at h;obtain⟨p1,V⟩:=p;cases h;exact⟨V,rfl,rfl,by rw[Wi g N,d]⟩
     | none =>
      rw[N]at h;cases h
  | _ =>
   rw[hm]at h;unfold ki lx at h;cases hT:dL P t with
   |none=>rw[hT]at h; cases h
   |some p=>rw[hT]at h; cases h
 ·rename_i t m s v
  simp only[dy]at h|-;cases he:mS (r m) (r s) (r v) (H.set a x)with
  | some H2 =>
   rw[he]at h;cases h;obtain⟨H1,I,W,g3⟩:=Wj d q he hk;rw[I];exact⟨H1,rfl,W,g3⟩
  | none =>
   rw[he]at h;cases hm:nZ (r m) (r s) (r v) (H.set a x)with
   |none=>rw[hm]at h; cases h
   | some H2 =>
    rw[hm]at h;cases h;obtain⟨H1,I,W,g3⟩:=Wk d q hm hk;rw[Wl d q I,I];exact⟨H1,rfl,W,g3⟩
 ·cases O
theorem Wn{o:aR}{s:St}{u:AV}{q:List ai}(g:kT o.op=true)(h:Yields P pf ah o s u q)(v:cH ah s.fr o=some true):dy P s.eval s.H o.op=some (u,q):=by
 unfold Yields at h;simp only[v,L5 g]at h;rcases h with(h|⟨f,args,h1,_⟩)|(⟨t,id,m,d,_⟩|⟨t,id,d,_⟩)|k
 ·exact h
 ·unfold kT at g
  split at g
  ·rename_i d
   rw[d]at h1;cases h1
  ·rename_i d
   rw[d]at h1;cases h1
  ·cases g
 ·rw [d] at g
  cases g
 ·rw [d] at g
  cases g
 ·unfold kT at g
  split at g
  ·rename_i d
   rw[d]at k;exact k.elim
  ·rename_i d
   rw[d]at k;exact k.elim
  ·cases g
theorem Wo{R:kS}{W:jQ}{i j:Nat}{M q:aR}{s:St}{v u:AV}{V g:List ai}(h1:M.apart ah q=true)(h2:q.apart ah M=true)(hc:Cb pf ah R W i M j q)
  (hi:Yields P pf ah M s v V) (si:Step P pf ah R W i M s v V) (hj:Yields P pf ah q (s.put M.dst v V) u g) (sj:Step P pf ah R W j q (s.put M.dst v V) u g) :
  ∃ Hj1,Yields P pf ah q s u Hj1/\Step P pf ah R W j q s u Hj1/\Yields P pf ah M (s.put q.dst u Hj1) v g/\Step P pf ah R W i M (s.put q.dst u Hj1) v g:=by
 obtain⟨a1,a2,a3⟩:=J0 h1;have wj:cH ah (s.put M.dst v V).fr q=cH ah s.fr q:=B6 a1;have wi:∀ H2,cH ah (s.put q.dst u H2).fr M=cH ah s.fr M:=fun H2=>B6 a3;have ej:∀ x∈q.op.operands,(s.put M.dst v V).eval x=s.eval x:=fun x hx=>eval_put a1 hx;have ei:∀ H2,∀ x∈M.op.operands,(s.put q.dst u H2).eval x=s.eval x:=fun H2 x hx=>eval_put a3 hx;have cj:=L4 q.op ej;have ci:=fun H2=>L4 M.op (ei H2);have evj:=LC (P:=P) (H:=V) q.op ej;have readJ:dz pf q.op=.read->Step P pf ah R W j q s u s.H:=fun y=>⟨fun d=>(by rw[y]at d; cases d),fun _ d id hid=>sj.2.1 y (by rw[wj]; exact d) id (by rw[cj]; exact hid),B_ (by rw[y]; simp),fun _ d=>(by rw[y]at d; cases d)⟩
 have readI:dz pf M.op=.read->∀ H2 H3,Step P pf ah R W i M (s.put q.dst u H2) v H3:=fun y H2 H3=>⟨fun d=>(by rw[y]at d; cases d),fun _ d id hid=>si.2.1 y (by rw[wi]at d; exact d) id (by rw[ci]at hid; exact hid),B_ (by rw[y]; simp),fun _ d=>(by rw[y]at d; cases d)⟩
 have frj:∀{H2 H3:List ai} {v':AV},Yields P pf ah q ⟨(s.put M.dst v V).fr,H2⟩ v' H3->Yields P pf ah q ⟨s.fr,H2⟩ v' H3:=fun {H2 _ _} h=>(ia (s1:=⟨(s.put M.dst v V).fr,H2⟩) (s:=⟨s.fr,H2⟩) wj (fun x hx=>by
  have:=ej x hx;cases x<;>exact this) rfl).1 h
 have fri:∀{H1 H2 H3:List ai} {v':AV},Yields P pf ah M ⟨s.fr,H2⟩ v' H3->Yields P pf ah M ⟨(s.put q.dst u H1).fr,H2⟩ v' H3:=fun {H1 H2 _ _} h=>(ia (s1:=⟨(s.put q.dst u H1).fr,H2⟩) (s:=⟨s.fr,H2⟩) (wi H1) (fun x hx=>by
  have:=ei H1 x hx;cases x<;>exact this) rfl).2 h
 have toJ:V=s.H->Step P pf ah R W j q s u g:=by
  intro e;subst e;exact⟨fun d A hA=>sj.1 d A hA,fun y d id hid=>sj.2.1 y (by rw[wj]; exact d) id (by rw[cj]; exact hid),fun ha ht d=>sj.2.2.1 ha ht (by rw[wj]; exact d),
   fun U d hwa σ hσ=>frj (sj.2.2.2 U d (by rw[wj]; exact hwa) σ hσ)⟩
 have toI:g=V->Step P pf ah R W i M (s.put q.dst u s.H) v g:=by
  intro e;subst e;exact⟨fun d A hA=>si.1 d A hA,fun y d id hid=>si.2.1 y (by rw[wi]at d; exact d) id (by rw[ci]at hid; exact hid),fun ha ht d=>si.2.2.1 ha ht (by rw[wi]at d; exact d),
   fun U d hwa σ hσ=>fri (si.2.2.2 U d (by rw[wi]at hwa; exact hwa) σ hσ)⟩
 have old:pZ pf M q=true->∃ Hj1,Yields P pf ah q s u Hj1/\Yields P pf ah M (s.put q.dst u Hj1) v g:=fun hc=>LJ h1 h2 hc hi hj;cases N:dz pf M.op with
 | pure =>
  obtain⟨e1,g1⟩:=yC N hi;subst e1;refine⟨g,(ia wj ej rfl).1 hj,toJ rfl,
   (ia (s1:=s.put q.dst u g) (s:=⟨s.fr,g⟩) (wi g) (fun x hx=>by rw[ei g x hx]; cases x<;>rfl) rfl).2 (g1 g),⟨fun d=>(by rw[N]at d; cases d),fun y=>(by rw[N]at y; cases y),B_ (by rw[N]; simp),fun _ d=>(by rw[N]at d; cases d)⟩⟩
 | read =>
  have e1:=tg N hi;subst e1;have hj':=(ia wj ej rfl).1 hj;refine⟨g,hj',toJ rfl,?_,readI N _ _⟩;have key:∀ H2:List ai,St.eval ⟨s.fr,H2⟩=s.eval:=fun H2=>by funext x; cases x<;>rfl
  have same:cH ah s.fr M=some true->gz P s.eval g M.op=gz P s.eval s.H M.op:=by
   intro d;cases O:dz pf q.op with
   | pure =>
    have:=(yC O hj').1;rw[this]
   | read =>
    have:=tg O hj';rw[this]
   | write =>
    rcases hc with hc|⟨_,_,hap⟩|⟨hw',_,_⟩|⟨hw',_,_⟩|⟨hw',_⟩|⟨hw',_⟩
    ·obtain ⟨Hj1, q1, q2⟩ := old hc
     have q3:=(ia (s1:=s.put q.dst u Hj1) (s:=⟨s.fr,Hj1⟩) (wi Hj1) (fun x hx=>by rw[ei Hj1 x hx]; cases x<;>rfl) rfl).1 q2;have e2:g=Hj1:=tg N q3;subst e2;unfold Yields at q3 hi;simp only[N,d]at q3 hi;rw[key]at q3;rw[q3.2,hi.2]
    ·exact L3 fun id hid=>sj.1 O id (hap id (si.2.1 N d id hid))
    ·rw [N] at hw'
     cases hw'
    ·rw [p7 hw'] at N
     cases N
    ·rw [N] at hw'
     cases hw'
    ·rw [p7 hw'] at N
     cases N
  refine(ia (s1:=s.put q.dst u g) (s:=⟨s.fr,g⟩) (wi g) (fun x hx=>by rw[ei g x hx]; cases x<;>rfl) rfl).2 ?_;unfold Yields at hi|-;simp only[N]at hi|-;cases d:cH ah s.fr M with
  |none=>rw[d]at hi; exact hi.elim
  | some b =>
   rw[d]at hi;cases b with
   |false=>exact⟨hi.1,by simp⟩
   | true =>
    refine⟨by simp,?_⟩;rw[key,same d];exact hi.2
 | write =>
  cases O:dz pf q.op with
  | pure =>
   obtain⟨e1,g1⟩:=yC O hj;have e1':g=V:=e1;subst e1';refine⟨s.H,?_,⟨fun d=>(by rw[O]at d; cases d),fun y=>(by rw[O]at y; cases y),B_ (by rw[O]; simp),fun _ d=>(by rw[O]at d; cases d)⟩,(ia (s1:=s.put q.dst u s.H) (s:=s) (wi s.H) (ei s.H) rfl).2 hi,toI rfl⟩;exact(ia (s1:=⟨(s.put M.dst v g).fr,s.H⟩) (s:=s) wj (fun x hx=>by
    have:=ej x hx;cases x<;>exact this) rfl).1 (g1 s.H)
  | read =>
   have e2:=tg O hj;have e2':g=V:=e2;subst e2';refine⟨s.H,?_,readJ O,(ia (s1:=s.put q.dst u s.H) (s:=s) (wi s.H) (ei s.H) rfl).2 hi,toI rfl⟩;have same:cH ah s.fr q=some true->gz P s.eval g q.op=gz P s.eval s.H q.op:=by
    intro d;rcases hc with hc|⟨hr',_,_⟩|⟨_,_,hap⟩|⟨_,hr',_⟩|⟨_,_,hr',_⟩|⟨_,hr',_⟩
    ·unfold pZ at hc
     rw[N,O]at hc;cases hc
    ·rw [N] at hr'
     cases hr'
    ·exact L3 fun id hid=>si.1 N id (hap id (sj.2.1 O (by rw[wj]; exact d) id (by rw[cj]; exact hid)))
    ·rw [p7 hr'] at O
     cases O
    ·rw [p7 (vp hr')] at O
     cases O
    ·rw [L5 hr'] at O
     cases O
   unfold Yields at hj|-;simp only[O]at hj|-;rw[wj]at hj;cases d:cH ah s.fr q with
   |none=>rw[d]at hj; exact hj.elim
   | some b =>
    rw[d]at hj;cases b with
    |false=>exact⟨hj.1,by simp⟩
    | true =>
     refine⟨by simp,?_⟩;rw[<-same d,<-evj];exact hj.2
  | write =>
   rcases hc with hc|⟨hr',_,_⟩|⟨_,hr',_⟩|⟨hai,haj,htw⟩|⟨_,hvi,haj,hap⟩|⟨hai,hqj,htw,hap⟩
   ·unfold pZ at hc
    rw[N,O]at hc;cases hc
   ·rw [N] at hr'
    cases hr'
   ·rw [O] at hr'
    cases hr'
   ·-- two allocations, each in its ab place
    have ck:∀{f:Option Bool},f=some true->f=some false->False:=fun h1 h2=>by rw[h1]at h2; cases h2
    rcases GD hai hi (fun d=>(si.2.2.1 hai htw d).1)with⟨wi',rfl,e1⟩|⟨wi',idi,yi,xi,ni,z2,e1⟩
    ·subst e1
     refine⟨g,(ia wj ej rfl).1 hj,toJ rfl,?_,⟨fun _ A _=>rfl,fun y=>(by rw[N]at y; cases y),fun _ _ _=>⟨rfl,fun _ h=>(h rfl).elim⟩,fun U=>(by rw[oY hai]at U; cases U)⟩⟩;unfold Yields;rw[wi,wi'];exact⟨rfl,rfl⟩
    ·rcases GD haj hj (fun d => (sj.2.2.1 haj htw d).1) with ⟨wj', rfl, e2⟩ | ⟨wj', I, yj, xj, nj, y2, e2⟩
     ·have e2' : g = V := e2
      subst e2';refine⟨s.H,?_,⟨fun _ A _=>rfl,fun y=>(by rw[O]at y; cases y),fun _ _ _=>⟨rfl,fun _ h=>(h rfl).elim⟩,fun U=>(by rw[oY haj]at U; cases U)⟩,(ia (s1:=s.put q.dst (.tuple []) s.H) (s:=s) (wi s.H) (ei s.H) rfl).2 hi,toI rfl⟩;unfold Yields;rw[wj]at wj';rw[wj'];exact⟨rfl,rfl⟩
     ·have e2' : g = V.set I xj := e2
      have y2':V[I]? = some yj:=y2;have hne:I≠idi:=by
       intro e;subst e;rw[e1,bB (aV z2)]at y2';exact ly.ne ni nj (jd y2')
      have y2s:s.H[I]? = some yj:=by rw[e1,bf (Ne.symm hne)]at y2'; exact y2'
      have wjs:cH ah s.fr q=some true:=by rw[<-wj]; exact wj'
      have hjj:∀ A,kept W j A->A≠I:=by
       intro A hA e;subst e;have h:=sj.1 O A hA;have h':g[A]? = V[A]? := h;rw[e2',bB (aV y2'),y2']at h';exact ly.ne nj nj (jd h')
      have hii:∀ A,kept W i A->A≠idi:=by
       intro A hA e;subst e;have h:=si.1 N A hA;rw[e1,bB (aV z2),z2]at h;exact ly.ne ni ni (jd h)
      have hcomm:g=(s.H.set I xj).set idi xi:=by rw[e2',e1,nM _ _ (Ne.symm hne)]
      refine⟨s.H.set I xj,GF wjs nj y2s,⟨fun _ A hA=>bf (Ne.symm (hjj A hA)),fun y=>(by rw[O]at y; cases y),fun _ _ _=>⟨by simp,fun id hne=>?_⟩,fun U=>(by rw[oY haj]at U; cases U)⟩,?_,
       ⟨fun _ A hA=>?_,fun y=>(by rw[N]at y; cases y),fun _ _ _=>⟨?_,fun id hne=>?_⟩,fun U=>(by rw[oY hai]at U; cases U)⟩⟩
      ·have e : id = I := Fi fun e => hne (bf (Ne.symm e))
       subst e;refine(sj.2.2.1 haj htw wj').2 id ?_;show g[id]? ≠ V[id]?
       rw[e2',bB (aV y2'),y2'];exact fun e=>ly.ne nj nj (jd e)
      ·rw [hcomm]
       refine GF (s:=s.put q.dst u (s.H.set I xj)) (by rw[wi]; exact wi') ni ?_;show (s.H.set I _)[idi]? = _
       rw[bf hne];exact z2
      ·show g[A]? = (s.H.set I _)[A]?
       rw[hcomm,bf (Ne.symm (hii A hA))]
      ·show g.length = (s.H.set I _).length
       rw[hcomm];simp
      ·have e:id=idi:=Fi fun e=>hne (by
        show g[id]? = (s.H.set I _)[id]?
        rw[hcomm,bf (Ne.symm e)])
       subst e;refine(si.2.2.1 hai htw wi').2 id ?_;rw[e1,bB (aV z2),z2];exact fun e=>ly.ne ni ni (jd e)
   ·-- a call, and an allocation in a place that it does not touch
    have hih:mW ah=true:=Wd hvi;rcases L7 haj hj (fun d=>(sj.2.2.1 (vp haj) hih d).1)with⟨wj',rfl,e2⟩|⟨wj',tj,I,zj,kj,mj,oj',y1,y2,y3,rfl,e2⟩
    ·have e2' : g = V := e2
     subst e2';refine⟨s.H,?_,⟨fun _ A _=>rfl,fun y=>(by rw[O]at y; cases y),fun _ _ _=>⟨rfl,fun _ h=>(h rfl).elim⟩,fun U=>(by rw[oY (vp haj)]at U; cases U)⟩,(ia (s1:=s.put q.dst (.tuple []) s.H) (s:=s) (wi s.H) (ei s.H) rfl).2 hi,toI rfl⟩;unfold Yields;rw[wj]at wj';rw[wj'];exact⟨rfl,rfl⟩
    ·have e2' : g = V.set I (.vQ kj 1 [fm mj zj]) := e2
     have y2':V[I]? = some (.vQ kj 0 []):=y2;obtain⟨e,he,hej,hid⟩:=(sj.2.2.1 (vp haj) hih wj').2 I (by
      show g[I]? ≠ V[I]?
      rw[e2',bB (aV y2'),y2'];simp)
     have hk:=hap e he hej I hid;have y2s:s.H[I]? = some (.vQ kj 0 []):=by rw[<-si.1 N I hk]; exact y2'
     have wjs:cH ah s.fr q=some true:=by rw[<-wj]; exact wj'
     have hjj:∀ A,kept W j A->A≠I:=by
      intro A hA e;subst e;have h:=sj.1 O A hA;have h':g[A]? = V[A]? := h;rw[e2',bB (aV y2'),y2']at h';simp at h'
     have hfill:Ca W i s.H [(I,.vQ kj 1 [fm mj zj])]:=by
      intro p hp;rw[List.mem_singleton.1 hp];exact⟨hk,kj,_,y2s,rfl⟩
     have hcall:Yields P pf ah M ⟨s.fr,s.H.set I (.vQ kj 1 [fm mj zj])⟩ v g/\(cH ah s.fr M=some true->∀ σ,Ca W i (s.H.set I (.vQ kj 1 [fm mj zj])) σ->Yields P pf ah M ⟨s.fr,mY σ (s.H.set I (.vQ kj 1 [fm mj zj]))⟩ v (mY σ g)):=by
      cases d:cH ah s.fr M with
      | none =>
       unfold Yields at hi;rw[d]at hi;exact hi.elim
      | some b =>
       cases b with
       | false =>
        refine⟨?_,fun h=>by cases h⟩;unfold Yields at hi|-;rw[d]at hi;rw[show cH ah (St.mk s.fr (s.H.set I (.vQ kj 1 [fm mj zj]))).fr M=some false from d];refine⟨hi.1,?_⟩;show g=s.H.set I _
        rw[e2',hi.2]
       | true =>
        have h4:=si.2.2.2 hvi N d;refine⟨?_,fun _ σ hσ=>?_⟩
        ·have := h4 _ hfill
         rw[e2'];exact this
        ·have:=h4 ((I,.vQ kj 1 [fm mj zj])::σ) (by
          intro p hp;rcases List.mem_cons.1 hp with rfl|hp
          ·exact hfill _ cW
          ·obtain ⟨a2, k, r, a3, a4⟩ := hσ p hp
           refine⟨a2,k,r,?_,a4⟩;have hne:p.1≠I:=fun e=>by
            rw[e,bB (aV y2s)]at a3;simp at a3
           rwa [bf (Ne.symm hne)]at a3)
         rw[e2'];exact this
     refine⟨s.H.set I (.vQ kj 1 [fm mj zj]),L8 wjs oj' y1 y2s y3 mj,⟨fun _ A hA=>bf (Ne.symm (hjj A hA)),fun y=>(by rw[O]at y; cases y),fun _ _ _=>⟨by simp,fun id hne=>?_⟩,fun U=>(by rw[oY (vp haj)]at U; cases U)⟩,fri (H1:=s.H.set I (.vQ kj 1 [fm mj zj])) hcall.1,
      ⟨fun _ A hA=>?_,fun y=>(by rw[N]at y; cases y),fun ha=>(by rw[oY ha]at hvi; cases hvi),fun _ _ hwa σ hσ=>fri (H1:=s.H.set I (.vQ kj 1 [fm mj zj])) (hcall.2 (by rw[wi]at hwa; exact hwa) σ hσ)⟩⟩
     ·have e : id = I := Fi fun e => hne (bf (Ne.symm e))
      subst e;exact⟨_,he,hej,hid⟩
     ·show g[A]? = (s.H.set I _)[A]?
      have h1:V[A]? = s.H[A]? := si.1 N A hA;by_cases e:A=I
      ·subst e
       rw[e2',bB (aV y2'),bB (aV y2s)]
      ·rw[e2',bf (Ne.symm e),bf (Ne.symm e),h1]
   ·-- an allocation in its place, and an operation that does not touch it
    rcases GD hai hi (fun d=>(si.2.2.1 hai htw d).1)with⟨wi',rfl,e1⟩|⟨wi',idi,yi,xi,ni,z2,e1⟩
    ·subst e1
     refine⟨g,(ia wj ej rfl).1 hj,toJ rfl,?_,⟨fun _ A _=>rfl,fun y=>(by rw[N]at y; cases y),fun _ _ _=>⟨rfl,fun _ h=>(h rfl).elim⟩,fun U=>(by rw[oY hai]at U; cases U)⟩⟩;unfold Yields;rw[wi,wi'];exact⟨rfl,rfl⟩
    ·have hii:∀ A,kept W i A->A≠idi:=by
      intro A hA e;subst e;have h:=si.1 N A hA;rw[e1,bB (aV z2),z2]at h;exact ly.ne ni ni (jd h)
     obtain⟨e,he,hei,hid⟩:=(si.2.2.1 hai htw wi').2 idi (by
      rw[e1,bB (aV z2),z2];exact fun e=>ly.ne ni ni (jd e))
     have hk:kept W j idi:=hap e he hei idi hid;have hHi:V[idi]? = some xi:=by rw[e1,bB (aV z2)]
     have hjk:g[idi]? = some xi:=by rw[sj.1 O idi hk]; exact hHi
     have hback:∃ H1,Yields P pf ah q s u H1/\g=H1.set idi xi/\H1[idi]? = some yi:=by
      cases d:cH ah s.fr q with
      | none =>
       unfold Yields at hj;rw[wj,d]at hj;exact hj.elim
      | some b =>
       cases b with
       | false =>
        unfold Yields at hj;rw[wj,d]at hj;refine⟨s.H,?_,?_,z2⟩
        ·unfold Yields
         rw[d];exact⟨hj.1,rfl⟩
        ·rw [hj.2]
         exact e1
       | true =>
        have h1:=Wn hqj hj (by rw[wj]; exact d);have h2:dy P s.eval (s.H.set idi xi) q.op=some (u,g):=by
         rw[<-e1];have:=LD (P:=P) (H:=V) q.op ej;rw[<-this];exact h1
        obtain⟨H1,g1,g2,g3⟩:=Wm hqj z2 ni.no h2 hjk;refine⟨H1,?_,g2,g3⟩;unfold Yields;simp only[d,O];exact .inl (.inl g1)
     obtain⟨H1,q1,q2,q3⟩:=hback;refine⟨H1,q1,⟨fun _ A hA=>?_,fun y=>(by rw[O]at y; cases y),fun ha=>(by rw[Wb hqj]at ha; cases ha),fun U=>(by rw[Wc hqj]at U; cases U)⟩,?_,⟨fun _ A hA=>?_,fun y=>(by rw[N]at y; cases y),fun _ _ _=>⟨?_,fun id hne=>?_⟩,fun U=>(by rw[oY hai]at U; cases U)⟩⟩
     ·by_cases hA2 : A = idi
      ·rw[hA2,q3,z2]
      ·have h3 : g[A]? = V[A]? := sj.1 O A hA
       rw[q2,bf (Ne.symm hA2),e1,bf (Ne.symm hA2)]at h3;exact h3
     ·rw [q2]
      exact GF (s:=s.put q.dst u H1) (by rw[wi]; exact wi') ni q3
     ·show g[A]? = H1[A]?
      rw[q2,bf (Ne.symm (hii A hA))]
     ·show g.length = H1.length
      rw[q2];simp
     ·have e2:id=idi:=Fi fun e2=>hne (by
       show g[id]? = H1[id]?
       rw[q2,bf (Ne.symm e2)])
      subst e2;exact⟨e,he,hei,hid⟩
def yD(P:aj)(pf:bO->Bool)(ah:Array aR)(R:kS)(W:jQ)(i:Nat)(K:St->Prop)(s:St):Prop :=
 match ah[i]? with
 |none=>K s
 |some o=>∃ v H',Yields P pf ah o s v H'/\Step P pf ah R W i o s v H'/\K (s.put o.dst v H')
def yE(P:aj)(pf:bO->Bool)(ah:Array aR)(R:kS)(W:jQ)(s':St):Nat->Array Bool->St->Prop
 |0,d,s=>nN .any ah d=[]/\s=s'
 |g+1,d,s=>(nN .any ah d=[]->s=s')/\∀ i∈nN .any ah d,yD P pf ah R W i (yE P pf ah R W s' g (d.setIfInBounds i true)) s
theorem GG{R:kS}{W:jQ}{s':St}:∀(d:Nat) (g:Array Bool) (s:St),yE P pf ah R W s' d g s->vl P pf ah s' d g s
 |0,_,_,h=>h
 | d+1,g,s,h=>by
  refine⟨h.1,fun i hi=>?_⟩;have h1:=h.2 i hi;unfold yD at h1;unfold vk;cases ho:ah[i]? with
  |none=>rw[ho]at h1; exact GG d _ _ h1
  | some o =>
   rw[ho]at h1;obtain⟨v,H',k,_,q⟩:=h1;exact⟨v,H',k,GG d _ _ q⟩
theorem Wp{R:kS}{W:jQ}{s':St}{i:Nat}{q:aR}(hi:ah[i]? = some q):∀(N:Nat) (d:Array Bool) (s:St) (v:AV) (H':List ai),th ah d ->
  (∀ j y,ah[j]? = some y->j≠i->d.getD j true=false->waits ah ah.size j i=false->q.apart ah y=true/\y.apart ah q=true/\Cb pf ah R W i q j y) ->
  i∈nN .any ah d->Yields P pf ah q s v H'->Step P pf ah R W i q s v H'->yE P pf ah R W s' N (d.setIfInBounds i true) (s.put q.dst v H')->yE P pf ah R W s' (N+1) d s:=by
 intro N
 induction N with
 | zero =>
  intro d s v H' _ _ I U O H;refine⟨fun h=>(by rw[h]at I; cases I),fun j M=>?_⟩;by_cases g:j=i
  ·subst g
   unfold yD;simp only[hi];exact⟨v,H',U,O,H⟩
  ·have := ready_mono M g
   rw[H.1]at this;cases this
 | succ N ih =>
  intro d s v H' hcl hfree I U O H;refine⟨fun h=>(by rw[h]at I; cases I),fun j M=>?_⟩;by_cases g:j=i
  ·subst g
   unfold yD;simp only[hi];exact⟨v,H',U,O,H⟩
  ·have h1 := H.2 j (ready_mono M g)
   obtain⟨hjun,y,hoj,hall⟩:=mem_ready.1 M;unfold yD at h1|-;simp only[hoj]at h1|-;obtain⟨u,Hj,hyj,hsj,hrest⟩:=h1;have hnw:waits ah ah.size j i=false:=by
    cases hw:waits ah ah.size j i with
    |false=>rfl
    | true =>
     have:=Gw hcl _ _ _ (Gx M) hw;rw[LM I]at this;cases this
   obtain⟨a1,a2,a3⟩:=hfree j y hoj g hjun hnw;obtain⟨V,q1,q2,q3,q4⟩:=Wo a1 a2 a3 U O hyj hsj;refine⟨u,V,q1,q2,?_⟩;refine ih (d.setIfInBounds j true) (s.put y.dst u V) v Hj (B7 hcl M) ?_ (ready_mono I (Ne.symm g)) q3 q4 ?_
   ·intro k ok hk hki hun hno
    refine hfree k ok hk hki ?_ hno;by_cases hjk:j=k
    ·subst hjk; exact hjun
    ·rw[getD_set_ne true hjk]at hun; exact hun
   ·rw [akk _ _ g]
    have:=LK s q.dst y.dst v u H' Hj V (J0 a1).2.1;rw[<-this];exact hrest
def vq(P:aj)(pf:bO->Bool)(ah:Array aR)(R:kS)(W:jQ):List aR->Nat->St->St->Prop
 | [],_,s,s'=>s=s'
 |o::l,j,s,s'=>∃ v H',Yields P pf ah o s v H'/\Step P pf ah R W j o s v H'/\vq P pf ah R W l (j+1) (s.put o.dst v H') s'
def GH(pf:bO->Bool)(x y:aR):Bool :=
 pZ pf x y||((match dz pf x.op,dz pf y.op with
  |.read,.write=>true
  |.write,.read=>true
  |_,_=>false)||((fD x.op&&fD y.op)||((match dz pf x.op with
  |.write=>tn x.op&&isVar y.op
  |_=>false)||(fD x.op&&kT y.op))))
theorem Wq{i j:Nat}{x y:aR}(hi:ah[i]? = some x)(d:ah[j]? = some y)(g:i<j)(h:waits ah ah.size j i=false)(k:fD x.op=true)(q:fD y.op=true):GB ah=true:=by
 unfold GB;refine lq.2 ⟨j,gH.2 (l8.1 d).1,lq.2 ⟨i,gH.2 g,?_⟩⟩;rw[hi,d];simp[k,q,h]
theorem Wr{i j:Nat}{x y:aR}(hi:ah[i]? = some x)(d:ah[j]? = some y)(g:i<j)(h:waits ah ah.size j i=false)(k:fD x.op=true)(q:kT y.op=true):GC ah=true:=by
 unfold GC;refine lq.2 ⟨j,gH.2 (l8.1 d).1,lq.2 ⟨i,gH.2 g,?_⟩⟩;rw[hi,d];simp[k,q,h]
theorem Ws{i j:Nat}{x y:aR}(hi:ah[i]? = some x)(d:ah[j]? = some y)(g:i<j)(h:waits ah ah.size j i=false)(k:tn x.op=true)(q:isVar y.op=true):B9 ah=true:=by
 unfold B9;refine lq.2 ⟨j,gH.2 (l8.1 d).1,lq.2 ⟨i,gH.2 g,?_⟩⟩;rw[hi,d];simp[k,q,h]
def GJ(pf:bO->Bool)(ah:Array aR)(x y:aR):Bool:=match dz pf x.op with
 |.write=>oa x.op&&(isVar y.op&&mW ah)
 |_=>false
def vr(pf:bO->Bool)(ah:Array aR):Bool :=
  akj ah &&
  (fj ah.size).all fun j=>(match ah[j]? with
    | some d=>(d.after.toList.all fun e => !JZ .any e||e.on<j) &&
      ((fj j).all fun i => match ah[i]? with
        |some g=>waits ah ah.size j i||(g.apart ah d&&d.apart ah g&&(GH pf g d||GJ pf ah g d))
        |none=>true)
    |none=>true)
def tq(ah:Array aR)(R:kS)(W:jQ):Prop:=(∀ i id,(i,id)∈R->∀ e∈W,(i<e.1->waits ah ah.size e.1 i=false->id∉e.2.1/\id<e.2.2)/\(e.1<i->waits ah ah.size i e.1=false->id∉e.2.1/\id<e.2.2)) /\
 (∀ e∈W,∀ d∈W,e.1<d.1->waits ah ah.size d.1 e.1=false->∀ id∈d.2.1,id∉e.2.1/\id<e.2.2) /\
 ∀ e∈W,∀ d∈W,e.1<d.1->waits ah ah.size d.1 e.1=false->∀ id∈e.2.1,id<d.2.2
theorem Wt{R:kS}{W:jQ}(v:tq ah R W){i j:Nat}{x y:aR}(hi:ah[i]? = some x)(q:ah[j]? = some y)(g:i<j)(k:waits ah ah.size j i=false)(d:GH pf x y=true):Cb pf ah R W i x j y:=by
 unfold GH at d;simp only[uF]at d;rcases d with d|d|d|d|d
 ·exact .inl d
 ·split at d
  ·rename_i h1 U
   refine .inr (.inl ⟨h1,U,fun id h e he q=>?_⟩);subst q;exact(v.1 i id h e he).1 g k
  ·rename_i h1 U
   refine .inr (.inr (.inl ⟨h1,U,fun id h e he q=>?_⟩));subst q;exact(v.1 j id h e he).2 g k
  ·cases d
 ·simp only [aL] at d
  refine .inr (.inr (.inr (.inl ⟨d.1,d.2,?_⟩)));unfold mW;rw[Wq hi q g k d.1 d.2];rfl
 ·split at d
  ·rename_i h1
   simp only[aL]at d;refine .inr (.inr (.inr (.inr (.inl ⟨h1,by unfold mX; rw[d.1,Ws hi q g k d.1 d.2]; rfl,d.2,fun e he N id h M I O=>?_⟩))));subst N O;exact v.2.1 M I e he g k id h
  ·cases d
 ·simp only [aL] at d
  refine .inr (.inr (.inr (.inr (.inr ⟨d.1,d.2,?_,fun e he O id h M I N=>?_⟩))))
  ·unfold mW
   rw[Wr hi q g k d.1 d.2];simp
  ·subst O N
   exact⟨fun hm=>(v.2.1 e he M I g k id hm).1 h,v.2.2 e he M I g k id h⟩
theorem Wu{R:kS}{W:jQ}(I:tq ah R W){i j:Nat}{x y:aR}(g:i<j)(M:waits ah ah.size j i=false)(d:GJ pf ah x y=true):Cb pf ah R W i x j y:=by
 unfold GJ at d;split at d
 ·rename_i h1
  simp only[aL]at d;refine .inr (.inr (.inr (.inr (.inl ⟨h1,by unfold mX; rw[d.1,d.2.2]; simp,d.2.1,fun e he h id k N q v=>?_⟩))));subst h v;exact I.2.1 N q e he g M id k
 ·cases d
theorem L9{R:kS}{W:jQ}{s':St}(hB:vr pf ah=true)(V:tq ah R W):∀(l:List aR) (k:Nat) (d:Array Bool) (s:St),l=ah.toList.drop k->th ah d->d.size=ah.size ->
  (∀ j,j<ah.size->(d.getD j true=false↔k<=j))->vq P pf ah R W l k s s'->yE P pf ah R W s' l.length d s
 | [],k,d,s,N,_,hsz,g,h=>by
  simp only[vq]at h;refine⟨?_,h⟩;apply akl.2;intro j q;obtain⟨h0,o,ho,_⟩:=mem_ready.1 q;have M:j<ah.size:=(l8.1 ho).1;have:=(g j M).1 h0;have hlen:(ah.toList.drop k).length=0:=by rw[<-N]; rfl
  simp at hlen;omega
 | o::l,k,d,s,N,hcl,hsz,g,h=>by
  obtain⟨v,H',hy,hst,hrest⟩:=h;have h0:ah[k]? = some o:=by
   have:(ah.toList.drop k)[0]? = some o:=by rw[<-N]; rfl
   simpa using this
  have M:k<ah.size:=(l8.1 h0).1;simp only[vr,aL,dK,gH]at hB;obtain⟨_,O⟩:=hB;have hlistedlt:∀ j,j<k->d.getD j false=true:=by
   intro j q;have hn:¬ (d.getD j true=false):=fun e=>by have:=(g j (by omega)).1 e; omega
   have:j<d.size:=by omega
   simp[this]at hn|-;exact hn
  have hready:k∈nN .any ah d:=by
   refine mem_ready.2 ⟨(g k M).2 (aQ _),o,h0,fun e he hb=>?_⟩;have:=O k M;rw[h0]at this;simp only[aL,dK]at this;have h1:=this.1 e (by simpa using he);simp only[hb,xR,uG,dT]at h1;exact hlistedlt e.on h1
  refine Wp h0 l.length d s v H' hcl ?_ hready hy hst ?_
  ·intro j oj q hjk hun U
   have I:j<ah.size:=(l8.1 q).1;have hkj:k<=j:=(g j I).1 hun;have:=O j I;rw[q]at this;simp only[aL,dK,gH]at this;have h1:=this.2 k (by omega);rw[h0]at h1;simp only[U,uG,aL]at h1;exact⟨h1.1.1,h1.1.2,by
    have y:=h1.2;rw[uF]at y;rcases y with y|y
    ·exact Wt V h0 q (by omega) U y
    ·exact Wu V (by omega) U y⟩
  ·refine L9 (by simp only [vr, aL, dK, gH]; exact ⟨‹_›, O⟩) V l (k + 1) _ _ ?_ (B7 hcl hready) (by simpa using hsz) ?_ hrest
   ·rw[<-sJ,<-N]; rfl
   ·intro j I
    by_cases e:k=j
    ·subst e
     have:k<d.size:=by omega
     simp[this]
    ·rw [getD_set_ne true e, g j I]
     omega
theorem Wv{R:kS}{W:jQ}{id:Nat}{s s':St}{E:af}{a:Act}{Q:Exit->Act->ba->Prop}(hm:P.follows .mixedOrders=true)(hB:vr pf ah=true)(y:tq ah R W)(d:dS s E a)
  (h:vq P pf ah R W ah.toList 0 s s') (I:∀ g w',gA E s' g w'->Q .normal g w'):∀ q:Option Nat,(Code.region id ah true).wpIn (fz q) 0 P Q a E.w:=by
 intro q;have v:dS s { E with w:={ E.w with drawn:=E.w.drawn+1 } } a:=⟨d.H,en (af.lr (Ext.drawn E.w _)) _ d.fr,FE d.heap (af.lr (Ext.drawn E.w _)) d.defers,d.heap.ext (Ext.drawn E.w _)⟩
 refine wpIn_region_any hm (B5 (pf:=pf) _ _ s { E with w:={ E.w with drawn:=E.w.drawn+1 } } a v ?_ (fun g w' M=>I g w' (gA.after (af.lr (Ext.drawn E.w _)) M)) q);have:=GG _ _ _ (L9 (P:=P) (s':=s') hB y ah.toList 0 (uH ah.size false) s (by simp) (by
  intro j k;exfalso;rcases l5 j ah.size with h'|h'
  ·simp[h']at k
  ·simp[J1 (xs:=uH ah.size false) (by simpa using h')]at k) (by simp) (by intro j k; simp[k]) h)
 simpa using this
end Go.AL
