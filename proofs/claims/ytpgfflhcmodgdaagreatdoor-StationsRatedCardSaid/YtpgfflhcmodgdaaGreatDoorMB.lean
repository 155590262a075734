/-
 What is proved here: every operation that the logic knows,put together,with calls; what an operation leaves. No program in sight; no condition.
-/
import Derived.Test.YtpgfflhcmodgdaaGreatDoorMAB
set_option linter.all false
open Array renaming getElem?_eq_some_iff->kh,ext'->mh,setIfInBounds_comm->ar_,replicate->rG,getElem?_eq_none->asa
open Bool renaming and_eq_true->aO,or_eq_true->vm,not_true->Ji,false_or->xF
open Classical renaming byContradiction->OR
open Decidable renaming byContradiction->Jl
open Function renaming comp_def->ZF
open Go renaming Value->ar,FuncId->bJ,TypeId->aK,World->bh,Program->ak,Operand->cM,Oper->aQ
open Go.Builtin renaming len_->ZE
open Go.Call renaming operands->A6
open Go.Op renaming operands->lh
open Go.Oper renaming wpIn->s9,semAt_eq->rF,apart_spec->OO
open Go.Region renaming wanted->Jh,binds->ON,noSelect->ar9,ready->pN
open Go.Value.slice renaming injEq->qz
open List renaming length_cons->cz,getElem?_set_self->cG,getElem?_set_ne->bL,drop_drop->xA,all_eq_true->eD,map_map->oI,replicate->cn,mem_cons_self->dx,nodup_cons->oL,set_comm->s8,range->fm,map_congr_left->oM,any_eq_true->pO,eq_nil_iff_forall_not_mem->ar',mem_range->iQ
open Nat renaming le_refl->aV,lt_of_lt_of_le->fD,lt_or_ge->nU
open Option.some renaming injEq->bD,inj->jB
namespace Go.AL
open Go
variable [Dr]
def Ff(x:cM):Bool:=x matches .const _
def Kk:AV->AV->Option AV
 |.lit (.int k a),.lit (.int _ b)=>some (.lit (.int k (if b>a then b else a)))
 |_,_=>none
def Kl:AV->AV->Option AV
 |.lit (.int k a),.lit (.int _ b)=>some (.lit (.int k (if b<a then b else a)))
 |_,_=>none
def ye(f:AV->AV->Option AV):AV->List AV->Option AV
 |x,[]=>some x
 |x,y::l=>match f x y with
  |some z=>ye f z l
  |none=>none
def abj:List AV->Option AV
 |[]=>none
 |x::d=>ye Kk x d
def abk:List AV->Option AV
 |[]=>none
 |x::d=>ye Kl x d
def Km(k:SK)(x:AV):Option AV:=
 match k,x with
 |.str,.lit (.string s)=>some (.int s.size)
 |.slice _ _ _,.lit (.string _)=>none
 |.slice _ _ _,x=>match EK x with
  |some n=>some (.int n)
  |none=>none
 |_,_=>none
def Kn(P:ak)(b:Builtin)(iG:List aK)(args:List AV):Option AV:=
 match b with
 |.len=>match iG[0]?,args[0]? with
  |some t,some x=>Km (dO P t) x
  |_,_=>none
 |.max=>abj args
 |.min=>abk args
 |.cap=>match iG,args with
  |t::_,.lit (.slice none 0 0)::_=>match dO P t with
   |.slice _ _ _=>some (.int 0)
   |_=>none
  |_,_=>none
 |_=>none
def Ko(r:cM->AV)(fn:Fn)(first caps:Array cM):Option AV:=
 match fn with
 |.func f=>if first.toList.isEmpty then some (.clo f (caps.toList.map r)) else none
 |_=>none
def Kp(P:ak)(r:cM->AV)(c:Call):Option AV:=
 match c.callee with
 |.builtin b=>Kn P b c.argTypes.toList (c.args.toList.map r)
 |_=>none
def kL(P:ak)(r:cM->AV):Op->Option AV
 |.move x | .assign x=>some (r x)
 |.pick c a b=>match r c with
  |.lit (.bool t)=>some (bif t then r a else r b)
  |_=>none
 |.extract t i=>match r t with
  |.tuple v=>v[i]?
  |_=>none
 |.field t x f=>match xR P t f with
  |some k=>JW k (r x)
  |none=>none
 |.fieldAddr t x f=>match xR P t f with
  |some k=>JL k (r x)
  |none=>none
 |.indexAddr t x i=>lP (dO P t) (r x) (r i)
 |.index t x i=>tw (dO P t) (r x) (r i)
 |.binOp op t x y _=>np P op t (Ff x||Ff y) (r x) (r y)
 |.unOp op _ x=>xZ op (r x)
 |.convert s d x=>x8 P s d (r x)
 |.build t parts=>JX P t (parts.toList.map fun p=>(p.1,r p.2))
 |.buildSlice t n parts=>yb P t n (parts.toList.map fun p=>(p.1,r p.2))
 |.slice t x lo hi mx=>pT P t (r x) (lo.map r) (hi.map r) (mx.map r)
 |.makeFunc fn first caps=>Ko r fn first caps
 |.nilCheck x=>match r x with
  |.ptr id aq k row h=>some (.ptr id aq k row h)
  |.cptr cells=>some (.cptr cells)
  |.clo f caps=>some (.clo f caps)
  |_=>none
 |.makeInterface t _=>match P.underlying t with
  |some (.interface _)=>none
  |some _=>some .ifc
  |none=>none
 |.call c=>Kp P r c
 |_=>none
def vT{E:ah}{r:cM->AV}{ρ:cM->ar}(h:∀ x,ad E (r x) (ρ x)):∀(l:List cM),aw E (l.map r) (l.map ρ)
 |[]=>by simp[aw]
 |x::l=>by simp only[List.map_cons,aw]; exact⟨h x,vT h l⟩
variable {E E':ah} {r d:cM->AV} {ρ:cM->ar} {u:ar} {v k:AV} {P:ak} {w w':bh} {args:List AV} {o I:aQ} {H' H:List aj} {f:bJ} {id i j m:Nat} {a:Act} {s s':St} {ai:Array aQ} {x y:aj} {z:List ar} {t:aK} {Q:Exit->Act->bh->Prop} {c:Code} {fn:Func} {op:Op}
theorem Kr(h:∀x,ad E (r x) (ρ x))(o:Option cM):tu E (o.map r) (o.map ρ):=by
 cases o with
 |none=>simp[tu]
 |some x=>grind[tu]
def kM(E:ah)(v:AV)(u:ar)(w':bh):Prop:=Ext E.w w'/\ad { E with w:=w' } v u
theorem kM.same(h:ad E v u):kM E v u E.w:=⟨Ext.refl _,h⟩
theorem oV{s:Sem ar}(h:s.run P w=.ok u w'):(do pure (Next.value (<- s)):Sem Next).run P w=.ok (.value u) w':=by
 simp[h]
theorem Ks{P:ak}{E:ah}{f:AV->AV->Option AV}{g:ar->ar->Sem ar}
  (I:∀x y c d z,f x y=some z->ad E x c->ad E y d->∃u,(g c d).run P E.w=.ok u E.w/\ad E z u) :
  ∀(k:List AV) (x:AV) (c:ar) (cs:List ar) (v:AV),ad E x c->aw E k cs->ye f x k=some v ->
   ∃u,(cs.foldlM g c).run P E.w=.ok u E.w/\ad E v u
 |[],x,c,cs,v,M,hr,h=>by
  cases cs with
  |nil=>simp_all[ye]
  |cons _ _=>simp[aw]at hr
 |y::k,x,c,cs,v,M,hr,h=>by
  cases cs with
  |nil=>simp[aw]at hr
  |cons d cs=>
   simp only[aw]at hr;simp only[ye]at h;split at h
   ·rename_i z N
    obtain⟨u,U,O⟩:=I x y c d z N M hr.1;obtain⟨W,g3,g4⟩:=Ks I k z u cs v O hr.2 h
    simp_all
   ·cases h
theorem abl(x y:AV)(c d:ar)(z:AV)(h:Kk x y=some z)(k:ad E x c)(v:ad E y d):
  ∃u,(Builtin.max2 c d).run P E.w=.ok u E.w/\ad E z u:=by
 unfold Kk at h;split at h
 ·cases h
  simp only[ad]at k v;subst k; subst v;exact⟨_,rfl,by simp[ad]⟩
 ·cases h
theorem abm(x y:AV)(c d:ar)(z:AV)(h:Kl x y=some z)(k:ad E x c)(v:ad E y d):
  ∃u,(Builtin.min2 c d).run P E.w=.ok u E.w/\ad E z u:=by
 unfold Kl at h;split at h
 ·cases h
  simp only[ad]at k v;subst k; subst v;exact⟨_,rfl,by simp[ad]⟩
 ·cases h
theorem abn{b:Builtin}{iG:Array aK}{ty:aK}{consts:Array Bool}{cargs:Array ar}
  (h:Kn P b iG.toList args=some v) (hr:aw E args cargs.toList):∃u,(builtin b iG ty consts cargs).run P E.w=.ok (.value u) E.w/\ad E v u:=by
 cases b<;>simp only[Kn]at h<;>try cases h
 case len=>
  split at h
  case h_2=>cases h
  rename_i t x I W;obtain⟨c,hc,d⟩:=rQ hr W;have N:iG[0]?=some t:=gB;have O:cargs[0]?=some c:=gB;unfold Km at h;split at h
  ·rename_i s k
   cases h
   simp_all[ad,goInt,builtin,ZE,Sem.bT,vE]
  ·cases h
  ·rename_i e sz U k hns
   split at h
   ·rename_i n M
    cases h;obtain⟨hu,_⟩:=kn k;rcases Z9 M d with⟨s,rfl,_⟩|⟨aU,cap,rfl⟩
    ·exfalso
     unfold EK at M
     grind[ad,gJ]
    simp_all[goInt,ad,builtin,ZE,Sem.bT]
   ·cases h
  ·cases h
 case max=>
  cases args with
  |nil=>cases h
  |cons x y=>
   cases cC:cargs.toList with
   |nil=>grind[aw]
   |cons c cs=>
    rw[cC]at hr;simp only[aw]at hr;obtain⟨u,g1,g2⟩:=Ks (P:=P) abl y x c cs v hr.1 hr.2 h
    simp_all[builtin,Builtin.max_]
 case min=>
  cases args with
  |nil=>cases h
  |cons x y=>
   cases cC:cargs.toList with
   |nil=>grind[aw]
   |cons c cs=>
    rw[cC]at hr;simp only[aw]at hr;obtain⟨u,g1,g2⟩:=Ks (P:=P) abm y x c cs v hr.1 hr.2 h
    simp_all[builtin,Builtin.min_]
 case cap=>
  split at h
  case h_2=>cases h
  rename_i t ts as I;obtain⟨c,hc,d⟩:=rQ (i:=0) hr rfl;have N:iG[0]?=some t:=by
   have:iG.toList[0]?=some t:=by rw[I]; rfl
   grind
  have O:cargs[0]?=some c:=gB;simp only[ad]at d;subst d;split at h
  ·rename_i e sz U k
   cases h;obtain⟨hu,_⟩:=kn k
   simp_all[goInt,ad,builtin,Builtin.cap_,Sem.bT]
  ·cases h
theorem abo(HE:aJ E)(hr:∀ x,ad E (r x) (ρ x))(h:kL P r o.op=some v):
  ∃u w',(execOp ρ o).run P E.w=.ok (.value u) w'/\kM E v u w':=by
 obtain⟨dst,op,type,pos,after,guard⟩:=o;have same:∀{s:Sem ar},(∃u,s.run P E.w=.ok u E.w/\ad E v u)->∃u w',(do pure (Next.value (<- s)):Sem Next).run P E.w=.ok (.value u) w'/\kM E v u w':=by
  rintro s ⟨u,N,U⟩;exact⟨u,E.w,oV N,kM.same U⟩
 cases op<;>simp only[kL]at h<;>try cases h
 case move x=>exact⟨ρ x,E.w,rfl,kM.same (hr x)⟩
 case assign x=>exact⟨ρ x,E.w,rfl,kM.same (hr x)⟩
 case pick c a b=>
  split at h
  ·rename_i t ht
   cases h;have M:=hr c;rw[ht]at M;simp only[ad]at M;refine⟨if t then ρ a else ρ b,E.w,?_,?_⟩
   ·simp[execOp,M,asBool]
   grind[kM.same]
  ·cases h
 case build t parts=>
  obtain⟨u,N,U⟩:=aan (E:=E) (cparts:=parts.toList.map fun p=>(p.1,ρ p.2)) h au (by
   simp only[oI];have:=vT hr (parts.toList.map (·.2))
   grind[ZF])
  have e:(parts.toList.map fun p=>(p.1,ρ p.2)).toArray=parts.map fun(i,x)=>(i,ρ x):=by
   apply mh; simp
  rw[e]at N;exact same ⟨u,N,U⟩
 case buildSlice t n parts=>
  obtain⟨u,w',N,U,g3⟩:=aaG HE (cparts:=parts.toList.map fun p=>(p.1,ρ p.2)) h au (by
   simp only[oI];have:=vT hr (parts.toList.map (·.2))
   grind[ZF])
  have e:(parts.toList.map fun p=>(p.1,ρ p.2)).toArray=parts.map fun(i,x)=>(i,ρ x):=by
   apply mh; simp
  rw[e]at N;exact⟨u,w',oV N,U,g3⟩
 case nilCheck x=>
  have I:=hr x;split at h
  ·rename_i id aq k row col he
   cases h;rw[he]at I;have O:=I;simp only[ad]at O;obtain⟨⟨b,o,M⟩,_⟩:=O;exact⟨ρ x,E.w,by simp[execOp,M],kM.same I⟩
  ·rename_i cells he
   cases h;rw[he]at I;have O:=I;simp only[ad]at O;obtain⟨_,b,o,M,_⟩:=O;exact⟨ρ x,E.w,by simp[execOp,M],kM.same I⟩
  ·rename_i f caps he
   cases h;rw[he]at I;have O:=I;simp only[ad]at O;obtain⟨cs,M,_⟩:=O;exact⟨ρ x,E.w,by simp[execOp,M],kM.same I⟩
  ·cases h
 case binOp op t x y _=>
  refine same (aai (x:=x) (y:=y) (fun W=>?_) h (hr x) (hr y));cases x<;>cases y<;>first|rfl|exact W
 case unOp op _ x=>exact same (aaj h (hr x))
 case convert s d x=>exact same (aak h (hr x))
 case makeInterface t x=>
  split at h
  ·cases h
  ·rename_i d hd hu
   cases h;refine same ⟨.iface t (ρ x),?_,by simp only[ad]; exact⟨_,_,rfl⟩⟩
   simp_all[Instr.makeInterface,Sem.bT]
  ·cases h
 case makeFunc fn first caps=>
  cases fn<;>simp only[Ko]at h<;>try cases h
  rename_i f;split at h
  ·rename_i hf
   cases h;refine⟨.func (.func f) (first.map ρ) (caps.map ρ),E.w,rfl,kM.same ?_⟩
   simp_all[ad,vT]
  ·cases h
 case slice t x lo hi mx=>exact same (aad h (hr x) (Kr hr lo) (Kr hr hi) (Kr hr mx))
 case fieldAddr t x f=>
  split at h
  ·rename_i k W; exact same (Z' W h (hr x))
  ·cases h
 case field t x f=>
  split at h
  ·rename_i k W; exact same (aam W h (hr x))
  ·cases h
 case indexAddr t x i=>exact same (aaa HE h (hr x) (hr i))
 case index t x i=>exact same (aal h (hr x) (hr i))
 case extract t i=>
  split at h
  ·rename_i vs ht
   have I:=hr t;rw[ht]at I;simp only[ad]at I;obtain⟨cs,M,hl⟩:=I;obtain⟨u,N,U⟩:=rQ hl h;refine same ⟨u,?_,U⟩
   simp_all[Instr.extract]
  ·cases h
 case call c=>
  obtain⟨callee,args,argTypes⟩:=c;cases callee<;>simp only[Kp]at h<;>try cases h
  rename_i b;obtain⟨u,N,U⟩:=abn (P:=P) (E:=E) (b:=b) (iG:=argTypes) (ty:=type) (consts:=args.map fun | .const _=>true|_=>false) (cargs:=args.map ρ) h
   (by simpa using vT hr args.toList)
  grind[execOp,resolve,invoke,kM.same]
def Fg(P:ak)(r:cM->AV)(H:List aj)(c:Call):Option (AV × List aj):=
 match c.callee with
 |.builtin .append=>match c.args.toList,c.argTypes.toList with
  |[s,x],[t,xt]=>match vL P t xt (r s) (r x) H with
   |some y=>some y
   |none=>x_ P t xt (r s) (r x) H
  |_,_=>none
 |.builtin .clear=>match c.args.toList,c.argTypes.toList with
  |[x],[t]=>match Bt P t (r x) H with
   |some H'=>some (.tuple [],H')
   |none=>none
  |_,_=>none
 |.builtin .delete=>match c.args.toList,c.argTypes.toList with
  |[x,k],t::_=>match Bs P t (r x) (r k) H with
   |some H'=>some (.tuple [],H')
   |none=>none
  |_,_=>none
 |_=>none
def eG(P:ak)(r:cM->AV)(H:List aj):Op->Option (AV × List aj)
 |.alloc t=>vH P t H
 |.box _ x=>E5 (r x) H
 |.store t a x=>match qG P t (r a) (r x) H with
  |some H'=>some (.undef,H')
  |none=>match vS P t (r a) (r x) H with
   |some H'=>some (.undef,H')
   |none=>match By P t (r a) (r x) H with
    |some H'=>some (.undef,H')
    |none=>none
 |.makeSlice t l c=>Bo P t (r l) (r c) H
 |.buildSlice t n parts=>Bu P t n (parts.toList.map fun p=>(p.1,r p.2)) H
 |.range t x=>E8 P t (r x) H
 |.next it isString=>E9 (r it) isString H
 |.makeMap _ none=>some (.map H.length,H++[.map [] 0])
 |.mapUpdate t m k v=>match oT P t (r m) (r k) (r v) H with
  |some H'=>some (.undef,H')
  |none=>match rW P t (r m) (r k) (r v) H with
   |some H'=>some (.undef,H')
   |none=>match vP P t (r m) (r k) (r v) H with
    |some H'=>some (.undef,H')
    |none=>match BA P t (r m) (r k) (r v) H with
     |some H'=>some (.undef,H')
     |none=>none
 |.insert t m k v=>match oT P t (r m) (r k) (r v) H with
  |some H'=>some (.undef,H')
  |none=>none
 |.lookup t m k false=>match jl P t (r m) (r k) false H with
  |some v=>some (v,H)
  |none=>match vM P t (r m) (r k) H with
   |some y=>some y
   |none=>Bz P t (r m) (r k) H
 |.mapEntry t m k=>match lQ P t (r m) (r k) H with
  |some y=>some y
  |none=>nq P t (r m) (r k) H
 |.entryStore _ m s x=>match oU (r m) (r s) (r x) H with
  |some H'=>some (.undef,H')
  |none=>match pY (r m) (r s) (r x) H with
   |some H'=>some (.undef,H')
   |none=>none
 |.call c=>Fg P r H c
 |_=>none
theorem dP.of_le(h1:aJ { w:=w',H:=H',ae:=E.ae,X:=E.X })(d:E.le { w:=w',H:=H',ae:=E.ae,X:=E.X })(u:ar):
  dP E .undef H' u w':=⟨E.ae,E.X.r,by simp[ad],h1,d⟩
theorem kM.toOp(HE:aJ E)(h:kM E v u w'):dP E v E.H u w':=
 ⟨E.ae,E.X.r,h.2,HE.ext h.1,ah.lN h.1⟩
theorem abp(HE:aJ E)(hr:∀ x,ad E (r x) (ρ x))
  (h:eG P r E.H o.op=some (v,H')) :
  ∃n u w',(execOp ρ o).run P E.w=.ok n w'/\(n=.value u\/n=.skip/\u=undef)/\dP E v H' u w':=by
 obtain⟨dst,op,type,pos,after,guard⟩:=o;have same:∀{s:Sem ar},(∃u w',s.run P E.w=.ok u w'/\dP E v H' u w') ->
   ∃n u w',(do pure (Next.value (<- s)):Sem Next).run P E.w=.ok n w'/\(n=.value u\/n=.skip/\u=undef)/\dP E v H' u w':=by
  rintro s ⟨u,w',d,I⟩
  grind[oV]
 cases op<;>simp only[eG]at h<;>try cases h
 case alloc t=>exact same (aaw HE h)
 case box t x=>exact same (aaC HE h (hr x))
 case store t a x=>
  split at h
  ·rename_i H1 M
   cases h;obtain⟨w',d,I,N⟩:=PB HE M (hr a) (hr x);exact⟨.skip,undef,w',by simp[execOp,d],.inr ⟨rfl,rfl⟩,dP.of_le I N _⟩
  ·split at h
   ·rename_i H1 M
    cases h;obtain⟨w',d,I,N⟩:=abd HE M (hr a) (hr x);exact⟨.skip,undef,w',by simp[execOp,d],.inr ⟨rfl,rfl⟩,dP.of_le I N _⟩
   ·split at h
    ·rename_i H1 M
     cases h;obtain⟨w',d,I⟩:=abe HE M (hr a) (hr x);exact⟨.skip,undef,w',by simp[execOp,d],.inr ⟨rfl,rfl⟩,I _⟩
    ·cases h
 case makeSlice t l c=>exact same (aaF HE h (hr l) (hr c))
 case buildSlice t n parts=>
  obtain⟨u,w',d,I⟩:=aaT HE (cparts:=parts.toList.map fun p=>(p.1,ρ p.2)) h au (by
   simp only[oI];have:=vT hr (parts.toList.map (·.2))
   grind[ZF])
  have e:(parts.toList.map fun p=>(p.1,ρ p.2)).toArray=parts.map fun(i,x)=>(i,ρ x):=by
   apply mh; simp
  rw[e]at d;exact same ⟨u,w',d,I⟩
 case range t x=>exact same (aaI HE h (hr x))
 case next it isString=>exact same (aaJ HE h (hr it))
 case makeMap t res=>
  cases res with
  |some _=>cases h
  |none=>
   cases h;exact same ⟨_,_,by simp[Instr.makeMap,newObj]; rfl,aaL HE⟩
 case mapUpdate t m k x=>
  split at h
  ·rename_i H1 M
   cases h;obtain⟨w',d,I,N⟩:=PT HE M (hr m) (hr k) (hr x);exact⟨.skip,undef,w',by simp[execOp,d],.inr ⟨rfl,rfl⟩,dP.of_le I N _⟩
  ·split at h
   ·rename_i H1 M
    cases h;obtain⟨w',d,I⟩:=aaZ HE M (hr m) (hr k) (hr x);exact⟨.skip,undef,w',by simp[execOp,d],.inr ⟨rfl,rfl⟩,I _⟩
   ·split at h
    ·rename_i H1 M
     cases h;obtain⟨w',d,I,N⟩:=aa_ HE M (hr m) (hr k) (hr x);exact⟨.skip,undef,w',by simp[execOp,d],.inr ⟨rfl,rfl⟩,dP.of_le I N _⟩
    ·split at h
     ·rename_i H1 M
      cases h;obtain⟨w',d,I⟩:=abi HE M (hr m) (hr k) (hr x);exact⟨.skip,undef,w',by simp[execOp,d],.inr ⟨rfl,rfl⟩,I _⟩
     ·cases h
 case lookup t m k ok=>
  cases ok with
  |true=>cases h
  |false=>
   simp only[]at h;split at h
   ·rename_i v1 hv
    cases h;obtain⟨u,d,I⟩:=PO HE hv (hr m) (hr k);exact same ⟨u,_,d,kM.toOp HE ⟨Ext.refl _,I⟩⟩
   ·split at h
    ·rename_i y O
     cases h;exact same (aaY HE O (hr m) (hr k))
    ·exact same (abg HE h (hr m) (hr k))
 case mapEntry t m k=>
  split at h
  ·rename_i y O
   cases h;exact same (aa3 HE O (hr m) (hr k))
  ·exact same (aa' HE h (hr m) (hr k))
 case entryStore t m s x=>
  split at h
  ·rename_i H1 M
   cases h;obtain⟨w',d,I⟩:=aa5 (P:=P) (t:=t) HE M (hr m) (hr s) (hr x);exact⟨.skip,undef,w',by simp[execOp,d],.inr ⟨rfl,rfl⟩,I _⟩
  ·split at h
   ·rename_i H1 M
    cases h;obtain⟨w',d,I⟩:=abb (P:=P) (t:=t) HE M (hr m) (hr s) (hr x);exact⟨.skip,undef,w',by simp[execOp,d],.inr ⟨rfl,rfl⟩,I _⟩
   ·cases h
 case insert t m k x=>
  split at h
  ·rename_i H1 M
   cases h;obtain⟨w',d,I,N⟩:=PT HE M (hr m) (hr k) (hr x);exact⟨.skip,undef,w',by simp[execOp,d],.inr ⟨rfl,rfl⟩,dP.of_le I N _⟩
  ·cases h
 case call c=>
  obtain⟨callee,args,argTypes⟩:=c;unfold Fg at h;split at h
  ·rename_i U
   simp only[]at U;subst U;simp only[]at h;split at h
   case h_2=>cases h
   rename_i s x t xt hargs htys;have W:args=#[s,x]:=by apply mh; omega
   have htys':argTypes=#[t,xt]:=by apply mh; omega
   subst W;subst htys';split at h
   ·rename_i y O
    cases h;obtain⟨u,w',d,I⟩:=aaS (P:=P) (ty:=type) HE O (hr s) (hr x);refine⟨.value u,u,w',?_,.inl rfl,I⟩;simp[execOp,resolve,invoke,builtin,d]
   ·obtain⟨u,w',d,I⟩:=aat (P:=P) (ty:=type) HE h (hr s) (hr x)
    refine⟨.value u,u,w',?_,.inl rfl,I⟩;simp[execOp,resolve,invoke,builtin,d]
  ·rename_i U
   simp only[]at U;subst U;simp only[]at h;split at h
   case h_2=>cases h
   rename_i x t hargs htys;have W:args=#[x]:=by apply mh; omega
   have htys':argTypes=#[t]:=by apply mh; omega
   subst W;subst htys';split at h
   ·rename_i H1 O
    cases h;obtain⟨w',d,I,N⟩:=aaQ (P:=P) (ty:=type) (iG:=#[t]) (cs:=#[ρ x]) HE O rfl rfl (hr x);refine⟨.value (.tuple #[]),.tuple #[],w',?_,.inl rfl,E.ae,E.X.r,by simp[ad,aw],I,N⟩;simp[execOp,resolve,invoke,builtin,d]
   ·cases h
  ·rename_i U
   simp only[]at U;subst U;simp only[]at h;split at h
   case h_2=>cases h
   rename_i x k t ts hargs htys;have W:args=#[x,k]:=by apply mh; omega
   subst W;split at h
   ·rename_i H1 O
    cases h;have ht0:argTypes[0]?=some t:=by
     have:argTypes.toList[0]?=some t:=by rw[htys]; rfl
     grind
    obtain⟨w',d,I,N⟩:=aaO (P:=P) (ty:=type) (iG:=argTypes) (cs:=#[ρ x,ρ k]) HE O ht0 rfl rfl (hr x) (hr k);refine⟨.value (.tuple #[]),.tuple #[],w',?_,.inl rfl,E.ae,E.X.r,by simp[ad,aw],I,N⟩;simp[execOp,resolve,invoke,builtin,d]
   ·cases h
  ·cases h
def jn(P:ak)(f:bJ)(args:List AV)(H:List aj)(Q:AV->List aj->Prop):Prop:=
 ∀(E:ah) (d:Array ar),E.H=H->aJ E->aw E args d.toList ->
  Calls P f d E.w fun e w'=>∃c v H',e=.returned c/\Q v H'/\dP E v H' c w'
def eM(P:ak)(f:bJ)(args:List AV)(v:AV):Prop:=∀H,jn P f args H fun d H'=>d=v/\H'=H
theorem jn.mono{P:ak}{f:bJ}{args:List AV}{H:List aj}{Q d:AV->List aj->Prop}(h:jn P f args H Q)(hq:∀v H',Q v H'->d v H'):jn P f args H d:=
 fun E k h1 y I=>(h E k h1 y I).mono fun _ _ ⟨c,v,H',e,q,r⟩=>⟨c,v,H',e,hq v H' q,r⟩
def gr(P:ak)(f:bJ):Bool:=
 match P.funcs[f]? with
 |some fn => !(fn.name == "runtime.NumGoroutine")&&fn.body.isSome
 |none=>false
theorem Kt(h:gr P f=true)(args:Array ar)(w:bh):(callFunc f args).run P w=.ok (.enter f args) w:=by
 unfold gr at h;split at h
 ·rename_i fn d
  simp only[aO,Bool.not_eq_true']at h;have h1:fn.name ≠ "runtime.NumGoroutine" :=gB;have k:fn.body≠none:=fun e=>by rw[e]at h; simp at h
  simp_all[callFunc]
 ·cases h
def Fh(r:cM->AV)(c:Call):Option (bJ × List AV):=
 match c.callee with
 |.value g=>match r g with
  |.clo f caps=>some (f,c.args.toList.map r++caps)
  |_=>none
 |_=>none
def il(r:cM->AV):Op->Option (bJ × List AV)
 |.call c=>Fh r c
 |_=>none
theorem Ku(hr:∀ x,ad E (r x) (ρ x))
  (h:il r o.op=some (f,args)) (hb:gr P f=true):∃k:Array ar,(execOp ρ o).run P E.w=.ok (.enter f k) E.w/\aw E args k.toList:=by
 obtain⟨dst,op,y,pos,after,guard⟩:=o;cases op<;>simp only[il]at h<;>try cases h
 rename_i c;obtain⟨callee,as,argTypes⟩:=c;cases callee<;>simp only[Fh]at h<;>try cases h
 rename_i g;split at h
 case h_2=>cases h
 rename_i I caps v;cases h;have d:=hr g;rw[v]at d;simp only[ad]at d;obtain⟨cs,M,N⟩:=d
 simp_all[execOp,resolve,Deferred.ofValue,invoke,Kt,oS,vT]
inductive Cls where
 |pure|read|write
 deriving DecidableEq
def abr(pf:bJ->Bool)(c:Call):Bool:=
 match c.argTypes.toList with
 |[t]=>pf (t+1000000)
 |_=>false
def ed(pf:bJ->Bool):Op->Cls
 |.load ..=>.read
 |.lookup t _ _ _=>if pf (t+1500000) then .write else .read
 |.buildSlice t n _=>if pf (t+100000*n+2000000) then .write else .pure
 |.alloc .. | .box .. | .store .. | .makeSlice .. | .mapUpdate .. | .insert .. | .makeMap .. | .mapEntry .. | .entryStore .. | .range .. | .next .. | .entry ..=>.write
 |.go .. | .defer .. | .panic .. | .send .. | .recv .. | .select .. | .makeChan .. | .ready .. | .waits ..=>.write
 |.call c=>match c.callee with
  |.builtin .len=>match abr pf c with
   |true=>.read
   |false=>.pure
  |.builtin .max | .builtin .min | .builtin .cap=>.pure
  |.value (.func f)=>if pf f then .pure else .write
  |_=>.write
 |_=>.pure
def tA(P:ak)(r:cM->AV)(H:List aj)(c:Call):Option AV:=
 match c.callee,c.args.toList,c.argTypes.toList with
 |.builtin .len,[a],[t]=>match eT P t,r a with
  |some _,.map id=>match H[id]? with
   |some (.map d _)=>some (.int d.length)
   |_=>none
  |_,_=>none
 |_,_,_=>none
theorem abt(HE:aJ E)(hr:∀ x,ad E (r x) (ρ x)){c:Call}(ho:o.op=.call c)(h:tA P r E.H c=some v):
  ∃u,(execOp ρ o).run P E.w=.ok (.value u) E.w/\ad E v u:=by
 obtain⟨dst,op,type,pos,after,guard⟩:=o;subst ho;obtain⟨callee,args,argTypes⟩:=c;unfold tA at h;split at h
 case h_2=>cases h
 rename_i a t d M O;simp only[]at d M O;subst d;have I:args=#[a]:=by apply mh; omega
 have N:argTypes=#[t]:=by apply mh; omega
 subst I;subst N;split at h
 case h_2=>cases h
 rename_i p id W U;split at h
 case h_2=>cases h
 rename_i es cl hH;cases h;have k:=hr a;rw[U]at k;obtain⟨b,n,y,e1,h1,h2,h3⟩:=vJ HE hH k;obtain⟨kt,et⟩:=p;have hl:=(fA.1 h3).1;have e2:(getObj b).run P E.w=.ok (.map y cl) E.w:=by simp[getObj,Sem.run,h2]
 refine⟨goInt y.size,?_,by simp[ad,goInt,hl]⟩;simp only[execOp,resolve,Sem.run_bind,Sem.run_pure,Result.andThen_ok,invoke];simp[builtin,ZE,Sem.bT (gW W),e1,e2]
def im(P:ak)(r:cM->AV)(H:List aj):Op->Option AV
 |.load t a=>nm P t (r a) H
 |.lookup t m k ok=>match jl P t (r m) (r k) ok H with
  |some v=>some v
  |none=>ob P t (r m) (r k) ok H
 |.call c=>tA P r H c
 |_=>none
theorem abu(HE:aJ E)(hr:∀ x,ad E (r x) (ρ x))(h:im P r E.H o.op=some v):
  ∃u,(execOp ρ o).run P E.w=.ok (.value u) E.w/\ad E v u:=by
 obtain⟨dst,op,I,pos,after,guard⟩:=o;cases op<;>simp only[im]at h<;>try cases h
 case load t a=>
  obtain⟨u,d,y⟩:=Pg HE h (hr a);exact⟨u,oV d,y⟩
 case lookup t m k ok=>
  split at h
  ·rename_i M h1
   cases h;obtain⟨u,d,y⟩:=PO HE h1 (hr m) (hr k);exact⟨u,oV d,y⟩
  ·obtain⟨u,d,y⟩:=aa8 HE h (hr m) (hr k)
   exact⟨u,oV d,y⟩
 case call c=>exact abt HE hr rfl h
def fL(P:ak)(f:bJ)(args:List AV)(H:List aj)(v:AV)(H':List aj):Prop:=jn P f args H fun d H1=>d=v/\H1=H'
def cX(ai:Array aQ)(fr:List AV)(o:aQ):Option Bool:=
 match o.guard with
 |none=>some true
 |some (j,d)=>match (ai[j]?).bind (·.dst) with
  |some t=>match fr[t]? with
   |some (.lit (.bool b))=>some (b==d)
   |some (.tuple [])=>some false
   |_=>none
  |none=>none
def Frz(H:List aj)(v d:AV)(H1:List aj):Prop:=
 ∃(id aq:Nat) (ks:List Kd) (rZ:List (List G)),((v=.vQ ks.length id aq 0 rZ.length/\d=.listF ks rZ)\/∃cs,v=.agg (.vQ ks.length id aq 0 rZ.length::cs)/\d=.agg (.listF ks rZ::cs))/\H[id]?=some (.vQ ks.length aq (rZ.map (aY ks)))/\H1=H.set id .dead
theorem Kv(HE:aJ E){aq:Nat}{ks:List Kd}{rZ:List (List G)} (v:E.H[id]? = some (.vQ ks.length aq (rZ.map (aY ks)))) {c:ar} (hr:ad E (.vQ ks.length id aq 0 rZ.length) c):
  ad { w:=E.w,H:=E.H.set id .dead,ae:=E.ae.set id none,X:=E.X } (.listF ks rZ) c:=by
 have N:=ah.Be HE id;have ho:=HE.obj id _ v;rw[lM];simp only[ad]at hr|-;obtain⟨⟨aU,cap,rfl,M,_⟩,_,h⟩:=hr;obtain⟨q1,U⟩:=h ⟨_,v,rfl⟩;have y:gn (rZ.map (aY ks)):=by
  intro r hr;obtain⟨g,_,rfl⟩:=List.mem_map.1 hr;exact iR ks g
 refine⟨y,aU,cap,au,by simpa using M,?_⟩;simp only[a6]at ho;rcases ho with⟨h1,W⟩|⟨b,mm,h1,W,h,_,h4⟩
 grind
 ·obtain⟨g1,o,g2,I⟩:=U b mm h1
  by_cases hm:rZ=[]
  grind
  ·right
   have:0<rZ.length:=gB;simp at h;have ho:=g2 ab;simp at ho;subst ho;simp only[qz]at I;refine⟨b,0,I.1,⟨(HE.lt id b mm h1).1,?_,(HE.lt id b mm h1).2⟩,mq N.toC _ y rfl h4⟩;rintro(⟨j,c',d⟩|⟨l,k,c',d⟩)
   case inr=>exact HE.d_ _ _ _ _ _ _ h1 d
   simp only[List.getElem?_set]at d;split at d
   grind
   ·rename_i O
    exact O (HE.inj _ _ _ _ _ h1 d)
def yf(P:ak)(r:cM->AV)(H:List aj)(v:AV)(H':List aj):Op->Prop
 |.store t a x=>∃d H1,Frz H (r x) d H1/\qG P t (r a) d H1=some H'/\v=.undef
 |_=>False
theorem abw(o:Op)(h:∀x∈o.operands,r x=d x):yf P r H v H' o=yf P d H v H' o:=by
 cases o<;>try rfl
 grind[yf,lh]
theorem abx(HE:aJ E)(hr:∀ x,ad E (r x) (ρ x))(h:yf P r E.H v H' o.op):
  ∃w',(execOp ρ o).run P E.w=.ok .skip w'/\dP E v H' undef w':=by
 obtain⟨dst,op,type,pos,after,guard⟩:=o;cases op<;>try exact h.elim
 rename_i t a x;obtain⟨M,H1,⟨id,aq,ks,rZ,h1,N,rfl⟩,O,rfl⟩:=h;have y:=hr x;have k:=ah.Be HE id;have I:ad { w:=E.w,H:=E.H.set id .dead,ae:=E.ae.set id none,X:=E.X } M (ρ x):=by
  rcases h1 with⟨h1,rfl⟩|⟨cs,h1,rfl⟩
  grind[Kv]
  ·rw[h1,ad]at y
   obtain⟨l,e,ho,hl⟩:=y;rw[e,ad];refine⟨l,rfl,ho,?_⟩;cases hll:l.toList with
   |nil=>grind[aw]
   |cons u us=>
    grind[aw,Kv,eX]
 obtain⟨w',d,U,W⟩:=PB (E:={ w:=E.w,H:=E.H.set id .dead,ae:=E.ae.set id none,X:=E.X }) (aJ.drop HE id fun o ho=>by rw[N]at ho; cases ho; rfl) O (bW k _ (hr a)) I;have d:(Instr.storeAt t (ρ a) (ρ x)).run P E.w=.ok () w':=d;exact⟨w',by simp[execOp,d],E.ae.set id none,E.X.r,by simp[ad],U,k.trans W⟩
def Yields(P:ak)(pf:bJ->Bool)(ai:Array aQ)(o:aQ)(s:St)(v:AV)(H':List aj):Prop:=
 match cX ai s.fr o with
 |none=>False
 |some false=>v=.tuple []/\H'=s.H
 |some true=>match ed pf o.op with
  |.pure=>H'=s.H/\(kL P s.eval o.op=some v\/∃f args,il s.eval o.op=some (f,args)/\gr P f=true/\eM P f args v)
  |.read=>H'=s.H/\im P s.eval s.H o.op=some v
  |.write=>(eG P s.eval s.H o.op=some (v,H')\/∃f args,il s.eval o.op=some (f,args)/\gr P f=true/\fL P f args s.H v H')\/(((∃t id m,o.op=.alloc t/\tx P t id m s.H=some (v,H'))\/∃t id,o.op=.makeMap t none/\vK id s.H=some (v,H'))\/yf P s.eval s.H v H' o.op)
def nr(fr:List AV)(dst:Option Tmp)(v:AV):List AV:=
 match dst with
 |some d=>fr.set d v
 |none=>fr
def St.put(s:St)(dst:Option Tmp)(v:AV)(H':List aj):St:=⟨nr s.fr dst v,H'⟩
theorem Kw{E:ah}:∀{as:List AV} {k:List ar} {a:AV} {v:ar} (d:Nat),aw E as k->ad E a v->aw E (as.set d a) (k.set d v)
 |[],[],_,_,_,_,_=>by simp[aw]
 |[],_::_,_,_,_,h,_=>by simp[aw]at h
 |_::_,[],_,_,_,h,_=>by simp[aw]at h
 |_::as,_::k,a,v,0,h,y=>by simp only[aw]at h; simp only[List.set_cons_zero,aw]; exact⟨y,h.2⟩
 |_::as,_::k,a,v,d+1,h,y=>by simp only[aw]at h; simp only[List.set_cons_succ,aw]; exact⟨h.1,Kw d h.2 y⟩
theorem Kx(h:aw E s.fr a.tmps.toList)(k:E.le E')(dst:Option Tmp)(y:ad E' v u):
  aw E' (nr s.fr dst v) (a.put dst u).tmps.toList:=by
 have h':=eX k _ h;cases dst with
 |none=>exact h'
 |some d=>
  grind[nr,Act.put,Kw]
def fz(r:Option Nat):Fence:={ Fence.wide with round:=r }
theorem Ky{r:Option Nat}{n:Nat}{args:Array ar}{R:Ending->bh->Prop}(h:Calls P f args w R):CallsIn (fz r) n P f args w R:=(callsIn_wide (n:=n)).2 h
theorem put_defers(a:Act)(dst:Option Tmp)(v:ar):(a.put dst v).defers=a.defers:=by cases dst<;>rfl
theorem Qg(h:cQ s E a){b:Bool}(d:cX ai s.fr o=some b):
  Jh o (yielded ai a.tmps)=b:=by
 unfold cX at d;unfold Jh;cases k:o.guard with
 |none=>grind
 |some v=>
  obtain⟨j,M⟩:=v;rw[k]at d;simp only[]at d|-;split at d
  case h_2=>cases d
  rename_i t N;split at d
  ·rename_i O hb
   cases d;obtain⟨u,y,I⟩:=rQ h.fr hb
   grind[ad,yielded]
  ·rename_i hb
   cases d;obtain⟨u,y,I⟩:=rQ h.fr hb
   grind[ad,yielded]
  ·cases d
def iH(E:ah)(s':St)(k:Act)(w':bh):Prop:=
 ∃d h,cQ s' { w:=w',H:=s'.H,ae:=d,X:=E.X.re h } k/\E.le { w:=w',H:=s'.H,ae:=d,X:=E.X.re h }
theorem Kz{pf:bJ->Bool}(k:cQ s E a)(hi:ai[i]? = some o)
  (d:Yields P pf ai o s v H') {K:Act->bh->Prop} {Q:Exit->Act->bh->Prop} (hK:∀a' w',iH E (s.put o.dst v H') a' w'->K a' w') (ro:Option Nat):wpOpIn (fz ro) 0 P ai Q i K a E.w:=by
 have U:=k.eval;have hH:=k.H;have N:∀{u:ar} {w':bh},dP E v H' u w'->K (a.put o.dst u) w':=by
  rintro u w' ⟨loc',r',h1,h2,O⟩;exact hK _ _ ⟨loc',r',⟨rfl,Kx k.fr O o.dst h1,by rw[put_defers]; exact Bf k.heap O k.defers,h2⟩,O⟩
 have pure':H'=s.H->∀{u:ar} {w':bh},kM E v u w'->dP E v H' u w':=by
  intro e u w' hp;have:=hp.toOp k.heap;rw[hH,<-e]at this;exact this
 have enterOk:(fz ro).depth.isSome=true->1<=0:=fun h=>by cases h
 unfold wpOpIn;simp only[hi];unfold Yields at d;split at d
 ·cases d
 ·rename_i hw
  rw[Qg k hw];simp only[Bool.false_eq_true,if_false];obtain⟨rfl,e⟩:=d;refine⟨fun _ _=>trivial,N ?_⟩;rw[e,<-hH];exact⟨E.ae,E.X.r,by simp only[ad]; exact⟨#[],rfl,by simp[aw]⟩,k.heap,ah.le.refl E⟩
 ·rename_i hw
  rw[Qg k hw];simp only[if_true];split at d
  ·obtain⟨e,d⟩:=d
   rcases d with d|⟨f,args,h1,h2,O⟩
   ·have M:∀c,o.op≠.defer c:=fun c e=>by rw[e]at d; cases d
    obtain⟨u,w',y,I⟩:=abo k.heap U d;unfold s9;rw[rF _ _ _ M,y];exact⟨fun _ _=>trivial,N (pure' e I)⟩
   ·have M:∀c,o.op≠.defer c:=fun c e=>by rw[e]at h1; cases h1
    obtain⟨cargs,y,I⟩:=Ku U h1 h2;unfold s9;rw[rF _ _ _ M,y];refine⟨fun _ _=>trivial,enterOk,Ky ((O s.H E cargs hH k.heap I).mono ?_)⟩
    grind
  ·obtain⟨e,d⟩:=d
   rw[<-hH]at d;have M:∀c,o.op≠.defer c:=fun c e=>by rw[e]at d; cases d
   obtain⟨u,y,I⟩:=abu k.heap U d;unfold s9;rw[rF _ _ _ M,y];exact⟨fun _ _=>trivial,N (pure' e (kM.same I))⟩
  ·rcases d with (d | ⟨f,args,h1,h2,O⟩) | (⟨t,id,m,ho,d⟩ | ⟨t,id,ho,d⟩) | d
   ·have M:∀c,o.op≠.defer c:=fun c e=>by rw[e]at d; cases d
    rw[<-hH]at d;obtain⟨n,u,w',y,I,W⟩:=abp k.heap U d;unfold s9;rw[rF _ _ _ M,y];rcases I with rfl|⟨rfl,rfl⟩
    ·exact⟨fun _ _=>trivial,N W⟩
    ·exact⟨fun _ _=>trivial,N W⟩
   ·have M:∀c,o.op≠.defer c:=fun c e=>by rw[e]at h1; cases h1
    obtain⟨cargs,y,I⟩:=Ku U h1 h2;unfold s9;rw[rF _ _ _ M,y];refine⟨fun _ _=>trivial,enterOk,Ky ((O E cargs hH k.heap I).mono ?_)⟩
    grind
   ·rw[<- hH]at d
    obtain⟨u,w',y,I⟩:=aaB k.heap d;unfold s9;obtain⟨dst,op,type,pos,after,guard⟩:=o;simp only[]at ho;subst ho;have W:(execOp a.eval ⟨dst,.alloc t,type,pos,after,guard⟩).run P E.w=.ok (.value u) w':=oV y;rw[rF _ _ _ (fun c e=>by cases e),W];exact⟨fun _ _=>trivial,N I⟩
   ·rw[<- hH]at d
    obtain⟨u,w',y,I⟩:=aaN (P:=P) (t:=t) k.heap d;unfold s9;obtain⟨dst,op,type,pos,after,guard⟩:=o;simp only[]at ho;subst ho;have W:(execOp a.eval ⟨dst,.makeMap t none,type,pos,after,guard⟩).run P E.w=.ok (.value u) w':=oV y;rw[rF _ _ _ (fun c e=>by cases e),W];exact⟨fun _ _=>trivial,N I⟩
   ·have M:∀c,o.op≠.defer c:=fun c e=>by rw[e]at d; exact d
    rw[<-hH]at d;obtain⟨w',y,I⟩:=abx k.heap U d;unfold s9;rw[rF _ _ _ M,y];exact⟨fun _ _=>trivial,N I⟩
def gX(P:ak)(pf:bJ->Bool)(ai:Array aQ):List aQ->St->St->Prop
 |[],s,s'=>s'=s
 |o::d,s,s'=>∃v H',Yields P pf ai o s v H'/\gX P pf ai d (s.put o.dst v H') s'
theorem iH.after{d:Act}(h:E.le E')(h':iH E' s' d w'):iH E s' d w':=by
 obtain⟨k,v,y,I⟩:=h';refine⟨k,v,?_,?_⟩
 ·rw[<-XS.O5 h.X]; exact y
 ·rw[<-XS.O5 h.X]; exact h.trans I
theorem iH.refl{s:St}{E:ah}{a:Act}(h:cQ s E a):iH E s a E.w:=by
 obtain⟨w,H,ae,X⟩:=E;have:=h.H;simp only at this;subst this;exact⟨ae,X.r,h,ah.le.refl _⟩
theorem KA{P:ak}{pf:bJ->Bool}{ai:Array aQ}{Q:Exit->Act->bh->Prop}:∀(l:List aQ) (k:Nat) (s s':St) (E:ah) (a:Act),
  l=ai.toList.drop k->gX P pf ai l s s'->cQ s E a->(∀y w',iH E s' y w'->Q .normal y w')->∀d:Option Nat,wpOpsIn (fz d) 0 P ai Q (List.range' k l.length) a E.w
 |[],k,s,s',E,a,_,h,I,M,d=>by
  simp only[gX]at h;subst h;exact M _ _ (iH.refl I)
 |o::l,k,s,s',E,a,N,h,I,M,d=>by
  obtain⟨v,H',hy,O⟩:=h;simp only[cz,List.range'_succ];rw[wpOpsIn_cons];have hk:ai[k]?=some o:=by
   have:(ai.toList.drop k)[0]?=some o:=by rw[<-N]; rfl
   grind
  refine Kz I hk hy (fun y w' hc=>?_) d;obtain⟨U,r',h1,h2⟩:=hc;refine KA l (k+1) _ s' { w:=w',H:=H',ae:=U,X:=E.X.re r' } y ?_ O h1 (fun a2 w2 W=>M a2 w2 ?_) d
  ·rw[<-xA,<-N]; rfl
  ·exact iH.after h2 W
def waits(ai:Array aQ):Nat->Nat->Nat->Bool
 |0,_,_=>false
 |n+1,j,i=>match ai[j]? with
  |some o=>o.after.toList.any fun e=>ON .any e&&(e.on==i||waits ai n e.on i)
  |none=>false
def gD:Op->Bool
 |.alloc _=>true
 |.makeMap _ none=>true
 |_=>false
def rX(pf:bJ->Bool)(x y:aQ):Bool:=
 match ed pf x.op,ed pf y.op with
 |.pure,_|_,.pure | .read,.read=>true
 |.read,.write=>gD y.op
 |_,_=>false
def yg(pf:bJ->Bool)(ai:Array aQ):Bool:=
  ar9 ai &&
  (fm ai.size).all fun j=>(match ai[j]? with
    |some d=>(d.after.toList.all fun e => !ON .any e||e.on<j) &&
      ((fm j).all fun i=>match ai[i]? with
        |some h=>waits ai ai.size j i||(h.apart ai d&&d.apart ai h&&rX pf h d)
        |none=>true)
    |none=>true)
def yh(P:ak)(pf:bJ->Bool)(ai:Array aQ)(i:Nat)(K:St->Prop)(s:St):Prop:=
 match ai[i]? with
 |none=>K s
 |some o=>∃v H',Yields P pf ai o s v H'/\K (s.put o.dst v H')
def yk(P:ak)(pf:bJ->Bool)(ai:Array aQ)(s':St):Nat->Array Bool->St->Prop
 |0,d,s=>pN .any ai d=[]/\s=s'
 |h+1,d,s=>(pN .any ai d=[]->s=s')/\∀i∈pN .any ai d,yh P pf ai i (yk P pf ai s' h (d.setIfInBounds i true)) s
theorem Fi{P:ak}{pf:bJ->Bool}{ai:Array aQ}{s':St}{Q:Exit->Act->bh->Prop}:∀(d:Nat) (N:Array Bool) (s:St) (E:ah) (a:Act),
  cQ s E a->yk P pf ai s' d N s->(∀M w',iH E s' M w'->Q .normal M w')->∀k:Option Nat,wpAnyIn (fz k) 0 P .any ai Q d N a E.w
 |0,_,s,E,a,y,h,I,_=>⟨h.1,I _ _ (h.2▸iH.refl y)⟩
 |d+1,N,s,E,a,y,h,I,k=>by
  refine⟨fun h0=>I _ _ (h.1 h0▸iH.refl y),fun i hi=>?_⟩;have h1:=h.2 i hi;unfold yh at h1;cases ho:ai[i]? with
  |none=>
   rw[ho]at h1;unfold wpOpIn;simp only[ho];exact Fi d _ s E a y h1 I k
  |some o=>
   rw[ho]at h1;obtain⟨v,H',W,hK⟩:=h1;refine Kz y ho W (fun M w' hc=>?_) k;obtain⟨O,r',g1,g2⟩:=hc;exact Fi d _ _ { w:=w',H:=H',ae:=O,X:=E.X.re r' } M g1 hK (fun a2 w2 U=>I a2 w2 (iH.after g2 U)) k
theorem aby{t:Tmp}(h:Operand.tmp t∈o.op.operands):t∈o.looksAt ai:=
 List.mem_append_left _ (List.mem_filterMap.2 ⟨.tmp t,by simpa using h,rfl⟩)
theorem asS{fr:List AV}{d t:Nat}(h:d≠t):(fr.set d v).getD t .undef=fr.getD t .undef:=by
 simp[List.getD_eq_getElem?_getD,bL h]
theorem eval_put{dst:Option Tmp}(h:∀ d,dst=some d->d∉o.looksAt ai){x:cM}(k:x∈o.op.operands):
  (s.put dst v H').eval x=s.eval x:=by
 cases dst with
 |none=>cases x<;>rfl
 |some d=>
  cases x with
  |tmp t=>
   grind[aby,St.eval,St.put,nr]
  |_=>rfl
theorem Fj{fr:List AV}{dst:Option Tmp}(h:∀ d,dst=some d->d∉o.looksAt ai):
  cX ai (nr fr dst v) o=cX ai fr o:=by
 cases dst with
 |none=>rfl
 |some d=>
  unfold cX;cases I:o.guard with
  |none=>rfl
  |some k=>
   obtain⟨g,y⟩:=k;simp only[];cases M:(ai[g]?).bind (·.dst)with
   |none=>rfl
   |some t=>
    grind[Oper.looksAt,nr]
theorem abz(fr:List AV){x y:Option Tmp}(v u:AV)(h:∀d,x=some d->y≠some d):nr (nr fr x v) y u=nr (nr fr y u) x v:=by
 cases x with
 |none=>rfl
 |some d=>
  cases y with
  |none=>rfl
  |some e=>
   grind[nr,s8]
theorem Qh(o:Op)(h:∀x∈o.operands,r x=d x):kL P r o=kL P d o:=by
 cases o<;>simp only[kL]<;>simp only[lh]at h
 case build t ps=>
  grind[oM]
 case buildSlice t n ps=>
  grind[oM]
 case makeFunc fn first captured=>
  unfold Ko
  grind[oM]
 case call c=>
  grind[Kp,oM,A6]
 case slice t x lo hi mx=>cases lo<;>cases hi<;>cases mx<;>simp_all
 all_goals grind
theorem Qi(o:Op)(h:∀x∈o.operands,r x=d x):im P r H o=im P d H o:=by
 cases o<;>simp only[im]<;>simp only[lh]at h
 case call c=>
  obtain⟨callee,args,argTypes⟩:=c;unfold tA;cases callee<;>try rfl
  split
  ·rename_i a t k ha v
   have hm:a∈args:=by
    have:a∈args.toList:=by rw[show args.toList=[a] from ha]; simp
    grind
   grind[A6]
  ·rfl
 all_goals grind
theorem Qj(o:Op)(h:∀x∈o.operands,r x=d x):eG P r H o=eG P d H o:=by
  cases o<;>simp only[eG]<;>simp only[lh]at h
  case buildSlice t n ps=>
    grind[oM]
  case call c=>
    obtain⟨callee,args,argTypes⟩:=c;unfold Fg;cases callee<;>try rfl
    rename_i b;have y:∀x,x∈args.toList->r x=d x:=fun x v=>h x (by simp[A6]; simpa using v)
    grind
  case makeMap t res=>grind
  case lookup t m k ok=>
    grind
  case mapEntry t m k=>grind
  case entryStore t m s x=>grind
  all_goals grind
theorem Qk(o:Op)(h:∀x∈o.operands,r x=d x):il r o=il d o:=by
 cases o<;>simp only[il]<;>simp only[lh]at h
 rename_i c;obtain⟨callee,args,argTypes⟩:=c;unfold Fh
 grind[A6,oM]
variable {P:ak} {pf:bJ->Bool} {ai:Array aQ}
theorem jo{s1:St}(d:cX ai s1.fr o=cX ai s.fr o)(hr:∀ x∈o.op.operands,s1.eval x=s.eval x)(hH:s1.H=s.H):
  Yields P pf ai o s1 v H'↔Yields P pf ai o s v H':=by
 unfold Yields;rw[d,hH,Qh o.op hr,Qi o.op hr,Qj o.op hr,Qk o.op hr,abw o.op hr]
theorem BB(y:ed pf o.op=.pure)(h:Yields P pf ai o s v H'):H'=s.H/\∀d,Yields P pf ai o ⟨s.fr,d⟩ v d:=by
 have key:∀d:List aj,∀x∈o.op.operands,St.eval ⟨s.fr,d⟩ x=s.eval x:=fun d x _=>by cases x<;>rfl
 unfold Yields at h;cases k:cX ai s.fr o with
 |none=>grind
 |some b=>
  rw[k]at h;cases b with
  |false=>
   simp_all[Yields]
  |true=>
   simp_all[Yields,Qh,Qk]
theorem vU(d:ed pf o.op=.read)(h:Yields P pf ai o s v H'):H'=s.H:=by
 unfold Yields at h;simp only[d]at h;split at h
 ·cases h
 ·exact h.2
 ·exact h.1
theorem abA:∀{op:Op},im P r H op=some v->im P r (H++[x]) op=some v:=by
 have get:∀{i:Nat} {y:aj},H[i]?=some y->(H++[x])[i]?=some y:=by
  intro i y h;rw[List.getElem?_append_left (List.getElem?_eq_some_iff.1 h).1];exact h
 intro op h;cases op<;>simp only[im]at h|-<;>try cases h
 case load t a=>
  unfold nm at h|-;split at h<;>grind
 case lookup t m k ok=>
  split at h
  ·rename_i M h1
   cases h;have d:jl P t (r m) (r k) ok (H++[x])=some v:=by
    unfold jl at h1|-;split at h1
    grind
    ·cases h1
   rw[d]
  ·obtain⟨d,I⟩:=P6 (H2:=H++[x]) (fun i l N O cl hi=>get hi) h
   rw[I,d]
 grind[tA]
theorem abB(I:H[id]?=some y)(M:(∃k,y=.vQ k 0 [])\/y=.eV):∀{op:Op},im P r H op=some v->im P r (H.set id x) op=some v:=by
 have get:∀{i:Nat},i≠id->(H.set id x)[i]?=H[i]?:=fun h=>bL (Ne.symm h);intro op h;cases op<;>simp only[im]at h|-<;>try cases h
 case load t a=>
  unfold nm at h|-;split at h
  ·rename_i n agg O
   split at h<;>grind
  ·cases h
 case lookup t m k ok=>
  split at h
  ·rename_i U h1
   cases h;have d:jl P t (r m) (r k) ok (H.set id x)=some v:=by
    unfold jl at h1|-;split at h1
    grind
    ·cases h1
   rw[d]
  ·obtain⟨d,N⟩:=P6 (H2:=H.set id x) (fun i l W ms cl hi=>by
    have e:i≠id:=fun e=>by
     rw[e,I]at hi;rcases M with⟨k,rfl⟩|rfl<;>cases hi
    rw[get e];exact hi) h
   rw[N,d]
 case call c=>
  unfold tA at h|-
  grind
def rY(z:List ar) (m:List (Option (List Kd))) (id:Nat) (y:aj) (v:AV) (x:aj):Prop:=
 (y=.vQ z.length 0 []/\v=.ptr id 1 z.length 0 0/\x=.vQ z.length 1 [lj m z])\/(y=.eV/\v=.ptr id 0 0 0 0/\x=.box (z.map .lit))
def BC(y:aj):Prop:=(∃k,y=.vQ k 0 [])\/y=.eV
theorem rY.hole{m:List (Option (List Kd))}(h:rY z m id y v x):BC y:=by
 rcases h with⟨rfl,_,_⟩|⟨rfl,_,_⟩
 ·exact .inl ⟨_,rfl⟩
 ·exact .inr rfl
theorem rY.full{m:List (Option (List Kd))}{d:aj}(h:rY z m id y v x)(h':BC d):x≠d:=by
 rcases h with⟨_,_,rfl⟩|⟨_,_,rfl⟩<;>rcases h' with⟨k,rfl⟩|rfl<;>intro e<;>cases e
theorem Ql{P:ak}{m:List (Option (List Kd))}(h:tx P t id m H=some (v,H')):
  ∃z y x,gC P t=some z/\H[id]?=some y/\rY z m id y v x/\H'=H.set id x:=by
 unfold tx at h;split at h
 ·rename_i z k I d
  split at h
  ·rename_i M
   subst M;cases h;exact⟨z,_,_,I,d,.inl ⟨rfl,rfl,rfl⟩,rfl⟩
  ·cases h
 ·rename_i z I d
  cases h;exact⟨z,_,_,I,d,.inr ⟨rfl,rfl,rfl⟩,rfl⟩
 ·cases h
theorem KB{P:ak}{m:List (Option (List Kd))}(h:gC P t=some z)(d:H[id]? = some y)(hn:rY z m id y v x):
  tx P t id m H=some (v,H.set id x):=by
 unfold tx;rw[h,d];rcases hn with⟨rfl,rfl,rfl⟩|⟨rfl,rfl,rfl⟩<;>grind
theorem Qm{h:aQ}{u:AV}{Hi d:List aj}(h1:I.apart ai h=true)(_h2:h.apart ai I=true)(M:rX pf I h=true)
  (hi:Yields P pf ai I s v Hi) (hj:Yields P pf ai h (s.put I.dst v Hi) u d) :
  ∃Hj1,Yields P pf ai h s u Hj1/\Yields P pf ai I (s.put h.dst u Hj1) v d:=by
 obtain⟨a1,a2,a3⟩:=OO h1;have wj:cX ai (s.put I.dst v Hi).fr h=cX ai s.fr h:=Fj a1;have wi:∀O,cX ai (s.put h.dst u O).fr I=cX ai s.fr I:=fun O=>Fj a3;have ej:∀x∈h.op.operands,(s.put I.dst v Hi).eval x=s.eval x:=fun x N=>eval_put a1 N;have ei:∀O,∀x∈I.op.operands,(s.put h.dst u O).eval x=s.eval x:=fun O x N=>eval_put a3 N;unfold rX at M;split at M
 ·-- I only computes
  rename_i W;obtain⟨U,g1⟩:=BB W hi;subst U;refine⟨d,(jo wj ej rfl).1 hj,?_⟩;exact(jo (s1:=s.put h.dst u d) (s:=⟨s.fr,d⟩) (wi d) (fun x N=>by rw[ei d x N]; cases x<;>rfl) rfl).2 (g1 d)
 ·-- h only computes
  rename_i hcj _;obtain⟨U,g1⟩:=BB hcj hj;have e1':d=Hi:=U;subst e1';refine⟨s.H,?_,?_⟩
  ·have:=g1 s.H
   exact(jo (s1:=⟨(s.put I.dst v d).fr,s.H⟩) (s:=s) wj (fun x N=>by
    have:=ej x N;cases x<;>exact this) rfl).1 this
  ·exact(jo (s1:=s.put h.dst u s.H) (s:=s) (wi s.H) (ei s.H) rfl).2 hi
 ·rename_i W hcj
  have U:=vU W hi;subst U;have e2:=vU hcj hj;have e2':d=s.H:=e2;subst e2';exact⟨s.H,(jo wj ej rfl).1 hj,(jo (s1:=s.put h.dst u s.H) (s:=s) (wi s.H) (ei s.H) rfl).2 hi⟩
 ·rename_i W hcj
  have U:=vU W hi;subst U;have hj':=(jo wj ej rfl).1 hj;refine⟨d,hj',?_⟩;have hpush:d=s.H\/(∃x,d=s.H++[x])\/∃id y x,s.H[id]?=some y/\((∃k,y=.vQ k 0 [])\/y=.eV)/\d=s.H.set id x:=by
   unfold Yields at hj';simp only[hcj]at hj';split at hj'
   grind
   grind
   ·rcases hj' with (hj' | ⟨f,args,h1,_⟩) | (⟨t,id,m,ho,hv⟩ | ⟨t,id,ho,hv⟩) | hst
    ·unfold gD at M
     grind[eG,vH]
    ·unfold gD at M
     split at M
     ·rename_i t ho
      rw[ho]at h1;cases h1
     ·rename_i t ho
      rw[ho]at h1;cases h1
     ·cases M
    ·obtain⟨z,y,x,_,h2,hn,h3⟩:=Ql hv
     exact .inr (.inr ⟨id,y,x,h2,hn.hole,h3⟩)
    ·obtain⟨h1,_,h3⟩:=Ka hv
     grind
    ·unfold gD at M
     split at M
     ·rename_i t ho
      rw[ho]at hst;exact hst.elim
     ·rename_i t ho
      rw[ho]at hst;exact hst.elim
     ·cases M
  refine(jo (s1:=s.put h.dst u d) (s:=⟨s.fr,d⟩) (wi d) (fun x N=>by rw[ei d x N]; cases x<;>rfl) rfl).2 ?_;have key:∀O:List aj,St.eval ⟨s.fr,O⟩=s.eval:=fun O=>by funext x; cases x<;>rfl
  unfold Yields at hi|-;simp only[W]at hi|-;cases hw:cX ai s.fr I with
  |none=>grind
  |some b=>
   rw[hw]at hi;cases b with
   |false=>omega
   |true=>
    refine⟨au,?_⟩
    grind[abA,abB]
 ·cases M
def KC(ai:Array aQ)(d:Array Bool)(j:Nat):Prop:=
 ∀o,ai[j]?=some o->∀e∈o.after,ON .any e=true->d.getD e.on false=true
def vV(ai:Array aQ)(d:Array Bool):Prop:=∀j,d.getD j false=true->KC ai d j
theorem KD{d:Array Bool}(k:vV ai d):∀(n j i:Nat),KC ai d j->waits ai n j i=true->d.getD i false=true
 |0,_,_,_,h=>by simp[waits]at h
 |n+1,j,i,y,h=>by
  unfold waits at h;split at h
  ·rename_i o ho
   rw[pO]at h;obtain⟨e,he,hb⟩:=h;simp only[aO,vm,beq_iff_eq]at hb;have v:=y o ho e (by simpa using he) hb.1;rcases hb.2 with rfl|I
   ·exact v
   ·exact KD k n e.on i (k _ v) I
  ·cases h
theorem KE{d:Array Bool}(h:j∈pN .any ai d):KC ai d j:=by
 obtain⟨_,o,ho,k⟩:=mem_ready.1 h;intro o' v
 grind
theorem Fk{d:Array Bool}(y:vV ai d)(I:j∈pN .any ai d):vV ai (d.setIfInBounds j true):=by
 intro k M o ho e he hb;by_cases v:j=k
 ·subst v
  exact getD_set_true (KE I o ho e he hb)
 ·have:d.getD k false=true:=by
   have h:=M;simp[Array.getElem?_setIfInBounds_ne v]at h
   simp_all
  exact getD_set_true (y k this o ho e he hb)
theorem Qn(s:St)(x y:Option Tmp)(v u:AV)(H1 k I:List aj)(h:∀d,x=some d->y≠some d):(s.put x v H1).put y u k=(s.put y u I).put x v k:=by
 simp only[St.put,abz s.fr v u h]
theorem Qo{d:Array Bool}(h:i∈pN .any ai d):d.getD i false=false:=by
 obtain⟨h0,_⟩:=mem_ready.1 h
 grind
theorem abC(hi:ai[i]?=some I):∀(N:Nat) (d:Array Bool) (s:St) (v:AV) (H':List aj),vV ai d ->
  (∀j y,ai[j]?=some y->j≠i->d.getD j true=false->waits ai ai.size j i=false->I.apart ai y=true/\y.apart ai I=true/\rX pf I y=true) ->
  i∈pN .any ai d->Yields P pf ai I s v H'->yk P pf ai s' N (d.setIfInBounds i true) (s.put I.dst v H')->yk P pf ai s' (N+1) d s:=by
 intro N
 induction N with
 |zero=>
  intro d s v H' _ _ hr hy H;refine⟨fun h=>(by rw[h]at hr; cases hr),fun j M=>?_⟩;by_cases O:j=i
  grind[yh]
  ·have:=ready_mono M O
   rw[H.1]at this;cases this
 |succ N ih=>
  intro d s v H' W U hr hy H;refine⟨fun h=>(by rw[h]at hr; cases hr),fun j M=>?_⟩;by_cases O:j=i
  grind[yh]
  ·have h1:=H.2 j (ready_mono M O)
   obtain⟨hjun,y,hoj,hall⟩:=mem_ready.1 M;unfold yh at h1|-;simp only[hoj]at h1|-;obtain⟨u,Hj,hyj,hrest⟩:=h1;have hnw:waits ai ai.size j i=false:=by
    cases hw:waits ai ai.size j i with
    |false=>rfl
    |true=>
     have:=KD W _ _ _ (KE M) hw
     grind[Qo]
   obtain⟨a1,a2,a3⟩:=U j y hoj O hjun hnw;obtain⟨Hj1,q1,q2⟩:=Qm a1 a2 a3 hy hyj;refine⟨u,Hj1,q1,?_⟩;refine ih (d.setIfInBounds j true) (s.put y.dst u Hj1) v Hj (Fk W M) ?_ (ready_mono hr (Ne.symm O)) q2 ?_
   ·intro k ok hk hki hun hno
    refine U k ok hk hki ?_ hno;by_cases hjk:j=k<;>simp_all
   grind[ar_,Qn,OO]
theorem Qp{s':St}(hB:yg pf ai=true):∀(l:List aQ) (k:Nat) (d:Array Bool) (s:St),l=ai.toList.drop k->vV ai d->d.size=ai.size ->
  (∀j,j<ai.size->(d.getD j true=false↔k<=j))->gX P pf ai l s s'->yk P pf ai s' l.length d s
 |[],k,d,s,M,_,U,y,h=>by
  simp only[gX]at h;refine⟨?_,h.symm⟩;apply ar'.2;intro j hj;obtain⟨h0,o,ho,_⟩:=mem_ready.1 hj;have I:j<ai.size:=(kh.1 ho).1;have:=(y j I).1 h0;have hlen:(ai.toList.drop k).length=0:=by rw[<-M]; rfl
  grind
 |o::l,k,d,s,M,W,U,y,h=>by
  obtain⟨v,H',hy,hrest⟩:=h;have h0:ai[k]?=some o:=by
   have:(ai.toList.drop k)[0]?=some o:=by rw[<-M]; rfl
   grind
  have I:k<ai.size:=(kh.1 h0).1;simp only[yg,aO,eD,iQ]at hB;obtain⟨_,O⟩:=hB;have hlistedlt:∀j,j<k->d.getD j false=true:=by
   intro j hj;have hn:¬ (d.getD j true=false):=fun e=>by have:=(y j ab).1 e; omega
   have:j<d.size:=ab;simp[this]at hn|-;exact hn
  have N:k∈pN .any ai d:=by
   refine mem_ready.2 ⟨(y k I).2 (aV _),o,h0,fun e he hb=>?_⟩;have:=O k I;rw[h0]at this;simp only[aO,eD]at this;have h1:=this.1 e (by simpa using he);simp only[hb,Ji,xF,dT]at h1
   grind
  refine abC h0 l.length d s v H' W ?_ N hy ?_
  grind
  ·refine Qp (by simp only[yg,aO,eD,iQ]; exact⟨‹_›,O⟩) l (k+1) _ _ ?_ (Fk W N) (by simpa using U) ?_ hrest
   ·rw[<-xA,<-M]; rfl
   ·intro j hjlt
    by_cases e:k=j
    simp_all
    ·rw[getD_set_ne true e,y j hjlt]
     omega
theorem abD(hm:P.follows .mixedOrders=true)(hB:yg pf ai=true)(d:cQ s E a)
  (h:gX P pf ai ai.toList s s') (M:∀k w',iH E s' k w'->Q .normal k w'):∀v:Option Nat,(Code.region id ai true).wpIn (fz v) 0 P Q a E.w:=by
 intro v;have I:cQ s { E with w:={ E.w with drawn:=E.w.drawn+1 } } a:=⟨d.H,eX (ah.lN (Ext.drawn E.w _)) _ d.fr,Bf d.heap (ah.lN (Ext.drawn E.w _)) d.defers,d.heap.ext (Ext.drawn E.w _)⟩
 refine wpIn_region_any hm (Fi (pf:=pf) _ _ s { E with w:={ E.w with drawn:=E.w.drawn+1 } } a I ?_ (fun k w' N=>M k w' (iH.after (ah.lN (Ext.drawn E.w _)) N)) v);have:=Qp (P:=P) (s':=s') hB ai.toList 0 (rG ai.size false) s au (by
  intro j y;exfalso;rcases nU j ai.size with h'|h'
  simp_all
  ·simp[asa (xs:=rG ai.size false) (by simpa using h')]at y) au (by intro j y; simp[y]) h
 omega
theorem abE(v:cQ s E a)
  (h:gX P pf ai ai.toList s s') (y:∀k w',iH E s' k w'->Q .normal k w'):∀d:Option Nat,(Code.region id ai false).wpIn (fz d) 0 P Q a E.w:=by
 intro d;refine wpIn_region ?_;have:=KA (Q:=Q) ai.toList 0 s s' E a au h v y d
 grind[List.range_eq_range']
inductive cu where
 |normal
 |exit (id:Nat)
 |ret
 deriving DecidableEq
def cu.toExit:cu->Exit
 |.normal=>.normal
 |.exit id=>.exit id
 |.ret=>.ret
structure ah.fX (m:Nat) (E E':ah):Prop where
 bF:∀id,id<m->E.bF id 0->E'.bF id 0
 size:E.w.heap.size<=E'.w.heap.size
 same:∀b,b<E.w.heap.size->¬ E.af b->E'.w.heap[b]?=E.w.heap[b]?
 af:∀b,b<E.w.heap.size->¬ E.af b->¬ E'.af b
 live:∀id,id<m->E.bF id 0->E'.live id 0->E.live id 0/\E'.ae[id]?=E.ae[id]?
 X:∀b,b<E.w.heap.size->(E'.X b↔E.X b)/\(E'.X.z b↔E.X.z b)
 rl:∀l h,h<(E.X.r l).length->h<(E'.X.r l).length/\∀q,(E'.X.r l)[h]?=some (some q)->(E.X.r l)[h]?=some (some q)
 env:fl E.w E'.w
 grow:∀id,id<m->∀l o,E.H[id]?=some o->o.eS=some l->E'.live id 0->(∃t,E'.X.r l=E.X.r l++t)/\∃o',E'.H[id]?=some o'/\o'.eS=some l
theorem ah.le.toM(h:E.le E'):E.fX m E':=⟨fun id _ d=>h.bF id 0 d,h.size,h.same,h.af,fun id _ d k=>h.live id 0 d k,fun b _=>by rw[show E'.X.x=E.X.x from h.X.1,show E'.X.z=E.X.z from h.X.2]; grind,h.rl,h.env,fun id _ l o h1 v y=>h.grow id l o h1 v y⟩
def Fl(H:List aj):Prop:=∀o∈H,o.aX=some 0
theorem ah.fX.full(h:E.fX m E')(hX:E'.X.x=E.X.x/\E'.X.z=E.X.z)(hm:E.H.length<=m)(v:Fl E.H):E.le E':=by
 have key:∀id aq,E.bF id aq->id<m/\aq=0:=by
  rintro id aq ⟨o,ho,y⟩;have h1:=bl ho;have k:=y.2 0 (v o (List.mem_of_getElem? ho));omega
 refine⟨fun id aq d=>?_,h.size,h.same,h.af,fun id aq d I=>?_,hX,h.rl,h.env,fun id l o h1 k M=>h.grow id (fD (bl h1) hm) l o h1 k M⟩
 ·obtain⟨h1,rfl⟩:=key id aq d
  exact h.bF id h1 d
 ·obtain⟨h1,rfl⟩:=key id aq d
  exact h.live id h1 d I
theorem ah.fX.trans{m:Nat}{E E' M:ah}(h:E.fX m E')(h':E'.fX m M):E.fX m M where
 bF:=fun id hi d=>h'.bF id hi (h.bF id hi d)
 size:=Nat.le_trans h.size h'.size
 same:=fun b hb ho=>by rw[h'.same b (fD hb h.size) (h.af b hb ho),h.same b hb ho]
 af:=fun b hb ho=>h'.af b (fD hb h.size) (h.af b hb ho)
 live:=fun id hi N U=>by
  obtain⟨k,W⟩:=h'.live id hi (h.bF id hi N) U;obtain⟨b1,b2⟩:=h.live id hi N k
  grind
 X:=fun b hb=>by
  have h1:=h'.X b (fD hb h.size);have y:=h.X b hb
  grind
 rl:=fun l i hi=>by
  obtain⟨k,W⟩:=h.rl l i hi;obtain⟨b1,b2⟩:=h'.rl l i k
  grind
 env:=h.env.trans h'.env
 grow:=fun id hi l o h1 y I=>by
  have d:E.bF id 0:=⟨o,h1,aj.JB y,fun v I=>Nat.zero_le _⟩
  obtain⟨O,_⟩:=h'.live id hi (h.bF id hi d) I;obtain⟨⟨t,ht⟩,o',g1,g2⟩:=h.grow id hi l o h1 y O;obtain⟨⟨t',ht'⟩,o'',g3,g4⟩:=h'.grow id hi l o' g1 g2 I
  grind
def ft(m:Nat)(E:ah)(s':St)(k:Act)(w':bh):Prop:=
 ∃d h,cQ s' { w:=w',H:=s'.H,ae:=d,X:=h } k/\E.fX m { w:=w',H:=s'.H,ae:=d,X:=h }
theorem iH.toM{m:Nat}{E:ah}{s':St}{a:Act}{w:bh}(h:iH E s' a w):ft m E s' a w:=let ⟨ae,r,h1,d⟩:=h; ⟨ae,E.X.re r,h1,d.toM⟩
theorem ft.after{d:Act}(h:E.fX m E')(h':ft m E' s' d w'):ft m E s' d w':=by
 obtain⟨k,v,h1,y⟩:=h';exact⟨k,v,h1,h.trans y⟩
theorem ft.refl{m:Nat}{s:St}{E:ah}{a:Act}(h:cQ s E a):ft m E s a E.w:=(iH.refl h).toM
def jq:Code->Bool
 |.seq a b=>jq a&&jq b
 |.cond _ a b=>jq a&&jq b
 |.block _ c=>jq c
 |.loop c=>jq c
 |.scope c=>jq c
 |.rangeFunc ..=>false
 |_=>true
def iW(d:Option Nat)(c:Code):Prop:=d=none\/jq c=true
theorem iW.seq1{d:Option Nat}{a b:Code}(h:iW d (.seq a b)):iW d a:=h.imp id fun h=>by
 have h:(jq a&&jq b)=true:=h;exact(aO _ _▸h).1
theorem iW.Fm{d:Option Nat}{a b:Code}(h:iW d (.seq a b)):iW d b:=h.imp id fun h=>by
 have h:(jq a&&jq b)=true:=h;exact(aO _ _▸h).2
theorem iW.cond{d:Option Nat}{o:cM}{a b:Code}(t:Bool)(h:iW d (.cond o a b)):iW d (if t then a else b):=h.imp id fun h=>by
 have h:(jq a&&jq b)=true:=h
 grind
theorem iW.block{d:Option Nat}{i:Nat}{a:Code}(h:iW d (.block i a)):iW d a:=h
theorem iW.loop{d:Option Nat}{a:Code}(h:iW d (.loop a)):iW d a:=h
theorem Fo(c:Code):iW none c:=.inl rfl
def dU(P:ak)(m:Nat)(c:Code)(s:St)(x:cu)(s':St):Prop:=
 ∀(d:Option Nat),iW d c->∀(E:ah) (a:Act),cQ s E a->c.wpIn (fz d) 0 P (fun e h k=>e=x.toExit/\ft m E s' h k) a E.w
def bO(m:Nat)(s s':St):Prop:=∀(E:ah) (a:Act),cQ s E a->ft m E s' a E.w
theorem bO.refl{m:Nat}(s:St):bO m s s:=fun _ _ h=>ft.refl h
theorem bO.trans{s1 s2:St}(h:bO m s s1)(h':bO m s1 s2):bO m s s2:=fun E a d=>by
 obtain⟨ae,X,h1,k⟩:=h E a d;exact ft.after k (h' _ a h1)
theorem ft.weaken(h:ft m E s a w)(d:bO m s s'):ft m E s' a w:=by
 obtain⟨ae,X,h1,k⟩:=h;exact ft.after k (d _ a h1)
section rules
variable {P:ak} {m:Nat} {s s' s1:St} {x:cu}
theorem ym(d:bO m s s1)(h:dU P m c s1 x s'):dU P m c s x s':=fun k ho E a v=>by
 obtain⟨ae,X,h1,y⟩:=d E a v;exact wpIn_mono (h k ho { w:=E.w,H:=s1.H,ae:=ae,X:=X } a h1) fun e N O ⟨I,M⟩=>⟨I,ft.after y M⟩
theorem yn(h:dU P m c s x s1)(d:bO m s1 s'):dU P m c s x s':=fun k ho E a v=>
 wpIn_mono (h k ho E a v) fun _ _ _ ⟨y,I⟩=>⟨y,I.weaken d⟩
theorem abF:dU P m .skip s .normal s:=fun _ _ _ _ d=>wpIn_skip ⟨rfl,ft.refl d⟩
theorem abG:dU P m .ret s .ret s:=fun _ _ _ _ d=>wpIn_ret ⟨rfl,ft.refl d⟩
theorem abH:dU P m (.exit id) s (.exit id) s:=fun _ _ _ _ d=>wpIn_exit ⟨rfl,ft.refl d⟩
theorem abI{pf:bJ->Bool}{ai:Array aQ}{d:Bool}(hm:P.follows .mixedOrders=true)(I:d=true->yg pf ai=true)(h:gX P pf ai ai.toList s s'):
  dU P m (.region id ai d) s .normal s':=fun v ho E a y=>by
 cases d with
 |false=>exact abE y h (fun M w' k=>⟨rfl,k.toM⟩) v
 |true=>exact abD hm (I rfl) y h (fun M w' k=>⟨rfl,k.toM⟩) v
theorem Qq{d:Code}(h:dU P m c s .normal s1)(h':dU P m d s1 x s'):dU P m (.seq c d) s x s':=fun k ho E a v=>
 wpIn_seq (wpIn_mono (h k ho.seq1 E a v) fun e y w1 ⟨I,M⟩=>by
  subst I;obtain⟨ae,X,N,O⟩:=M;exact wpIn_mono (h' k ho.Fm _ y N) fun _ _ _ ⟨U,W⟩=>⟨U,ft.after O W⟩)
theorem Qr{d:Code}(h:dU P m c s x s')(M:x≠.normal):dU P m (.seq c d) s x s':=fun v ho E a y=>
 wpIn_seq (wpIn_mono (h v ho.seq1 E a y) fun e N O ⟨I,k⟩=>by
  subst I;cases x with
  |normal=>grind
  |exit id=>exact⟨rfl,k⟩
  |ret=>exact⟨rfl,k⟩)
theorem Qs{o:cM}{d:Code}{b:Bool}(hb:s.eval o=.lit (.bool b))(h:dU P m (if b then c else d) s x s'):dU P m (.cond o c d) s x s':=fun v ho E a k=>by
 have:=k.eval o;rw[hb]at this;simp only[ad]at this;exact wpIn_cond this (h v (ho.cond b) E a k)
def cu.inBlock(id:Nat):cu->cu
 |.exit i=>if i=id then .normal else .exit i
 |x=>x
theorem abJ(h:dU P m c s x s'):dU P m (.block id c) s (x.inBlock id) s':=fun k ho E a v=>
 wpIn_block (wpIn_mono (h k ho E a v) fun e I M ⟨y,d⟩=>by
  subst y;cases x with
  |normal=>exact⟨rfl,d⟩
  |exit i=>
   grind[cu.toExit,Exit.inBlock,cu.inBlock]
  |ret=>exact⟨rfl,d⟩)
def yo(P:ak)(m:Nat)(c:Code):Nat->St->cu->St->Prop
 |0,s,x,s'=>x≠.normal/\dU P m c s x s'
 |n+1,s,x,s'=>∃s1,dU P m c s .normal s1/\yo P m c n s1 x s'
def oW(P:ak)(m:Nat)(c:Code)(s:St)(x:cu)(s':St):Prop:=∃n,yo P m c n s x s'
theorem oW.stop(h:dU P m c s x s')(d:x≠.normal):oW P m c s x s':=⟨0,d,h⟩
theorem oW.next(h:dU P m c s .normal s1)(h':oW P m c s1 x s'):oW P m c s x s':=let ⟨n,hn⟩:=h'; ⟨n+1,s1,h,hn⟩
theorem oW.pre(d:bO m s s1)(h:oW P m c s1 x s'):oW P m c s x s':=by
 obtain⟨n,hn⟩:=h;cases n with
 |zero=>exact⟨0,hn.1,ym d hn.2⟩
 |succ n=>
  obtain⟨s2,h1,k⟩:=hn;exact⟨n+1,s2,ym d h1,k⟩
theorem Qt(h:oW P m c s x s'):dU P m (.loop c) s x s':=fun W ho E a hs b k cs hro hb hr=>by
 obtain⟨n,hn⟩:=h;have key:∀(n:Nat) (s1:St) (d:ah) (a:Act),cQ s1 d a->E.fX m d->yo P m c n s1 x s' ->
   ∃e y w',(e=x.toExit/\ft m E s' y w')/\ArrivesIn (Machine.fenced P (fz W)) P (lone (b.atR a (.code c::.inLoop c::k)) cs d.w) b k cs e y w':=by
  intro n
  induction n with
  |zero=>
   intro s1 d a O U M;obtain⟨hx,N⟩:=M;obtain⟨e,a1,w1,⟨I,h4⟩,v⟩:=N W ho.loop d a O b (.inLoop c::k) cs hro hb hr;refine⟨e,a1,w1,⟨I,ft.after U h4⟩,?_⟩;subst I;exact .pass (x:=.inLoop c) rfl (fun _ _=>.inl (by cases x<;>simp_all[cu.toExit])) v
  |succ n ih=>
   intro s1 d a O U M;obtain⟨s2,N,hrest⟩:=M;obtain⟨e,a1,w1,⟨I,ae,X,h5,h6⟩,v⟩:=N W ho.loop d a O b (.inLoop c::k) cs hro hb hr;subst I;obtain⟨e2,a2,w2,hq,harr2⟩:=ih s2 _ a1 h5 (U.trans h6) hrest;exact⟨e2,a2,w2,hq,.of_steps (StepsIn.trans v (.one (fenced_calm hb hr rfl) stepR_inLoop)) harr2⟩
 obtain⟨e,y,w',hq,v⟩:=key n s E a hs (ah.le.refl E).toM hn;exact⟨e,y,w',hq,.of_steps (.one (fenced_calm hb hr rfl) stepR_loop) v⟩
end rules
def Fp(P:ak)(s:St):ResultVar->Option AV
 |.tmp t=>some (s.fr.getD t .undef)
 |.cell a t=>nm P t (s.fr.getD a .undef) s.H
def ll(P:ak)(s:St):List ResultVar->Option (List AV)
 |[]=>some []
 |r::rs=>match Fp P s r,ll P s rs with
  |some v,some d=>some (v::d)
  |_,_=>none
def fc:List AV->AV
 |[v]=>v
 |d=>.tuple d
def KF(tmps:Array ar):ResultVar->Sem ar
 |.tmp t=>pure (tmps.getD t undef)
 |.cell a t=>do loadVar t (<- asAddr (tmps.getD a undef))
theorem abK{P:ak}(d:cQ s E a){r:ResultVar}(h:Fp P s r=some v):
  ∃u,(KF a.tmps r).run P E.w=.ok u E.w/\ad E v u:=by
 cases r with
 |tmp t=>
  simp only[Fp,bD]at h;subst h;exact⟨_,rfl,d.eval (.tmp t)⟩
 |cell x t=>
  simp only[Fp]at h;rw[<-d.H]at h;have k:=d.eval (.tmp x);simp only[St.eval,Act.eval]at k;obtain⟨u,M,y⟩:=Pg d.heap h k;refine⟨u,?_,y⟩;have I:∃b o,a.tmps.getD x undef=.pointer (some ⟨b,o,none⟩):=by
   unfold nm at h;split at h
   case h_2=>cases h
   split at h
   grind[ad]
   grind[ad]
   grind[ad]
   ·cases h
  obtain⟨b,o,e⟩:=I;show (do loadVar t (<- asAddr (a.tmps.getD x undef)):Sem ar).run P E.w=.ok u E.w
  grind[Instr.loadAt,Instr.sureAddr,asAddr]
theorem BD{P:ak}{s:St}{E:ah}{a:Act}(y:cQ s E a):∀(rs:List ResultVar) (d:List AV),ll P s rs=some d ->
  ∃k:List ar,(rs.mapM (KF a.tmps)).run P E.w=.ok k E.w/\aw E d k
 |[],d,h=>by simp[ll]at h; subst h; exact⟨[],rfl,by simp[aw]⟩
 |r::rs,d,h=>by
  simp only[ll]at h;split at h
  case h_2=>cases h
  rename_i v I h1 M;cases h;obtain⟨u,N,O⟩:=abK y h1;obtain⟨k,U,W⟩:=BD y rs I M
  simp_all[aw]
theorem BE(fn:Func)(tmps:Array ar):results fn tmps=(do let d<-fn.results.mapM (KF tmps); pure (if h:d.size=1 then d[0] else .tuple d)):=by
 unfold results;congr 1
theorem abL{P:ak}(I:cQ s E a){d:List AV}(h:ll P s fn.results.toList=some d):
  ∃u,(results fn a.tmps).run P E.w=.ok u E.w/\ad E (fc d) u:=by
 obtain⟨k,N,M⟩:=BD I fn.results.toList d h;refine⟨if h:k.toArray.size=1 then k.toArray[0] else .tuple k.toArray,?_,?_⟩
 simp_all[BE,Array.mapM_eq_mapM_toList]
 ·have y:=jh M
  cases k with
  |nil=>
   cases d with
   |nil=>simp[fc,ad,aw]
   |cons _ _=>simp at y
  |cons u k=>
   cases k with
   |nil=>
    cases d with
    |nil=>simp at y
    |cons v d=>
     cases d with
     |nil=>grind[aw,fc]
     |cons _ _=>simp at y
   |cons u2 k=>
    cases d with
    |nil=>simp at y
    |cons v d=>
     cases d with
     |nil=>simp at y
     |cons O d=>
      simp_all[fc,ad]
def gY(args:List AV)(n:Nat):List AV:=args++cn (n-args.length) .undef
theorem yp{E:ah}:∀(d:List ar),aw E (cn d.length .undef) d
 |[]=>by simp[aw]
 |_::d=>by simp only[cz,List.replicate_succ,aw,ad]; exact⟨trivial,yp d⟩
structure ln (E E':ah):Prop where
 H:E'.H=E.H
 ae:E'.ae=E.ae
 size:E.w.heap.size<=E'.w.heap.size
 same:∀b,b<E.w.heap.size->¬ E.X b->¬ E'.X b/\E'.w.heap[b]?=E.w.heap[b]?
 X:∀b,E'.X b->b<E'.w.heap.size
 r:E'.X.r=E.X.r
theorem ln.af{E E':ah}(h:ln E E')(b:Nat):E'.af b↔E.af b:=by unfold ah.af ah.sat; rw[h.ae,h.r]
theorem ln.toC(h:ln E E'):E.ct E':=
 ⟨fun b hb=>⟨⟨fD hb.1 h.size,fun ho=>hb.2.1 ((h.af b).1 ho),(h.same b hb.1 hb.2.2).1⟩,(h.same b hb.1 hb.2.2).2⟩⟩
mutual
theorem KG{E E':ah}(h:ln E E'):∀(a:AV) {c:ar},ad E a c->ad E' a c
 |.undef,_,_=>by simp[ad]
 |.lit v,c,hr=>by simpa only[ad]using hr
 |.nils,c,hr=>by simpa only[ad]using hr
 |.list k rZ,c,hr=>gk h.toC _ (by simp[AV.closed]) hr
 |.listF ks rZ,c,hr=>gk h.toC _ (by simp[AV.closed]) hr
 |.agg cells,c,hr=>by
  simp only[ad]at hr|-;obtain⟨cs,e,h1,d⟩:=hr;exact⟨cs,e,h1,r7 h cells d⟩
 |.tuple cells,c,hr=>by
  simp only[ad]at hr|-;obtain⟨cs,e,d⟩:=hr;exact⟨cs,e,r7 h cells d⟩
 |.cptr cells,c,hr=>gk h.toC _ (by simp[AV.closed]) hr
 |.ptr id aq k row y,c,hr=>by
  simp only[ad,ah.bF,ah.live,h.H,h.ae]at hr|-;exact hr
 |.vQ k id aq oF n,c,hr=>by
  simp only[ad,ah.bF,ah.live,h.H,h.ae]at hr|-;exact hr
 |.map id,c,hr=>by
  simp only[ad,ah.bF,ah.live,h.H,h.ae]at hr|-;exact hr
 |.clo f caps,c,hr=>by
  simp only[ad]at hr|-;obtain⟨cs,e,d⟩:=hr;exact⟨cs,e,r7 h caps d⟩
 |.ifc,c,hr=>by simpa only[ad]using hr
 |.emptyS n,c,hr=>by simpa only[ad]using hr
 |.sub id l j,c,hr=>by
  simp only[ad,ah.bF,ah.live,ah.O6,h.H,h.r]at hr|-;exact hr
 |.svec ..,c,hr=>by
  simp only[ad,ah.bF,ah.live,ah.xM,h.H,h.r]at hr|-;exact hr
 |.sptr ..,c,hr=>by
  simp only[ad,ah.bF,ah.live,ah.xM,h.H,h.r]at hr|-;exact hr
theorem r7{E E':ah}(h:ln E E'):∀(as:List AV) {d:List ar},aw E as d->aw E' as d
 |[],[],_=>by simp[aw]
 |[],_::_,hr=>by simp[aw]at hr
 |_::_,[],hr=>by simp[aw]at hr
 |a::as,v::d,hr=>by
  simp only[aw]at hr|-;exact⟨KG h a hr.1,r7 h as hr.2⟩
end
theorem aJ.fF(H:aJ E)(h:ln E E'):aJ E' where
 iT:=H.iT.ct h.toC
 len:=by rw[h.ae,h.H]; exact H.len
 inj:=by rw[h.ae]; exact H.inj
 lt:=fun i b m hi=>by
  rw[h.ae]at hi;have:=H.lt i b m hi;exact⟨fD this.1 h.size,(h.same b this.1 this.2).1⟩
 X:=h.X
 obj:=fun i o hi=>by
  rw[h.H]at hi;exact oO (fun a _ hr=>KG h a hr) (by rw[h.ae]) (fun b n hb=>(h.same b (H.lt i b n hb).1 (H.lt i b n hb).2).2) (fun l _=>⟨by rw[h.r],fun k g m d=>(h.same g (H.dp l k g m d).1 (H.dp l k g m d).2).2⟩) (H.obj i o hi)
 gK:=by rw[h.r]; exact H.gK
 d_:=by rw[h.r,h.ae]; exact H.d_
 dp:=fun l k b m d=>by
  rw[h.r]at d;have:=H.dp l k b m d;exact⟨fD this.1 h.size,(h.same b this.1 this.2).1⟩
 uniq:=by rw[h.H]; exact H.uniq
 jS:=by rw[h.H,h.r]; exact H.jS
theorem cQ.fF{s:St}{E E':ah}{a:Act}(d:cQ s E a)(h:ln E E'){l:List Deferred}(hm:nh E'.w E'.X l):cQ s E' { a with defers:=l }:=
 ⟨by rw[h.H]; exact d.H,r7 h _ d.fr,hm,d.heap.fF h⟩
theorem Qu{P:ak}{fn:Func}{tmps:Array ar}{R:Ending->bh->Prop}:∀(l:List Deferred) (w:bh) (X:XS),nh w X l ->
  (∀w',w'.heap.size=w.heap.size->(∀b,w'.heap[b]?≠w.heap[b]?->X b/\X.z b)->fl w w'->∃v,(results fn tmps).run P w'=.ok v w'/\R (.returned v) w')->LeavesInM (fz none) 0 P fn tmps R l .returning w
 |[],w,X,_,h=>h w rfl (fun b hb=>(hb rfl).elim) (fl.refl w)
 |d::l,w,X,hm,h=>by
  obtain⟨D,e,h1,h2,h3⟩:=hm.2 d dx;subst e;have hlt:D<w.heap.size:=(kh.1 h1).1;have M:∀b,b≠D->(w.putObj D (.deferred none)).heap[b]?=w.heap[b]?:=fun b hb=>World.putObj_heap_other hb;have N:(w.putObj D (.deferred none)).heap.size=w.heap.size:=by simp[World.putObj]
  refine⟨au,.inl ⟨D,_,rfl,run_takeDeferred h1,Qu l _ X ⟨(oL.1 hm.1).2,fun O k=>?_⟩ fun w' U g2 W=>h w' (by rw[U,N]) (fun b hb=>?_) (fl.trans ⟨rfl,rfl,rfl,by first|exact fun _=>aV _|exact fun _=>Nat.le_add_right _ _⟩ W)⟩⟩
  ·obtain⟨y,I,k1,k2,k3⟩:=hm.2 O (List.mem_cons_of_mem _ k)
   refine⟨y,I,?_,k2,k3⟩;rw[M y (fun e=>(oL.1 hm.1).1 (by rw[<-e,<-I]; exact k))];exact k1
  grind
theorem Fq{P:ak}{args:Array ar}{R:Ending->bh->Prop}(y:P.funcs[f]? = some fn)(hb:fn.body=some c)
  (h : c.wpIn (fz none) 0 P (fun e k d => (e = .normal \/ e = .ret) /\ ∃ X, nh d X k.defers /\ ∀ w', w'.heap.size = d.heap.size -> (∀ b, w'.heap[b]? ≠ d.heap[b]? -> X b /\ X.z b) -> fl d w' -> ∃ v, (results fn k.tmps).run P w' = .ok v w' /\ R (.returned v) w')
   { tmps:=args++rG (fn.ntmps-args.size) undef,defers:=[] } w):Calls P f args w R:=by
 refine(callsIn_wide (n:=0)).1 (callsIn_of_wp_marks (F:=fz none) y hb trivial (wpIn_mono h fun e k d hq=>?_));obtain⟨he,X,h1,I⟩:=hq;have:=Qu (P:=P) (fn:=fn) (tmps:=k.tmps) (R:=R) k.defers d X h1 I;rcases he with rfl|rfl
 ·exact this
 ·exact this
theorem Fs{v:List (Option (Nat × Nat))}{k:XS}{I:Act}{h:bh}(HE:aJ E)(U:cQ s' { w:=h,H:=s'.H,ae:=v,X:=k } I)
  (d:({ E with X:=⟨E.X.x,fun _=>False,E.X.r⟩ }:ah).fX m { w:=h,H:=s'.H,ae:=v,X:=k }) (h1:w'.heap.size=h.heap.size) (M:∀b,w'.heap[b]?≠h.heap[b]?->k b/\k.z b) (W:fl h w') :
  cQ s' { w:=w',H:=s'.H,ae:=v,X:=E.X.re k.r } { I with defers:=[] }/\E.fX m { w:=w',H:=s'.H,ae:=v,X:=E.X.re k.r }:=by
 have O:∀b,b<E.w.heap.size->w'.heap[b]?=h.heap[b]?:=fun b hb=>OR fun y=>((d.X b hb).2.1 (M b y).2).elim;have hsz:E.w.heap.size<=h.heap.size:=d.size;have fF:ln { w:=h,H:=s'.H,ae:=v,X:=k } { w:=w',H:=s'.H,ae:=v,X:=E.X.re k.r }:=
  ⟨rfl,rfl,by show h.heap.size<=w'.heap.size; omega,fun b hb N=>⟨fun he=>N ((d.X b (HE.X b he)).1.2 he),OR fun y=>N (M b y).1⟩,fun b hb=>by
   have:=HE.X b hb
   grind,rfl⟩
 refine⟨U.fF fF (tn _ _),⟨d.bF,by show E.w.heap.size<=w'.heap.size; omega,fun b hb ho=>?_,d.af,d.live,fun b _=>⟨Iff.rfl,Iff.rfl⟩,d.rl,d.env.trans W,d.grow⟩⟩;show w'.heap[b]?=E.w.heap[b]?
 rw[O b hb];exact d.same b hb ho
theorem vW(HE:aJ E):ln E { E with X:=⟨E.X.x,fun _=>False,E.X.r⟩ }:=⟨rfl,rfl,aV _,fun b _ d=>⟨d,rfl⟩,HE.X,rfl⟩
theorem abM{P:ak}{x:cu}{y:List AV}
  (W:P.funcs[f]?=some fn) (hb:fn.body=some c) (hs:dU P H.length c ⟨gY args fn.ntmps,H⟩ x s') (hx:x=.normal\/x=.ret) (hr:ll P s' fn.results.toList=some y) (U:Fl H) :
  fL P f args H (fc y) s'.H:=by
 intro E k hH HE v;refine Fq W hb ?_;have I:=vW HE;have v:=r7 I _ v;have N:cQ ⟨gY args fn.ntmps,H⟩ { E with X:=⟨E.X.x,fun _=>False,E.X.r⟩ } { tmps:=k++rG (fn.ntmps-k.size) undef,defers:=[] }:=by
  refine⟨hH,?_,tn _ _,HE.fF I⟩;simp only[gY,Array.toList_append,Array.toList_replicate];refine oS v ?_;have:=jh v;have e:args.length=k.size:=ab;rw[e];have:=yp (E:={ E with X:=⟨E.X.x,fun _=>False,E.X.r⟩ }) (cn (fn.ntmps-k.size) undef)
  grind
 refine wpIn_mono (hs none (Fo _) { E with X:=⟨E.X.x,fun _=>False,E.X.r⟩ } _ N) fun e a1 w1 ⟨h3,O,M,d,h⟩=>?_;refine⟨by subst h3; rcases hx with rfl|rfl; exact .inl rfl; exact .inr rfl,M,d.defers,fun w' k1 k2 k3=>?_⟩;obtain⟨d,h⟩:=Fs HE d h k1 k2 k3;obtain⟨u,g1,g2⟩:=abL d hr;have h:=h.full ⟨rfl,rfl⟩ (by rw[hH]; exact aV _) (by rw[hH]; exact U);exact⟨u,g1,u,fc y,s'.H,rfl,⟨rfl,rfl⟩,O,M.r,g2,d.heap,h⟩
theorem abN{P:ak}{H1:List aj}(h:fL P f args [] v H1)(ha:AV.cd args=true)(hv:v.closed=true):eM P f args v:=by
 intro H E U hH HE W
 let E0:ah:={ w:=E.w,H:=[],ae:=[],X:=(E.X.or E.af).re fK }
 have M:∀b,¬ E0.af b:=by rintro b (⟨id,c,hid⟩|⟨l,k,c,d⟩); grind; simp[E0,fK]at d
 have hC:E.ct E0:=⟨fun b hb=>⟨⟨hb.1,M b,fun y=>y.elim hb.2.2 hb.2.1⟩,rfl⟩⟩
 have HE0:aJ E0:=by
  refine⟨rfl,?_,?_,?_,?_,HE.iT.ct hC,fun l k l' k' b m n d=>by simp[E0,fK]at d,fun i b m l k n hi=>by simp[E0]at hi,fun l k b m d=>by simp[E0,fK]at d,fun i j o o' l hi=>by simp[E0]at hi,fun l _ k q d=>by simp[E0,fK]at d⟩
  grind
  grind
  ·rintro b (y | ho)
   ·exact HE.X b y
   ·exact(HE.EH ho).1
  grind
 refine(h E0 U rfl HE0 (td hC args ha W)).mono ?_;rintro _ w' ⟨c,O,H',rfl,⟨rfl,rfl⟩,loc',r',g1,g2,I⟩;have N:Ext E.w w':=⟨I.size,fun b hb=>I.same b hb (M b),I.env⟩
 refine⟨c,O,H,rfl,⟨rfl,rfl⟩,E.ae,E.X.r,?_,?_,?_⟩
 ·rw[<- hH]
  exact gk (E:={ w:=w',H:=H',ae:=loc',X:=E0.X.re r' }) (E':={ w:=w',H:=E.H,ae:=E.ae,X:=E.X })
   ⟨fun b hb=>⟨⟨hb.1,fun ho=>hb.2.2 (Or.inr ho),fun y=>hb.2.2 (Or.inl y)⟩,rfl⟩⟩ O hv g1
 ·rw[<-hH]; exact HE.ext N
 ·rw[<-hH]; exact ah.lN N
variable {P:ak} {pf:bJ->Bool} {ai:Array aQ}
def pZ(r:cM->AV):Op->Option Nat
 |.load _ a=>match r a with
  |.ptr id _ _ _ _=>some id
  |.sptr id _ _ _ _ _=>some id
  |_=>none
 |.lookup _ m _ _=>match r m with
  |.map id=>some id
  |.sub id _ _=>some id
  |_=>none
 |.call c=>match c.args.toList with
  |[a]=>match r a with
   |.map id=>some id
   |_=>none
  |_=>none
 |_=>none
theorem Qv{d:List aj}:∀{op:Op},(∀id,pZ r op=some id->d[id]?=H[id]?)->im P r d op=im P r H op:=by
 intro op h;cases op<;>simp only[im]
 grind[pZ,nm]
 case lookup t m k ok=>
  simp only[pZ]at h;have v:ob P t (r m) (r k) ok d=ob P t (r m) (r k) ok H:=aa9 (fun id e=>by rw[e]at h; exact h id rfl) (fun id l j e=>by rw[e]at h; exact h id rfl);rw[v];have h1:jl P t (r m) (r k) ok d=jl P t (r m) (r k) ok H:=by
   unfold jl
   grind
  rw[h1]
 case call c=>
  simp only[pZ]at h
  grind[tA]
theorem Qw(o:Op)(h:∀x∈o.operands,r x=d x):pZ r o=pZ d o:=by
 cases o<;>simp only[pZ]
 simp_all[lh]
 case lookup t m k ok=>
  simp_all[lh]
 case call c=>
  split
  ·rename_i a ha
   have:a∈(Op.call c).operands:=by
    show a∈c.operands
    have h1:a∈c.args:=by
     have:a∈c.args.toList:=by rw[ha]; simp
     grind
    simp[A6,h1]
   grind
  ·rfl
abbrev lp:=List (Nat × List Nat × Nat)
abbrev my:=List (Nat × Nat)
def kept(W:lp)(j A:Nat):Prop:=∀e∈W,e.1=j->A∉e.2.1/\A<e.2.2
def KH(ai:Array aQ):Bool:=
 (fm ai.size).any fun j=>(fm j).any fun i=>match ai[i]?,ai[j]? with
  |some x,some y=>gD x.op&&gD y.op && !waits ai ai.size j i
  |_,_=>false
def vX:Op->Bool
 |.call c=>match c.callee with
  |.value (.func _)=>true
  |_=>false
 |_=>false
def isVar:Op->Bool
 |.alloc _=>true
 |_=>false
theorem yq(h:isVar op=true):gD op=true:=by
 unfold isVar at h;split at h
 ·rfl
 ·cases h
def Ft(ai:Array aQ):Bool:=
 (fm ai.size).any fun j=>(fm j).any fun i=>match ai[i]?,ai[j]? with
  |some x,some y=>vX x.op&&isVar y.op && !waits ai ai.size j i
  |_,_=>false
def mz:Op->Bool
 |.mapEntry ..=>true
 |.entryStore ..=>true
 |_=>false
def KJ(ai:Array aQ):Bool:=
 (fm ai.size).any fun j=>(fm j).any fun i=>match ai[i]?,ai[j]? with
  |some x,some y=>gD x.op&&mz y.op && !waits ai ai.size j i
  |_,_=>false
def oX(ai:Array aQ):Bool:=(KH ai||Ft ai)||KJ ai
theorem Qx{pf:bJ->Bool}(h:mz op=true):ed pf op=.write:=by
 unfold mz at h;split at h
 ·rfl
 ·rfl
 ·cases h
theorem abO(h:mz op=true):gD op=false:=by
 unfold mz at h;split at h
 ·rfl
 ·rfl
 ·cases h
theorem r8{pf:bJ->Bool}(h:gD op=true):ed pf op=.write:=by
 unfold gD at h;split at h
 ·rfl
 ·rfl
 ·cases h
theorem Fu{pf:bJ->Bool}{X:Prop}(h:ed pf op≠.write):gD op=true->X:=fun ha=>(h (r8 ha)).elim
def p7:Op->Bool
 |.buildSlice ..=>true
 |.call c=>match c.callee with
  |.builtin .append=>true
  |_=>false
 |_=>false
def oY(ai:Array aQ)(op:Op):Bool:=(vX op&&Ft ai)||(p7 op&&oX ai)
theorem qI{ai:Array aQ}(h:gD op=true):oY ai op=false:=by
 unfold gD at h;split at h
 ·rfl
 ·rfl
 ·cases h
theorem abP{ai:Array aQ}(h:mz op=true):oY ai op=false:=by
 unfold mz at h;split at h
 ·rfl
 ·rfl
 ·cases h
theorem abQ{ai:Array aQ}(h:oY ai op=true):oX ai=true:=by
 unfold oY at h;rw[vm,aO,aO]at h
 grind[oX]
def oZ(d:List (Nat × aj))(H:List aj):List aj:=d.foldl (fun H p=>H.set p.1 p.2) H
def Fv(W:lp)(j:Nat)(H:List aj)(d:List (Nat × aj)):Prop:=∀p∈d,kept W j p.1/\∃y,H[p.1]?=some y/\BC y
def Step(P:ak)(pf:bJ->Bool)(ai:Array aQ)(R:my)(W:lp)(j:Nat)(o:aQ)(s:St)(v:AV)(H':List aj):Prop:=
 (ed pf o.op=.write->∀A,kept W j A->H'[A]?=s.H[A]?)/\(ed pf o.op=.read->cX ai s.fr o=some true->∀id,pZ s.eval o.op=some id->(j,id)∈R) /\
  (gD o.op=true->oX ai=true->cX ai s.fr o=some true->H'.length=s.H.length/\∀id,H'[id]?≠s.H[id]?->∃e∈W,e.1=j/\id∈e.2.1) /\
  (oY ai o.op=true->ed pf o.op=.write->cX ai s.fr o=some true->∀d,Fv W j s.H d->Yields P pf ai o ⟨s.fr,oZ d s.H⟩ v (oZ d H'))
def Qy(R:my)(W:lp)(i j:Nat):Prop:=∀id,(i,id)∈R->kept W j id
def Fw(pf:bJ->Bool)(ai:Array aQ)(R:my)(W:lp)(i:Nat)(x:aQ)(j:Nat)(y:aQ):Prop:=
 rX pf x y=true\/(ed pf x.op=.read/\ed pf y.op=.write/\Qy R W i j)\/(ed pf x.op=.write/\ed pf y.op=.read/\Qy R W j i)\/(gD x.op=true/\gD y.op=true/\oX ai=true) \/
  (ed pf x.op=.write/\oY ai x.op=true/\isVar y.op=true/\∀e∈W,e.1=j->∀id∈e.2.1,kept W i id) \/
  (gD x.op=true/\mz y.op=true/\oX ai=true/\∀e∈W,e.1=i->∀id∈e.2.1,kept W j id)
theorem Qz(ho:isVar o.op=true)(h:Yields P pf ai o s v H')(I:cX ai s.fr o=some true->H'.length=s.H.length):
  (cX ai s.fr o=some false/\v=.tuple []/\H'=s.H) \/
   (cX ai s.fr o=some true/\∃t id z y x m,o.op=.alloc t/\gC P t=some z/\s.H[id]?=some y/\rY z m id y v x/\H'=s.H.set id x):=by
 unfold Yields at h;cases M:cX ai s.fr o with
 |none=>grind
 |some b=>
  rw[M]at h;cases b with
  |false=>grind
  |true=>
   right;refine⟨rfl,?_⟩;simp only[r8 (yq ho)]at h;have I:=I M;rcases h with(h|⟨f,args,h1,_⟩)|(⟨t,id,m,d,N⟩|⟨t,id,d,N⟩)|k
   ·unfold isVar at ho
    grind[eG,vH]
   ·unfold isVar at ho
    split at ho
    ·rename_i t d
     rw[d]at h1;cases h1
    ·cases ho
   grind[Ql]
   ·rw[d]at ho
    cases ho
   ·unfold isVar at ho
    split at ho
    ·rename_i t d
     rw[d]at k;exact k.elim
    ·cases ho
def kN(P:ak)(op:Op)(id:Nat)(y:aj)(v:AV)(x:aj):Prop:=
 (∃t z m,op=.alloc t/\gC P t=some z/\rY z m id y v x)\/∃t,op=.makeMap t none/\y=.eV/\v=.map id/\x=.map [] 0
theorem kN.hole{op:Op}{id:Nat}{y x:aj}{v:AV}(h:kN P op id y v x):BC y:=by
 rcases h with⟨_,_,_,_,_,h⟩|⟨_,_,rfl,_,_⟩
 ·exact h.hole
 ·exact .inr rfl
theorem kN.full{op:Op}{id:Nat}{y x d:aj}{v:AV}(h:kN P op id y v x)(h':BC d):x≠d:=by
 rcases h with⟨_,_,_,_,_,h⟩|⟨_,_,_,_,rfl⟩
 ·exact h.full h'
 ·rcases h' with⟨k,rfl⟩|rfl<;>intro e<;>cases e
theorem kN.ne{k:Op}{I:Nat}{d M:aj}{N:AV}(h:kN P op id y v x)(h':kN P k I d N M):x≠d:=h.full h'.hole
theorem KK(ho:gD o.op=true)(h:Yields P pf ai o s v H')(I:cX ai s.fr o=some true->H'.length=s.H.length):
  (cX ai s.fr o=some false/\v=.tuple []/\H'=s.H) \/
   (cX ai s.fr o=some true/\∃id y x,kN P o.op id y v x/\s.H[id]?=some y/\H'=s.H.set id x):=by
 cases d:isVar o.op with
 |true=>
  rcases Qz d h I with h|⟨h1,t,id,z,y,x,m,M,N,h4,h5,h7⟩
  grind
  ·exact .inr ⟨h1,id,y,x,.inl ⟨t,z,m,M,N,h5⟩,h4,h7⟩
 |false=>
  have hm:∃t,o.op=.makeMap t none:=by
   unfold gD at ho;split at ho
   ·rename_i t k
    rw[k]at d;cases d
   grind
   ·cases ho
  obtain⟨t,k⟩:=hm;unfold Yields at h;cases U:cX ai s.fr o with
  |none=>grind
  |some b=>
   rw[U]at h;cases b with
   |false=>grind
   |true=>
    right;refine⟨rfl,?_⟩;simp only[r8 ho]at h;have I:=I U;rcases h with(h|⟨f,args,h1,_⟩)|(⟨t',id,m,W,d⟩|⟨t',id,W,d⟩)|O
    grind[eG]
    ·rw[k]at h1
     cases h1
    grind
    ·obtain⟨h1,M,N⟩:=Ka d
     exact⟨id,_,_,.inr ⟨t,k,rfl,M,rfl⟩,h1,N⟩
    ·rw[k]at O
     exact O.elim
theorem QA{m:List (Option (List Kd))}(h:cX ai s.fr o=some true)(ho:o.op=.alloc t)(k:gC P t=some z)(d:s.H[id]? = some y)(hn:rY z m id y v x):
  Yields P pf ai o s v (s.H.set id x):=by
 unfold Yields;rw[h,ho];exact .inr (.inl (.inl ⟨t,id,m,rfl,KB k d hn⟩))
theorem KL(h:cX ai s.fr o=some true)(hn:kN P o.op id y v x)(d:s.H[id]?=some y):Yields P pf ai o s v (s.H.set id x):=by
 rcases hn with⟨t,z,m,h1,k,I⟩|⟨t,h1,rfl,rfl,rfl⟩
 grind[QA]
 ·unfold Yields
  rw[h,h1];exact .inr (.inl (.inr ⟨t,id,rfl,PQ d⟩))
def p8:aj->Bool
 |.ba ..=>false
 |.mm ..=>false
 |.cZ ..=>false
 |.bU ..=>false
 |_=>true
theorem kN.no(h:kN P op id y v x):p8 x=true/\p8 y=true/\x≠.dead:=by
 rcases h with⟨_,_,_,_,_,⟨rfl,_,rfl⟩|⟨rfl,_,rfl⟩⟩|⟨_,_,rfl,_,rfl⟩
 ·exact⟨rfl,rfl,fun e=>by cases e⟩
 ·exact⟨rfl,rfl,fun e=>by cases e⟩
 ·exact⟨rfl,rfl,fun e=>by cases e⟩
theorem abR(h:H[id]?=some x)(d:p8 x=true):lQ P t (.map id) k H=none/\nq P t (.map id) k H=none:=by
 unfold lQ nq;cases eT P t with
 |none=>grind
 |some p=>
  simp only[h];cases x<;>first|exact⟨rfl,rfl⟩|cases d
theorem abS{a:Nat}(d:id≠a)(ha:a<H.length):lQ P t (.map id) k (H.set a x)=(lQ P t (.map id) k H).map fun p=>(p.1,p.2.set a x):=by
 unfold lQ;cases eT P t with
 |none=>rfl
 |some p=>
  simp only[bL (Ne.symm d),List.length_set];split
  ·split
   ·split
    ·split<;>grind[s8]
    ·rfl
   ·rfl
  ·rfl
theorem abT{a:Nat}(d:id≠a):nq P t (.map id) k (H.set a x)=(nq P t (.map id) k H).map fun p=>(p.1,p.2.set a x):=by
 unfold nq;cases eT P t with
 |none=>rfl
 |some p=>
  simp only[bL (Ne.symm d)];split<;>grind[s8]
theorem abU{a:Nat}(d:id≠a)(ha:a<H.length)(h:lQ P t (.map id) k H=some (v,H')):H'[a]?=H[a]?:=by
 unfold lQ at h;split at h
 case h_2=>cases h
 rename_i he;cases he;split at h
 case h_2=>cases h
 split at h<;>grind
theorem abV{a:Nat}(d:id≠a)(h:nq P t (.map id) k H=some (v,H')):H'[a]?=H[a]?:=by
 unfold nq at h
 grind
theorem abW{m s:AV}{a:Nat}{d:List aj}(hy:H[a]? = some y)(I:p8 x=true/\p8 y=true/\x≠.dead)(h:oU m s v (H.set a x)=some d)(M:d[a]? = some x):
  ∃H1,oU m s v H=some H1/\d=H1.set a x/\H1[a]?=some y:=by
 have k:=bl hy;unfold oU at h|-;split at h
 case h_2=>cases h
 rename_i id st w j aq oF n;have O:id≠a:=fun e=>by
  subst e;rw[cG k]at h;obtain⟨h1,_⟩:=I;cases x<;>first|cases h|cases h1
 rw[bL (Ne.symm O)]at h;split at h
 case h_2=>cases h
 rename_i l w' es cl w2 ver' rZ g1 N;split at h
 case isFalse=>cases h
 rename_i hc;split at h
 case h_2=>cases h
 rename_i i hi;split at h
 case h_2=>cases h
 rename_i key q bn hb;split at h
 case h_2=>cases h
 rename_i U;cases h;have W:j≠a:=fun e=>by
  subst e;rw[cG (by simpa using k)]at M;exact I.2.2 (jB M).symm
 rw[bL (Ne.symm W)]at N;rw[g1,N];simp only[iP hc,hi,hb,U]
 simp_all[s8]
theorem abX{m s:AV}{a:Nat}{d:List aj}(O:H[a]? = some y)(I:p8 x=true/\p8 y=true/\x≠.dead)(h:pY m s v (H.set a x)=some d)(M:d[a]? = some x):
  ∃H1,pY m s v H=some H1/\d=H1.set a x/\H1[a]?=some y:=by
 have k:=bl O;unfold pY at h|-;split at h
 case h_2=>cases h
 rename_i id st j;have N:id≠a:=fun e=>by
  subst e;rw[cG k]at h;obtain⟨h1,_⟩:=I;cases x<;>first|cases h|cases h1
 rw[bL (Ne.symm N)]at h;split at h
 case h_2=>cases h
 rename_i l es ms cl U bk g1 g2;split at h
 case h_2=>cases h
 rename_i i hi;split at h
 case h_2=>cases h
 rename_i key bn hb;cases h;have W:j≠a:=fun e=>by
  subst e;rw[cG (by simpa using k)]at M;exact I.2.2 (jB M).symm
 simp_all[Ne.symm,s8]
theorem abY{m s:AV}{a:Nat}(h:H[a]?=some y)(k:p8 x=true/\p8 y=true/\x≠.dead){d:List aj}(hm:pY m s v H=some d):oU m s v H=none:=by
 unfold pY at hm;split at hm
 case h_2=>cases hm
 rfl
theorem abZ(hq:mz op=true){d:List aj}{a:Nat}{u:AV}(N:H[a]? = some y)(W:p8 x=true/\p8 y=true/\x≠.dead)(h:eG P r (H.set a x) op=some (u,d))(hk:d[a]? = some x):
  ∃H1,eG P r H op=some (u,H1)/\d=H1.set a x/\H1[a]?=some y:=by
 have M:=bl N;unfold mz at hq;split at hq
 ·rename_i t m k
  simp only[eG]at h|-;cases hm:r m with
  |map id=>
   rw[hm]at h;by_cases I:id=a
   grind[abR]
   ·rw[abS I M,abT I]at h
    cases he:lQ P t (.map id) (r k) H with
    |some p=>
     grind[abU]
    |none=>
     rw[he]at h;simp only[Option.map_none]at h;cases U:nq P t (.map id) (r k) H with
     |some p=>
      grind[abV]
     |none=>
      grind
  |_=>
   simp_all[lQ,nq]
 ·rename_i t m s v
  simp only[eG]at h|-;cases he:oU (r m) (r s) (r v) (H.set a x)with
  |some O=>
   grind[abW]
  |none=>
   rw[he]at h;cases hm:pY (r m) (r s) (r v) (H.set a x)with
   |none=>grind
   |some O=>
    grind[abX,abY]
 ·cases hq
theorem ab0{u:AV}{v:List aj}(hq:mz o.op=true)(h:Yields P pf ai o s u v)(y:cX ai s.fr o=some true):eG P s.eval s.H o.op=some (u,v):=by
 unfold Yields at h;simp only[y,Qx hq]at h;rcases h with(h|⟨f,args,h1,_⟩)|(⟨t,id,m,d,_⟩|⟨t,id,d,_⟩)|k
 ·exact h
 ·unfold mz at hq
  split at hq
  ·rename_i d
   rw[d]at h1;cases h1
  ·rename_i d
   rw[d]at h1;cases h1
  ·cases hq
 ·rw[d]at hq
  cases hq
 ·rw[d]at hq
  cases hq
 ·unfold mz at hq
  split at hq
  ·rename_i d
   rw[d]at k;exact k.elim
  ·rename_i d
   rw[d]at k;exact k.elim
  ·cases hq
variable {W:lp} {R:my}
theorem ab1{N:aQ}{u:AV}{Hi k:List aj}(h1:N.apart ai I=true)(h2:I.apart ai N=true)(hc:Fw pf ai R W i N j I)
  (hi:Yields P pf ai N s v Hi) (si:Step P pf ai R W i N s v Hi) (hj:Yields P pf ai I (s.put N.dst v Hi) u k) (sj:Step P pf ai R W j I (s.put N.dst v Hi) u k) :
  ∃Hj1,Yields P pf ai I s u Hj1/\Step P pf ai R W j I s u Hj1/\Yields P pf ai N (s.put I.dst u Hj1) v k/\Step P pf ai R W i N (s.put I.dst u Hj1) v k:=by
 obtain⟨a1,a2,a3⟩:=OO h1;have wj:cX ai (s.put N.dst v Hi).fr I=cX ai s.fr I:=Fj a1;have wi:∀H2,cX ai (s.put I.dst u H2).fr N=cX ai s.fr N:=fun H2=>Fj a3;have ej:∀x∈I.op.operands,(s.put N.dst v Hi).eval x=s.eval x:=fun x hx=>eval_put a1 hx;have ei:∀H2,∀x∈N.op.operands,(s.put I.dst u H2).eval x=s.eval x:=fun H2 x hx=>eval_put a3 hx;have cj:=Qw I.op ej;have ci:=fun H2=>Qw N.op (ei H2);have evj:=Qi (P:=P) (H:=Hi) I.op ej;have readJ:ed pf I.op=.read->Step P pf ai R W j I s u s.H:=fun hr=>⟨fun d=>(by rw[hr]at d; cases d),fun _ d id hid=>sj.2.1 hr (by rw[wj]; exact d) id (by rw[cj]; exact hid),Fu (by rw[hr]; simp),fun _ d=>(by rw[hr]at d; cases d)⟩
 have readI:ed pf N.op=.read->∀H2 H3,Step P pf ai R W i N (s.put I.dst u H2) v H3:=fun hr H2 H3=>⟨fun d=>(by rw[hr]at d; cases d),fun _ d id hid=>si.2.1 hr (by rw[wi]at d; exact d) id (by rw[ci]at hid; exact hid),Fu (by rw[hr]; simp),fun _ d=>(by rw[hr]at d; cases d)⟩
 have frj:∀{H2 H3:List aj} {v':AV},Yields P pf ai I ⟨(s.put N.dst v Hi).fr,H2⟩ v' H3->Yields P pf ai I ⟨s.fr,H2⟩ v' H3:=fun {H2 _ _} h=>(jo (s1:=⟨(s.put N.dst v Hi).fr,H2⟩) (s:=⟨s.fr,H2⟩) wj (fun x hx=>by
  have:=ej x hx;cases x<;>exact this) rfl).1 h
 have fri:∀{H1 H2 H3:List aj} {v':AV},Yields P pf ai N ⟨s.fr,H2⟩ v' H3->Yields P pf ai N ⟨(s.put I.dst u H1).fr,H2⟩ v' H3:=fun {H1 H2 _ _} h=>(jo (s1:=⟨(s.put I.dst u H1).fr,H2⟩) (s:=⟨s.fr,H2⟩) (wi H1) (fun x hx=>by
  have:=ei H1 x hx;cases x<;>exact this) rfl).2 h
 have toJ:Hi=s.H->Step P pf ai R W j I s u k:=by
  intro e;subst e;exact⟨fun d A hA=>sj.1 d A hA,fun hr d id hid=>sj.2.1 hr (by rw[wj]; exact d) id (by rw[cj]; exact hid),fun ha ht d=>sj.2.2.1 ha ht (by rw[wj]; exact d),
   fun hv d hwa σ hσ=>frj (sj.2.2.2 hv d (by rw[wj]; exact hwa) σ hσ)⟩
 have toI:k=Hi->Step P pf ai R W i N (s.put I.dst u s.H) v k:=by
  intro e;subst e;exact⟨fun d A hA=>si.1 d A hA,fun hr d id hid=>si.2.1 hr (by rw[wi]at d; exact d) id (by rw[ci]at hid; exact hid),fun ha ht d=>si.2.2.1 ha ht (by rw[wi]at d; exact d),
   fun hv d hwa σ hσ=>fri (si.2.2.2 hv d (by rw[wi]at hwa; exact hwa) σ hσ)⟩
 have old:rX pf N I=true->∃Hj1,Yields P pf ai I s u Hj1/\Yields P pf ai N (s.put I.dst u Hj1) v k:=fun hc=>Qm h1 h2 hc hi hj;cases O:ed pf N.op with
 |pure=>
  obtain⟨e1,g1⟩:=BB O hi;subst e1;refine⟨k,(jo wj ej rfl).1 hj,toJ rfl,
   (jo (s1:=s.put I.dst u k) (s:=⟨s.fr,k⟩) (wi k) (fun x hx=>by rw[ei k x hx]; cases x<;>rfl) rfl).2 (g1 k),⟨fun d=>(by rw[O]at d; cases d),fun hr=>(by rw[O]at hr; cases hr),Fu (by rw[O]; simp),fun _ d=>(by rw[O]at d; cases d)⟩⟩
 |read=>
  have e1:=vU O hi;subst e1;have hj':=(jo wj ej rfl).1 hj;refine⟨k,hj',toJ rfl,?_,readI O _ _⟩;have key:∀H2:List aj,St.eval ⟨s.fr,H2⟩=s.eval:=fun H2=>by funext x; cases x<;>rfl
  have same:cX ai s.fr N=some true->im P s.eval k N.op=im P s.eval s.H N.op:=by
   intro d;cases U:ed pf I.op with
   |pure=>
    have:=(BB U hj').1;rw[this]
   |read=>
    have:=vU U hj';rw[this]
   |write=>
    rcases hc with hc|⟨_,_,hap⟩|⟨hw',_,_⟩|⟨hw',_,_⟩|⟨hw',_⟩|⟨hw',_⟩
    ·obtain⟨Hj1,q1,q2⟩:=old hc
     have q3:=(jo (s1:=s.put I.dst u Hj1) (s:=⟨s.fr,Hj1⟩) (wi Hj1) (fun x hx=>by rw[ei Hj1 x hx]; cases x<;>rfl) rfl).1 q2;have e2:k=Hj1:=vU O q3;subst e2;unfold Yields at q3 hi;simp only[O,d]at q3 hi;rw[key]at q3;rw[q3.2,hi.2]
    ·exact Qv fun id hid=>sj.1 U id (hap id (si.2.1 O d id hid))
    ·rw[O]at hw'
     cases hw'
    ·rw[r8 hw']at O
     cases O
    ·rw[O]at hw'
     cases hw'
    ·rw[r8 hw']at O
     cases O
  refine(jo (s1:=s.put I.dst u k) (s:=⟨s.fr,k⟩) (wi k) (fun x hx=>by rw[ei k x hx]; cases x<;>rfl) rfl).2 ?_;unfold Yields at hi|-;simp only[O]at hi|-;cases d:cX ai s.fr N with
  |none=>rw[d]at hi; exact hi.elim
  |some b=>
   rw[d]at hi;cases b with
   |false=>exact⟨hi.1,au⟩
   |true=>
    refine⟨au,?_⟩;rw[key,same d];exact hi.2
 |write=>
  cases U:ed pf I.op with
  |pure=>
   obtain⟨e1,g1⟩:=BB U hj;have e1':k=Hi:=e1;subst e1';refine⟨s.H,?_,⟨fun d=>(by rw[U]at d; cases d),fun hr=>(by rw[U]at hr; cases hr),Fu (by rw[U]; simp),fun _ d=>(by rw[U]at d; cases d)⟩,(jo (s1:=s.put I.dst u s.H) (s:=s) (wi s.H) (ei s.H) rfl).2 hi,toI rfl⟩;exact(jo (s1:=⟨(s.put N.dst v k).fr,s.H⟩) (s:=s) wj (fun x hx=>by
    have:=ej x hx;cases x<;>exact this) rfl).1 (g1 s.H)
  |read=>
   have e2:=vU U hj;have e2':k=Hi:=e2;subst e2';refine⟨s.H,?_,readJ U,(jo (s1:=s.put I.dst u s.H) (s:=s) (wi s.H) (ei s.H) rfl).2 hi,toI rfl⟩;have same:cX ai s.fr I=some true->im P s.eval k I.op=im P s.eval s.H I.op:=by
    intro d;rcases hc with hc|⟨hr',_,_⟩|⟨_,_,hap⟩|⟨_,hr',_⟩|⟨_,_,hr',_⟩|⟨_,hr',_⟩
    ·unfold rX at hc
     rw[O,U]at hc;cases hc
    ·rw[O]at hr'
     cases hr'
    ·exact Qv fun id hid=>si.1 O id (hap id (sj.2.1 U (by rw[wj]; exact d) id (by rw[cj]; exact hid)))
    ·rw[r8 hr']at U
     cases U
    ·rw[r8 (yq hr')]at U
     cases U
    ·rw[Qx hr']at U
     cases U
   unfold Yields at hj|-;simp only[U]at hj|-;rw[wj]at hj;cases d:cX ai s.fr I with
   |none=>rw[d]at hj; exact hj.elim
   |some b=>
    rw[d]at hj;cases b with
    |false=>exact⟨hj.1,au⟩
    |true=>
     refine⟨au,?_⟩;rw[<-same d,<-evj];exact hj.2
  |write=>
   rcases hc with hc|⟨hr',_,_⟩|⟨_,hr',_⟩|⟨hai,haj,htw⟩|⟨_,hvi,haj,hap⟩|⟨hai,hqj,htw,hap⟩
   ·unfold rX at hc
    rw[O,U]at hc;cases hc
   ·rw[O]at hr'
    cases hr'
   ·rw[U]at hr'
    cases hr'
   ·-- two allocations,each in its af place
    have ck:∀{f:Option Bool},f=some true->f=some false->False:=fun h1 h2=>by rw[h1]at h2; cases h2
    rcases KK hai hi (fun d=>(si.2.2.1 hai htw d).1)with⟨wi',rfl,e1⟩|⟨wi',idi,yi,xi,ni,z2,e1⟩
    ·subst e1
     refine⟨k,(jo wj ej rfl).1 hj,toJ rfl,?_,⟨fun _ A _=>rfl,fun hr=>(by rw[O]at hr; cases hr),fun _ _ _=>⟨rfl,fun _ h=>(h rfl).elim⟩,fun hv=>(by rw[qI hai]at hv; cases hv)⟩⟩;unfold Yields;rw[wi,wi'];exact⟨rfl,rfl⟩
    ·rcases KK haj hj (fun d=>(sj.2.2.1 haj htw d).1) with⟨wj',rfl,e2⟩ | ⟨wj',M,yj,xj,nj,y2,e2⟩
     ·have e2':k=Hi:=e2
      subst e2';refine⟨s.H,?_,⟨fun _ A _=>rfl,fun hr=>(by rw[U]at hr; cases hr),fun _ _ _=>⟨rfl,fun _ h=>(h rfl).elim⟩,fun hv=>(by rw[qI haj]at hv; cases hv)⟩,(jo (s1:=s.put I.dst (.tuple []) s.H) (s:=s) (wi s.H) (ei s.H) rfl).2 hi,toI rfl⟩;unfold Yields;rw[wj]at wj';rw[wj'];exact⟨rfl,rfl⟩
     ·have e2':k=Hi.set M xj:=e2
      have y2':Hi[M]?=some yj:=y2;have hne:M≠idi:=by
       intro e;subst e;rw[e1,cG (bl z2)]at y2';exact kN.ne ni nj (jB y2')
      have y2s:s.H[M]?=some yj:=by rw[e1,bL (Ne.symm hne)]at y2'; exact y2'
      have wjs:cX ai s.fr I=some true:=by rw[<-wj]; exact wj'
      have hjj:∀A,kept W j A->A≠M:=by
       intro A hA e;subst e;have h:=sj.1 U A hA;have h':k[A]?=Hi[A]?:=h;rw[e2',cG (bl y2'),y2']at h';exact kN.ne nj nj (jB h')
      have hii:∀A,kept W i A->A≠idi:=by
       intro A hA e;subst e;have h:=si.1 O A hA;rw[e1,cG (bl z2),z2]at h;exact kN.ne ni ni (jB h)
      have hcomm:k=(s.H.set M xj).set idi xi:=by rw[e2',e1,s8 _ _ (Ne.symm hne)]
      refine⟨s.H.set M xj,KL wjs nj y2s,⟨fun _ A hA=>bL (Ne.symm (hjj A hA)),fun hr=>(by rw[U]at hr; cases hr),fun _ _ _=>⟨au,fun id hne=>?_⟩,fun hv=>(by rw[qI haj]at hv; cases hv)⟩,?_,
       ⟨fun _ A hA=>?_,fun hr=>(by rw[O]at hr; cases hr),fun _ _ _=>⟨?_,fun id hne=>?_⟩,fun hv=>(by rw[qI hai]at hv; cases hv)⟩⟩
      ·have e:id=M:=Jl fun e=>hne (bL (Ne.symm e))
       subst e;refine(sj.2.2.1 haj htw wj').2 id ?_;show k[id]?≠Hi[id]?
       rw[e2',cG (bl y2'),y2'];exact fun e=>kN.ne nj nj (jB e)
      ·rw[hcomm]
       refine KL (s:=s.put I.dst u (s.H.set M xj)) (by rw[wi]; exact wi') ni ?_;show (s.H.set M _)[idi]?=_
       rw[bL hne];exact z2
      ·show k[A]?=(s.H.set M _)[A]?
       rw[hcomm,bL (Ne.symm (hii A hA))]
      ·show k.length=(s.H.set M _).length
       rw[hcomm];simp
      ·have e:id=idi:=Jl fun e=>hne (by
        show k[id]?=(s.H.set M _)[id]?
        rw[hcomm,bL (Ne.symm e)])
       subst e;refine(si.2.2.1 hai htw wi').2 id ?_;rw[e1,cG (bl z2),z2];exact fun e=>kN.ne ni ni (jB e)
   ·-- a call,and an allocation in a place that it does not touch
    have hih:oX ai=true:=abQ hvi;rcases Qz haj hj (fun d=>(sj.2.2.1 (yq haj) hih d).1)with⟨wj',rfl,e2⟩|⟨wj',tj,M,zj,yj,xj,mj,oj',y1,y2,y3,e2⟩
    ·have e2':k=Hi:=e2
     subst e2';refine⟨s.H,?_,⟨fun _ A _=>rfl,fun hr=>(by rw[U]at hr; cases hr),fun _ _ _=>⟨rfl,fun _ h=>(h rfl).elim⟩,fun hv=>(by rw[qI (yq haj)]at hv; cases hv)⟩,(jo (s1:=s.put I.dst (.tuple []) s.H) (s:=s) (wi s.H) (ei s.H) rfl).2 hi,toI rfl⟩;unfold Yields;rw[wj]at wj';rw[wj'];exact⟨rfl,rfl⟩
    ·have e2':k=Hi.set M xj:=e2
     have y2':Hi[M]?=some yj:=y2;obtain⟨e,he,hej,hid⟩:=(sj.2.2.1 (yq haj) hih wj').2 M (by
      show k[M]?≠Hi[M]?
      rw[e2',cG (bl y2'),y2'];exact fun e=>y3.full y3.hole (jB e))
     have hk:=hap e he hej M hid;have y2s:s.H[M]?=some yj:=by rw[<-si.1 O M hk]; exact y2'
     have wjs:cX ai s.fr I=some true:=by rw[<-wj]; exact wj'
     have hjj:∀A,kept W j A->A≠M:=by
      intro A hA e;subst e;have h:=sj.1 U A hA;have h':k[A]?=Hi[A]?:=h;rw[e2',cG (bl y2'),y2']at h';exact y3.full y3.hole (jB h')
     have hfill:Fv W i s.H [(M,xj)]:=by
      intro p hp;rw[List.mem_singleton.1 hp];exact⟨hk,yj,y2s,y3.hole⟩
     have hcall:Yields P pf ai N ⟨s.fr,s.H.set M xj⟩ v k/\(cX ai s.fr N=some true->∀σ,Fv W i (s.H.set M xj) σ->Yields P pf ai N ⟨s.fr,oZ σ (s.H.set M xj)⟩ v (oZ σ k)):=by
      cases d:cX ai s.fr N with
      |none=>
       unfold Yields at hi;rw[d]at hi;exact hi.elim
      |some b=>
       cases b with
       |false=>
        refine⟨?_,fun h=>by cases h⟩;unfold Yields at hi|-;rw[d]at hi;rw[show cX ai (St.mk s.fr (s.H.set M xj)).fr N=some false from d];refine⟨hi.1,?_⟩;show k=s.H.set M _
        rw[e2',hi.2]
       |true=>
        have h4:=si.2.2.2 hvi O d;refine⟨?_,fun _ σ hσ=>?_⟩
        ·have:=h4 _ hfill
         rw[e2'];exact this
        ·have:=h4 ((M,xj)::σ) (by
          intro p hp;rcases List.mem_cons.1 hp with rfl|hp
          ·exact hfill _ dx
          ·obtain⟨a2,y,a3,a4⟩:=hσ p hp
           refine⟨a2,y,?_,a4⟩;have hne:p.1≠M:=fun e=>by
            rw[e,cG (bl y2s)]at a3;exact y3.full a4 (jB a3)
           rwa [bL (Ne.symm hne)]at a3)
         rw[e2'];exact this
     refine⟨s.H.set M xj,QA wjs oj' y1 y2s y3,⟨fun _ A hA=>bL (Ne.symm (hjj A hA)),fun hr=>(by rw[U]at hr; cases hr),fun _ _ _=>⟨au,fun id hne=>?_⟩,fun hv=>(by rw[qI (yq haj)]at hv; cases hv)⟩,fri (H1:=s.H.set M xj) hcall.1,
      ⟨fun _ A hA=>?_,fun hr=>(by rw[O]at hr; cases hr),fun ha=>(by rw[qI ha]at hvi; cases hvi),fun _ _ hwa σ hσ=>fri (H1:=s.H.set M xj) (hcall.2 (by rw[wi]at hwa; exact hwa) σ hσ)⟩⟩
     ·have e:id=M:=Jl fun e=>hne (bL (Ne.symm e))
      subst e;exact⟨_,he,hej,hid⟩
     ·show k[A]?=(s.H.set M _)[A]?
      have h1:Hi[A]?=s.H[A]?:=si.1 O A hA;by_cases e:A=M
      ·subst e
       rw[e2',cG (bl y2'),cG (bl y2s)]
      ·rw[e2',bL (Ne.symm e),bL (Ne.symm e),h1]
   ·-- an allocation in its place,and an operation that does not touch it
    rcases KK hai hi (fun d=>(si.2.2.1 hai htw d).1)with⟨wi',rfl,e1⟩|⟨wi',idi,yi,xi,ni,z2,e1⟩
    ·subst e1
     refine⟨k,(jo wj ej rfl).1 hj,toJ rfl,?_,⟨fun _ A _=>rfl,fun hr=>(by rw[O]at hr; cases hr),fun _ _ _=>⟨rfl,fun _ h=>(h rfl).elim⟩,fun hv=>(by rw[qI hai]at hv; cases hv)⟩⟩;unfold Yields;rw[wi,wi'];exact⟨rfl,rfl⟩
    ·have hii:∀A,kept W i A->A≠idi:=by
      intro A hA e;subst e;have h:=si.1 O A hA;rw[e1,cG (bl z2),z2]at h;exact kN.ne ni ni (jB h)
     obtain⟨e,he,hei,hid⟩:=(si.2.2.1 hai htw wi').2 idi (by
      rw[e1,cG (bl z2),z2];exact fun e=>kN.ne ni ni (jB e))
     have hk:kept W j idi:=hap e he hei idi hid;have hHi:Hi[idi]?=some xi:=by rw[e1,cG (bl z2)]
     have hjk:k[idi]?=some xi:=by rw[sj.1 U idi hk]; exact hHi
     have hback:∃H1,Yields P pf ai I s u H1/\k=H1.set idi xi/\H1[idi]?=some yi:=by
      cases d:cX ai s.fr I with
      |none=>
       unfold Yields at hj;rw[wj,d]at hj;exact hj.elim
      |some b=>
       cases b with
       |false=>
        unfold Yields at hj;rw[wj,d]at hj;refine⟨s.H,?_,?_,z2⟩
        ·unfold Yields
         rw[d];exact⟨hj.1,rfl⟩
        ·rw[hj.2]
         exact e1
       |true=>
        have h1:=ab0 hqj hj (by rw[wj]; exact d);have h2:eG P s.eval (s.H.set idi xi) I.op=some (u,k):=by
         rw[<-e1];have:=Qj (P:=P) (H:=Hi) I.op ej;rw[<-this];exact h1
        obtain⟨H1,g1,g2,g3⟩:=abZ hqj z2 ni.no h2 hjk;refine⟨H1,?_,g2,g3⟩;unfold Yields;simp only[d,U];exact .inl (.inl g1)
     obtain⟨H1,q1,q2,q3⟩:=hback;refine⟨H1,q1,⟨fun _ A hA=>?_,fun hr=>(by rw[U]at hr; cases hr),fun ha=>(by rw[abO hqj]at ha; cases ha),fun hv=>(by rw[abP hqj]at hv; cases hv)⟩,?_,⟨fun _ A hA=>?_,fun hr=>(by rw[O]at hr; cases hr),fun _ _ _=>⟨?_,fun id hne=>?_⟩,fun hv=>(by rw[qI hai]at hv; cases hv)⟩⟩
     ·by_cases hA2:A=idi
      ·rw[hA2,q3,z2]
      ·have h3:k[A]?=Hi[A]?:=sj.1 U A hA
       rw[q2,bL (Ne.symm hA2),e1,bL (Ne.symm hA2)]at h3;exact h3
     ·rw[q2]
      exact KL (s:=s.put I.dst u H1) (by rw[wi]; exact wi') ni q3
     ·show k[A]?=H1[A]?
      rw[q2,bL (Ne.symm (hii A hA))]
     ·show k.length=H1.length
      rw[q2];simp
     ·have e2:id=idi:=Jl fun e2=>hne (by
       show k[id]?=H1[id]?
       rw[q2,bL (Ne.symm e2)])
      subst e2;exact⟨e,he,hei,hid⟩
def BF(P:ak)(pf:bJ->Bool)(ai:Array aQ)(R:my)(W:lp)(i:Nat)(K:St->Prop)(s:St):Prop:=
 match ai[i]? with
 |none=>K s
 |some o=>∃v H',Yields P pf ai o s v H'/\Step P pf ai R W i o s v H'/\K (s.put o.dst v H')
def BG(P:ak)(pf:bJ->Bool)(ai:Array aQ)(R:my)(W:lp)(s':St):Nat->Array Bool->St->Prop
 |0,d,s=>pN .any ai d=[]/\s=s'
 |h+1,d,s=>(pN .any ai d=[]->s=s')/\∀i∈pN .any ai d,BF P pf ai R W i (BG P pf ai R W s' h (d.setIfInBounds i true)) s
theorem KM{R:my}{W:lp}{s':St}:∀(d:Nat) (k:Array Bool) (s:St),BG P pf ai R W s' d k s->yk P pf ai s' d k s
 |0,_,_,h=>h
 |d+1,k,s,h=>by
  refine⟨h.1,fun i hi=>?_⟩;have h1:=h.2 i hi;unfold BF at h1;unfold yh;cases ho:ai[i]? with
  |none=>rw[ho]at h1; exact KM d _ _ h1
  |some o=>
   rw[ho]at h1;obtain⟨v,H',y,_,I⟩:=h1;exact⟨v,H',y,KM d _ _ I⟩
theorem ab2(hi:ai[i]?=some I):∀(O:Nat) (d:Array Bool) (s:St) (v:AV) (H':List aj),vV ai d ->
  (∀j M,ai[j]?=some M->j≠i->d.getD j true=false->waits ai ai.size j i=false->I.apart ai M=true/\M.apart ai I=true/\Fw pf ai R W i I j M) ->
  i∈pN .any ai d->Yields P pf ai I s v H'->Step P pf ai R W i I s v H'->BG P pf ai R W s' O (d.setIfInBounds i true) (s.put I.dst v H')->BG P pf ai R W s' (O+1) d s:=by
 intro O
 induction O with
 |zero=>
  intro d s v H' _ _ hr hy U H;refine⟨fun h=>(by rw[h]at hr; cases hr),fun j N=>?_⟩;by_cases y:j=i
  ·subst y
   unfold BF;simp only[hi];exact⟨v,H',hy,U,H⟩
  ·have:=ready_mono N y
   rw[H.1]at this;cases this
 |succ O ih=>
  intro d s v H' hcl hfree hr hy U H;refine⟨fun h=>(by rw[h]at hr; cases hr),fun j N=>?_⟩;by_cases y:j=i
  ·subst y
   unfold BF;simp only[hi];exact⟨v,H',hy,U,H⟩
  ·have h1:=H.2 j (ready_mono N y)
   obtain⟨hjun,M,hoj,hall⟩:=mem_ready.1 N;unfold BF at h1|-;simp only[hoj]at h1|-;obtain⟨u,Hj,hyj,hsj,hrest⟩:=h1;have hnw:waits ai ai.size j i=false:=by
    cases hw:waits ai ai.size j i with
    |false=>rfl
    |true=>
     have:=KD hcl _ _ _ (KE N) hw;rw[Qo hr]at this;cases this
   obtain⟨a1,a2,a3⟩:=hfree j M hoj y hjun hnw;obtain⟨Hj1,q1,q2,q3,q4⟩:=ab1 a1 a2 a3 hy U hyj hsj;refine⟨u,Hj1,q1,q2,?_⟩;refine ih (d.setIfInBounds j true) (s.put M.dst u Hj1) v Hj (Fk hcl N) ?_ (ready_mono hr (Ne.symm y)) q3 q4 ?_
   ·intro k ok hk hki hun hno
    refine hfree k ok hk hki ?_ hno;by_cases hjk:j=k
    ·subst hjk; exact hjun
    ·rw[getD_set_ne true hjk]at hun; exact hun
   ·rw[ar_ _ _ y]
    have:=Qn s I.dst M.dst v u H' Hj Hj1 (OO a1).2.1;rw[<-this];exact hrest
def yr(P:ak)(pf:bJ->Bool)(ai:Array aQ)(R:my)(W:lp):List aQ->Nat->St->St->Prop
 |[],_,s,s'=>s=s'
 |o::l,j,s,s'=>∃v H',Yields P pf ai o s v H'/\Step P pf ai R W j o s v H'/\yr P pf ai R W l (j+1) (s.put o.dst v H') s'
def KN(pf:bJ->Bool)(x y:aQ):Bool:=
 rX pf x y||((match ed pf x.op,ed pf y.op with
  |.read,.write=>true
  |.write,.read=>true
  |_,_=>false)||((gD x.op&&gD y.op)||((match ed pf x.op with
  |.write=>vX x.op&&isVar y.op
  |_=>false)||(gD x.op&&mz y.op))))
theorem ab3{x y:aQ}(hi:ai[i]?=some x)(d:ai[j]?=some y)(h:i<j)(k:waits ai ai.size j i=false)(v:gD x.op=true)(I:gD y.op=true):KH ai=true:=by
 unfold KH;refine pO.2 ⟨j,iQ.2 (kh.1 d).1,pO.2 ⟨i,iQ.2 h,?_⟩⟩;rw[hi,d];simp[v,I,k]
theorem ab4{x y:aQ}(hi:ai[i]?=some x)(d:ai[j]?=some y)(h:i<j)(k:waits ai ai.size j i=false)(v:gD x.op=true)(I:mz y.op=true):KJ ai=true:=by
 unfold KJ;refine pO.2 ⟨j,iQ.2 (kh.1 d).1,pO.2 ⟨i,iQ.2 h,?_⟩⟩;rw[hi,d];simp[v,I,k]
theorem ab5{x y:aQ}(hi:ai[i]?=some x)(d:ai[j]?=some y)(h:i<j)(k:waits ai ai.size j i=false)(v:vX x.op=true)(I:isVar y.op=true):Ft ai=true:=by
 unfold Ft;refine pO.2 ⟨j,iQ.2 (kh.1 d).1,pO.2 ⟨i,iQ.2 h,?_⟩⟩;rw[hi,d];simp[v,I,k]
def KO(pf:bJ->Bool)(ai:Array aQ)(x y:aQ):Bool:=match ed pf x.op with
 |.write=>p7 x.op&&(isVar y.op&&oX ai)
 |_=>false
def yt(pf:bJ->Bool)(ai:Array aQ):Bool:=
  ar9 ai &&
  (fm ai.size).all fun j=>(match ai[j]? with
    |some d=>(d.after.toList.all fun e => !ON .any e||e.on<j) &&
      ((fm j).all fun i=>match ai[i]? with
        |some h=>waits ai ai.size j i||(h.apart ai d&&d.apart ai h&&(KN pf h d||KO pf ai h d))
        |none=>true)
    |none=>true)
def vY(ai:Array aQ)(R:my)(W:lp):Prop:=(∀i id,(i,id)∈R->∀e∈W,(i<e.1->waits ai ai.size e.1 i=false->id∉e.2.1/\id<e.2.2)/\(e.1<i->waits ai ai.size i e.1=false->id∉e.2.1/\id<e.2.2)) /\
 (∀e∈W,∀d∈W,e.1<d.1->waits ai ai.size d.1 e.1=false->∀id∈d.2.1,id∉e.2.1/\id<e.2.2) /\
 ∀e∈W,∀d∈W,e.1<d.1->waits ai ai.size d.1 e.1=false->∀id∈e.2.1,id<d.2.2
theorem ab6(I:vY ai R W){x y:aQ}(hi:ai[i]?=some x)(M:ai[j]?=some y)(k:i<j)(v:waits ai ai.size j i=false)(d:KN pf x y=true):Fw pf ai R W i x j y:=by
 unfold KN at d;simp only[vm]at d;rcases d with d|d|d|d|d
 ·exact .inl d
 ·split at d
  ·rename_i h1 h2
   refine .inr (.inl ⟨h1,h2,fun id h e he M=>?_⟩);subst M;exact(I.1 i id h e he).1 k v
  ·rename_i h1 h2
   refine .inr (.inr (.inl ⟨h1,h2,fun id h e he M=>?_⟩));subst M;exact(I.1 j id h e he).2 k v
  ·cases d
 ·simp only[aO]at d
  refine .inr (.inr (.inr (.inl ⟨d.1,d.2,?_⟩)))
  grind[oX,ab3]
 ·split at d
  ·rename_i h1
   simp only[aO]at d;refine .inr (.inr (.inr (.inr (.inl ⟨h1,by unfold oY; rw[d.1,ab5 hi M k v d.1 d.2]; rfl,d.2,fun e he U id h O N hei=>?_⟩))));subst U hei;exact I.2.1 O N e he k v id h
  ·cases d
 ·simp only[aO]at d
  refine .inr (.inr (.inr (.inr (.inr ⟨d.1,d.2,?_,fun e he hei id h O N U=>?_⟩))))
  grind[oX,ab4]
  ·subst hei U
   exact⟨fun hm=>(I.2.1 e he O N k v id hm).1 h,I.2.2 e he O N k v id h⟩
theorem ab7(N:vY ai R W){x y:aQ}(h:i<j)(O:waits ai ai.size j i=false)(d:KO pf ai x y=true):Fw pf ai R W i x j y:=by
 unfold KO at d;split at d
 ·rename_i h1
  simp only[aO]at d;refine .inr (.inr (.inr (.inr (.inl ⟨h1,by unfold oY; rw[d.1,d.2.2]; simp,d.2.1,fun e he k id v U I M=>?_⟩))));subst k M;exact N.2.1 U I e he h O id v
 ·cases d
theorem QB{R:my}{W:lp}{s':St}(hB:yt pf ai=true)(hF:vY ai R W):∀(l:List aQ) (k:Nat) (d:Array Bool) (s:St),l=ai.toList.drop k->vV ai d->d.size=ai.size ->
  (∀j,j<ai.size->(d.getD j true=false↔k<=j))->yr P pf ai R W l k s s'->BG P pf ai R W s' l.length d s
 |[],k,d,s,U,_,hsz,y,h=>by
  simp only[yr]at h;refine⟨?_,h⟩;apply ar'.2;intro j I;obtain⟨h0,o,ho,_⟩:=mem_ready.1 I;have O:j<ai.size:=(kh.1 ho).1;have:=(y j O).1 h0;have hlen:(ai.toList.drop k).length=0:=by rw[<-U]; rfl
  grind
 |o::l,k,d,s,U,hcl,hsz,y,h=>by
  obtain⟨v,H',hy,hst,hrest⟩:=h;have h0:ai[k]?=some o:=by
   have:(ai.toList.drop k)[0]?=some o:=by rw[<-U]; rfl
   grind
  have O:k<ai.size:=(kh.1 h0).1;simp only[yt,aO,eD,iQ]at hB;obtain⟨_,hall⟩:=hB;have hlistedlt:∀j,j<k->d.getD j false=true:=by
   intro j I;have hn:¬ (d.getD j true=false):=fun e=>by have:=(y j ab).1 e; omega
   have:j<d.size:=ab;simp[this]at hn|-;exact hn
  have hready:k∈pN .any ai d:=by
   refine mem_ready.2 ⟨(y k O).2 (aV _),o,h0,fun e he hb=>?_⟩;have:=hall k O;rw[h0]at this;simp only[aO,eD]at this;have h1:=this.1 e (by simpa using he);simp only[hb,Ji,xF,dT]at h1
   grind
  refine ab2 h0 l.length d s v H' hcl ?_ hready hy hst ?_
  ·intro j oj I hjk hun hnw
   have N:j<ai.size:=(kh.1 I).1;have hkj:k<=j:=(y j N).1 hun;have:=hall j N;rw[I]at this;simp only[aO,eD,iQ]at this;have h1:=this.2 k ab;rw[h0]at h1;simp only[hnw,xF,aO]at h1;exact⟨h1.1.1,h1.1.2,by
    have M:=h1.2;rw[vm]at M;rcases M with M|M
    ·exact ab6 hF h0 I ab hnw M
    ·exact ab7 hF ab hnw M⟩
  ·refine QB (by simp only[yt,aO,eD,iQ]; exact⟨‹_›,hall⟩) hF l (k+1) _ _ ?_ (Fk hcl hready) (by simpa using hsz) ?_ hrest
   ·rw[<-xA,<-U]; rfl
   ·intro j N
    by_cases e:k=j
    simp_all
    ·rw[getD_set_ne true e,y j N]
     omega
theorem ab8(hm:P.follows .mixedOrders=true)(hB:yt pf ai=true)(M:vY ai R W)(d:cQ s E a)
  (h:yr P pf ai R W ai.toList 0 s s') (N:∀k w',iH E s' k w'->Q .normal k w'):∀y:Option Nat,(Code.region id ai true).wpIn (fz y) 0 P Q a E.w:=by
 intro y;have I:cQ s { E with w:={ E.w with drawn:=E.w.drawn+1 } } a:=⟨d.H,eX (ah.lN (Ext.drawn E.w _)) _ d.fr,Bf d.heap (ah.lN (Ext.drawn E.w _)) d.defers,d.heap.ext (Ext.drawn E.w _)⟩
 refine wpIn_region_any hm (Fi (pf:=pf) _ _ s { E with w:={ E.w with drawn:=E.w.drawn+1 } } a I ?_ (fun k w' O=>N k w' (iH.after (ah.lN (Ext.drawn E.w _)) O)) y);have:=KM _ _ _ (QB (P:=P) (s':=s') hB M ai.toList 0 (rG ai.size false) s au (by
  intro j v;exfalso;rcases nU j ai.size with h'|h'
  ·simp[h']at v
  ·simp[asa (xs:=rG ai.size false) (by simpa using h')]at v) au (by intro j v; simp[v]) h)
 simpa using this
end Go.AL
