/-
 What is proved here: every operation that the logic knows,put together,with calls; what an operation leaves. No program in sight; no condition.
-/
import Derived.Test.YtkkkhbhbjlikhaaGreatDoorMAB
set_option linter.all false
open Array renaming getElem?_eq_some_iff->fS,ext'->jk,setIfInBounds_comm->atC,replicate->pe,getElem?_eq_none->Pf
open Bool renaming and_eq_true->aR,or_eq_true->lQ,not_true->Pe,false_or->jR
open Classical renaming byContradiction->Ph
open Decidable renaming byContradiction->Pj
open Function renaming comp_def->Z7
open Go renaming Value->al,FuncId->bH,TypeId->aJ,World->be,Program->ak,Operand->cN,Oper->aN
open Go.Builtin renaming len_->Z6
open Go.Call renaming operands->Ec
open Go.Op renaming operands->j_
open Go.Oper renaming wpIn->vp,semAt_eq->qn,apart_spec->Pd
open Go.Region renaming wanted->AR,binds->Pb,noSelect->atB,ready->o_
open Go.Value.slice renaming injEq->oU
open List renaming range->jh,length_cons->cJ,getElem?_set_self->dN,getElem?_set_ne->dh,drop_drop->xM,all_eq_true->eX,map_map->ig,replicate->dz,mem_cons_self->dG,set_comm->Z9,map_congr_left->pd,any_eq_true->qo,eq_nil_iff_forall_not_mem->atD,mem_range->qp,nodup_cons->mn
open Nat renaming le_refl->bl,lt_of_lt_of_le->fK,lt_or_ge->mh
open Option.some renaming injEq->bQ
namespace Go.AL
open Go
variable [Dr]
def kr(x:cN):Bool:=x matches .const _
def Kc:AV->AV->Option AV
 |.lit (.int k a),.lit (.int _ b)=>some (.lit (.int k (if b>a then b else a)))
 |_,_=>none
def Ke:AV->AV->Option AV
 |.lit (.int k a),.lit (.int _ b)=>some (.lit (.int k (if b<a then b else a)))
 |_,_=>none
def yk(f:AV->AV->Option AV):AV->List AV->Option AV
 |x,[]=>some x
 |x,y::l=>match f x y with
  |some z=>yk f z l
  |none=>none
def abB:List AV->Option AV
 |[]=>none
 |x::rest=>yk Kc x rest
def abC:List AV->Option AV
 |[]=>none
 |x::rest=>yk Ke x rest
def Bh(k:SK)(x:AV):Option AV:=
 match k,x with
 |.str,.lit (.string s)=>some (.int s.size)
 |.slice _ _ _,.lit (.string _)=>none
 |.slice _ _ _,x=>match Et x with
  |some n=>some (.int n)
  |none=>none
 |_,_=>none
def Kf(P:ak)(b:Builtin)(fV:List aJ)(args:List AV):Option AV:=
 match b with
 |.len=>match fV[0]?,args[0]? with
  |some t,some x=>Bh (cZ P t) x
  |_,_=>none
 |.max=>abB args
 |.min=>abC args
 |.cap=>match fV,args with
  |t::_,.lit (.slice none 0 0)::_=>match cZ P t with
   |.slice _ _ _=>some (.int 0)
   |_=>none
  |_,_=>none
 |_=>none
def Kg(r:cN->AV)(fn:Fn)(first caps:Array cN):Option AV:=
 match fn with
 |.func f=>if first.toList.isEmpty then some (.clo f (caps.toList.map r)) else none
 |_=>none
def Kh(P:ak)(r:cN->AV)(c:Call):Option AV:=
 match c.callee with
 |.builtin b=>Kf P b c.argTypes.toList (c.args.toList.map r)
 |_=>none
def kN(P:ak)(r:cN->AV):Op->Option AV
 |.move x | .assign x=>some (r x)
 |.pick c a b=>match r c with
  |.lit (.bool t)=>some (bif t then r a else r b)
  |_=>none
 |.extract t i=>match r t with
  |.tuple q=>q[i]?
  |_=>none
 |.field t x f=>match x6 P t f with
  |some k=>JP k (r x)
  |none=>none
 |.fieldAddr t x f=>match x6 P t f with
  |some k=>JD k (r x)
  |none=>none
 |.indexAddr t x i=>nK (cZ P t) (r x) (r i)
 |.index t x i=>tC (cZ P t) (r x) (r i)
 |.binOp op t x y _=>iT P op t (kr x||kr y) (r x) (r y)
 |.unOp op _ x=>ye op (r x)
 |.convert s d x=>yf P s d (r x)
 |.build t parts=>JR P t (parts.toList.map fun p=>(p.1,r p.2))
 |.buildSlice t n parts=>yj P t n (parts.toList.map fun p=>(p.1,r p.2))
 |.slice t x lo hi mx=>lW P t (r x) (lo.map r) (hi.map r) (mx.map r)
 |.makeFunc fn first caps=>Kg r fn first caps
 |.nilCheck x=>match r x with
  |.ptr id ax k row g=>some (.ptr id ax k row g)
  |.cptr cells=>some (.cptr cells)
  |.clo f caps=>some (.clo f caps)
  |_=>none
 |.makeInterface t _=>match P.underlying t with
  |some (.interface _)=>none
  |some _=>some .ifc
  |none=>none
 |.call c=>Kh P r c
 |_=>none
def vI{E:af}{r:cN->AV}{ρ:cN->al}(h:∀ x,ae E (r x) (ρ x)):∀(l:List cN),aq E (l.map r) (l.map ρ)
 |[]=>by simp[aq]
 |x::l=>by simp only[List.map_cons,aq]; exact⟨h x,vI h l⟩
variable {E E':af} {r d:cN->AV} {ρ:cN->al} {u:al} {v:AV} {P:ak} {w w':be} {args:List AV} {o q x y:aN} {H' H:List ay} {f:bH} {id i k j m:Nat} {a:Act} {s s':St} {ah:Array aN} {t:aJ} {Q:Exit->Act->be->Prop} {c:Code} {fn:Func} {op:Op}
theorem Ki(h:∀x,ae E (r x) (ρ x))(o:Option cN):tx E (o.map r) (o.map ρ):=by
 cases o with
 |none=>simp[tx]
 |some x=>grind[tx]
def ku(E:af)(v:AV)(u:al)(w':be):Prop:=Ext E.w w'/\ae { E with w:=w' } v u
theorem ku.same(h:ae E v u):ku E v u E.w:=⟨Ext.refl _,h⟩
theorem qB{s:Sem al}(h:s.run P w=.ok u w'):(do pure (Next.value (<- s)):Sem Next).run P w=.ok (.value u) w':=by
 simp[h]
theorem Kj{P:ak}{E:af}{f:AV->AV->Option AV}{g:al->al->Sem al}
  (q:∀x y c d z,f x y=some z->ae E x c->ae E y d->∃u,(g c d).run P E.w=.ok u E.w/\ae E z u) :
  ∀(rest:List AV) (x:AV) (c:al) (cs:List al) (v:AV),ae E x c->aq E rest cs->yk f x rest=some v ->
   ∃u,(cs.foldlM g c).run P E.w=.ok u E.w/\ae E v u
 |[],x,c,cs,v,A,hr,h=>by
  cases cs with
  |nil=>simp_all[yk]
  |cons _ _=>simp[aq]at hr
 |y::rest,x,c,cs,v,A,hr,h=>by
  cases cs with
  |nil=>simp[aq]at hr
  |cons d cs=>
   simp only[aq]at hr;simp only[yk]at h;split at h
   ·rename_i z B
    obtain⟨u,I,F⟩:=q x y c d z B A hr.1;obtain⟨J,M,N⟩:=Kj q rest z u cs v F hr.2 h
    simp_all
   ·cases h
theorem abD(x y:AV)(c d:al)(z:AV)(h:Kc x y=some z)(g:ae E x c)(q:ae E y d):
  ∃u,(Builtin.max2 c d).run P E.w=.ok u E.w/\ae E z u:=by
 unfold Kc at h;split at h
 ·cases h
  simp only[ae]at g q;subst g; subst q;exact⟨_,rfl,by simp[ae]⟩
 ·cases h
theorem abE(x y:AV)(c d:al)(z:AV)(h:Ke x y=some z)(g:ae E x c)(q:ae E y d):
  ∃u,(Builtin.min2 c d).run P E.w=.ok u E.w/\ae E z u:=by
 unfold Ke at h;split at h
 ·cases h
  simp only[ae]at g q;subst g; subst q;exact⟨_,rfl,by simp[ae]⟩
 ·cases h
theorem abF{b:Builtin}{fV:Array aJ}{ty:aJ}{consts:Array Bool}{cargs:Array al}
  (h:Kf P b fV.toList args=some v) (hr:aq E args cargs.toList):∃u,(builtin b fV ty consts cargs).run P E.w=.ok (.value u) E.w/\ae E v u:=by
 cases b<;>simp only[Kf]at h<;>try cases h
 case len=>
  split at h
  case h_2=>cases h
  rename_i t x A J;obtain⟨c,hc,d⟩:=rS hr J;have F:fV[0]?=some t:=nJ;have I:cargs[0]?=some c:=nJ;unfold Bh at h;split at h
  ·rename_i s g
   cases h
   simp_all[ae,goInt,builtin,Z6,Sem.cK,vC]
  ·cases h
  ·rename_i e sz c9 g U
   split at h
   ·rename_i n B
    cases h;obtain⟨M,_⟩:=kn g;rcases aaE B d with⟨s,rfl,_⟩|⟨bg,cap,rfl⟩
    ·exfalso
     unfold Et at B
     grind[ae,fN]
    simp_all[goInt,ae,builtin,Z6,Sem.cK]
   ·cases h
  ·cases h
 case max=>
  cases args with
  |nil=>cases h
  |cons x rest=>
   cases q:cargs.toList with
   |nil=>grind[aq]
   |cons c cs=>
    rw[q]at hr;simp only[aq]at hr;obtain⟨u,N,O⟩:=Kj (P:=P) abD rest x c cs v hr.1 hr.2 h
    simp_all[builtin,Builtin.max_]
 case min=>
  cases args with
  |nil=>cases h
  |cons x rest=>
   cases q:cargs.toList with
   |nil=>grind[aq]
   |cons c cs=>
    rw[q]at hr;simp only[aq]at hr;obtain⟨u,N,O⟩:=Kj (P:=P) abE rest x c cs v hr.1 hr.2 h
    simp_all[builtin,Builtin.min_]
 case cap=>
  split at h
  case h_2=>cases h
  rename_i t W as A;obtain⟨c,hc,d⟩:=rS (i:=0) hr rfl;have F:fV[0]?=some t:=by
   have:fV.toList[0]?=some t:=by rw[A]; rfl
   grind
  have I:cargs[0]?=some c:=nJ;simp only[ae]at d;subst d;split at h
  ·rename_i e sz c9 g
   cases h;obtain⟨M,_⟩:=kn g
   simp_all[goInt,ae,builtin,Builtin.cap_,Sem.cK]
  ·cases h
theorem abG(HE:aO E)(hr:∀ x,ae E (r x) (ρ x))(h:kN P r o.op=some v):
  ∃u w',(execOp ρ o).run P E.w=.ok (.value u) w'/\ku E v u w':=by
 obtain⟨dst,op,J,pos,after,guard⟩:=o;have same:∀{s:Sem al},(∃u,s.run P E.w=.ok u E.w/\ae E v u)->∃u w',(do pure (Next.value (<- s)):Sem Next).run P E.w=.ok (.value u) w'/\ku E v u w':=by
  rintro s ⟨u,q,B⟩;exact⟨u,E.w,qB q,ku.same B⟩
 cases op<;>simp only[kN]at h<;>try cases h
 case move x=>exact⟨ρ x,E.w,rfl,ku.same (hr x)⟩
 case assign x=>exact⟨ρ x,E.w,rfl,ku.same (hr x)⟩
 case pick c a b=>
  split at h
  ·rename_i t I
   cases h;have hc:=hr c;rw[I]at hc;simp only[ae]at hc;refine⟨if t then ρ a else ρ b,E.w,?_,?_⟩
   ·simp[execOp,hc,asBool]
   grind[ku.same]
  ·cases h
 case build t parts=>
  obtain⟨u,q,B⟩:=aaT (E:=E) (cparts:=parts.toList.map fun p=>(p.1,ρ p.2)) h ai (by
   simp only[ig];have:=vI hr (parts.toList.map (·.2))
   grind[Z7])
  have e:(parts.toList.map fun p=>(p.1,ρ p.2)).toArray=parts.map fun(i,x)=>(i,ρ x):=by
   apply jk; simp
  rw[e]at q;exact same ⟨u,q,B⟩
 case buildSlice t n parts=>
  obtain⟨u,w',q,B,M⟩:=aa_ HE (cparts:=parts.toList.map fun p=>(p.1,ρ p.2)) h ai (by
   simp only[ig];have:=vI hr (parts.toList.map (·.2))
   grind[Z7])
  have e:(parts.toList.map fun p=>(p.1,ρ p.2)).toArray=parts.map fun(i,x)=>(i,ρ x):=by
   apply jk; simp
  rw[e]at q;exact⟨u,w',qB q,B,M⟩
 case nilCheck x=>
  have g:=hr x;split at h
  ·rename_i id ax k row O he
   cases h;rw[he]at g;have A:=g;simp only[ae]at A;obtain⟨⟨b,o,hc⟩,_⟩:=A;exact⟨ρ x,E.w,by simp[execOp,hc],ku.same g⟩
  ·rename_i cells he
   cases h;rw[he]at g;have A:=g;simp only[ae]at A;obtain⟨_,b,o,hc,_⟩:=A;exact⟨ρ x,E.w,by simp[execOp,hc],ku.same g⟩
  ·rename_i f caps he
   cases h;rw[he]at g;have A:=g;simp only[ae]at A;obtain⟨cs,hc,_⟩:=A;exact⟨ρ x,E.w,by simp[execOp,hc],ku.same g⟩
  ·cases h
 case binOp op t x y _=>
  refine same (aaO (x:=x) (y:=y) (fun F=>?_) h (hr x) (hr y));cases x<;>cases y<;>first|rfl|exact F
 case unOp op _ x=>exact same (aaP h (hr x))
 case convert s d x=>exact same (aaQ h (hr x))
 case makeInterface t x=>
  split at h
  ·cases h
  ·rename_i d U W
   cases h;refine same ⟨.iface t (ρ x),?_,by simp only[ae]; exact⟨_,_,rfl⟩⟩
   simp_all[Instr.makeInterface,Sem.cK]
  ·cases h
 case makeFunc fn first caps=>
  cases fn<;>simp only[Kg]at h<;>try cases h
  rename_i f;split at h
  ·rename_i Y
   cases h;refine⟨.func (.func f) (first.map ρ) (caps.map ρ),E.w,rfl,ku.same ?_⟩
   simp_all[ae,vI]
  ·cases h
 case slice t x lo hi mx=>exact same (aaK h (hr x) (Ki hr lo) (Ki hr hi) (Ki hr mx))
 case fieldAddr t x f=>
  split at h
  ·rename_i k F; exact same (aaG F h (hr x))
  ·cases h
 case field t x f=>
  split at h
  ·rename_i k F; exact same (aaS F h (hr x))
  ·cases h
 case indexAddr t x i=>exact same (aaH HE h (hr x) (hr i))
 case index t x i=>exact same (aaR h (hr x) (hr i))
 case extract t i=>
  split at h
  ·rename_i vs I
   have g:=hr t;rw[I]at g;simp only[ae]at g;obtain⟨cs,hc,N⟩:=g;obtain⟨u,q,B⟩:=rS N h;refine same ⟨u,?_,B⟩
   simp_all[Instr.extract]
  ·cases h
 case call c=>
  obtain⟨callee,args,argTypes⟩:=c;cases callee<;>simp only[Kh]at h<;>try cases h
  rename_i b;obtain⟨u,q,B⟩:=abF (P:=P) (E:=E) (b:=b) (fV:=argTypes) (ty:=J) (consts:=args.map fun | .const _=>true|_=>false) (cargs:=args.map ρ) h
   (by simpa using vI hr args.toList)
  grind[execOp,resolve,invoke,ku.same]
def ES(P:ak)(r:cN->AV)(H:List ay)(c:Call):Option (AV × List ay):=
 match c.callee with
 |.builtin .append=>match c.args.toList,c.argTypes.toList with
  |[s,x],[t,xt]=>match vG P t xt (r s) (r x) H with
   |some y=>some y
   |none=>yg P t xt (r s) (r x) H
  |_,_=>none
 |.builtin .clear=>match c.args.toList,c.argTypes.toList with
  |[x],[t]=>match Ba P t (r x) H with
   |some H'=>some (.tuple [],H')
   |none=>none
  |_,_=>none
 |.builtin .delete=>match c.args.toList,c.argTypes.toList with
  |[x,k],t::_=>match A' P t (r x) (r k) H with
   |some H'=>some (.tuple [],H')
   |none=>none
  |_,_=>none
 |_=>none
def gB(P:ak)(r:cN->AV)(H:List ay):Op->Option (AV × List ay)
 |.alloc t=>vE P t H
 |.box _ x=>EH (r x) H
 |.store t a x=>match rT P t (r a) (r x) H with
  |some H'=>some (.undef,H')
  |none=>none
 |.makeSlice t l c=>A8 P t (r l) (r c) H
 |.buildSlice t n parts=>Bb P t n (parts.toList.map fun p=>(p.1,r p.2)) H
 |.range t x=>EJ P t (r x) H
 |.next it isString=>EK (r it) isString H
 |.makeMap _ none=>some (.map H.length,H++[.map [] 0])
 |.mapUpdate t m k v=>match tJ P t (r m) (r k) (r v) H with
  |some H'=>some (.undef,H')
  |none=>match Bd P t (r m) (r k) (r v) H with
   |some H'=>some (.undef,H')
   |none=>none
 |.insert t m k v=>match tJ P t (r m) (r k) (r v) H with
  |some H'=>some (.undef,H')
  |none=>none
 |.lookup t m k false=>match pA P t (r m) (r k) false H with
  |some v=>some (v,H)
  |none=>Bc P t (r m) (r k) H
 |.mapEntry t m k=>Bf P t (r m) (r k) H
 |.entryStore _ m s x=>match Bg (r m) (r s) (r x) H with
  |some H'=>some (.undef,H')
  |none=>none
 |.call c=>ES P r H c
 |_=>none
theorem e9.of_le(d:aO { w:=w',H:=H',ad:=E.ad,X:=E.X })(g:E.le { w:=w',H:=H',ad:=E.ad,X:=E.X })(u:al):
  e9 E .undef H' u w':=⟨E.ad,E.X.r,by simp[ae],d,g⟩
theorem ku.toOp(HE:aO E)(h:ku E v u w'):e9 E v E.H u w':=
 ⟨E.ad,E.X.r,h.2,HE.ext h.1,af.jn h.1⟩
theorem abH(HE:aO E)(hr:∀ x,ae E (r x) (ρ x))
  (h:gB P r E.H o.op=some (v,H')) :
  ∃n u w',(execOp ρ o).run P E.w=.ok n w'/\(n=.value u\/n=.skip/\u=undef)/\e9 E v H' u w':=by
 obtain⟨dst,op,M,pos,after,guard⟩:=o;have same:∀{s:Sem al},(∃u w',s.run P E.w=.ok u w'/\e9 E v H' u w') ->
   ∃n u w',(do pure (Next.value (<- s)):Sem Next).run P E.w=.ok n w'/\(n=.value u\/n=.skip/\u=undef)/\e9 E v H' u w':=by
  rintro s ⟨u,w',d,g⟩;exact⟨_,u,w',qB d,.inl rfl,g⟩
 cases op<;>simp only[gB]at h<;>try cases h
 case alloc t=>exact same (aa2 HE h)
 case box t x=>exact same (aa7 HE h (hr x))
 case store t a x=>
  split at h
  ·rename_i H1 hs
   cases h;obtain⟨w',d,g,q⟩:=Qb HE hs (hr a) (hr x);exact⟨.skip,undef,w',by simp[execOp,d],.inr ⟨rfl,rfl⟩,e9.of_le g q _⟩
  ·cases h
 case makeSlice t l c=>exact same (aa9 HE h (hr l) (hr c))
 case buildSlice t n parts=>
  obtain⟨u,w',d,g⟩:=abl HE (cparts:=parts.toList.map fun p=>(p.1,ρ p.2)) h ai (by
   simp only[ig];have:=vI hr (parts.toList.map (·.2));simpa[ig,Z7]using this)
  have e:(parts.toList.map fun p=>(p.1,ρ p.2)).toArray=parts.map fun(i,x)=>(i,ρ x):=by
   apply jk; simp
  rw[e]at d;exact same ⟨u,w',d,g⟩
 case range t x=>exact same (aba HE h (hr x))
 case next it isString=>exact same (abb HE h (hr it))
 case makeMap t res=>
  cases res with
  |some _=>cases h
  |none=>
   cases h;exact same ⟨_,_,by simp[Instr.makeMap,newObj]; rfl,abe HE⟩
 case mapUpdate t m k x=>
  split at h
  ·rename_i H1 hs
   cases h;obtain⟨w',d,g,q⟩:=Qq HE hs (hr m) (hr k) (hr x);exact⟨.skip,undef,w',by simp[execOp,d],.inr ⟨rfl,rfl⟩,e9.of_le g q _⟩
  ·split at h
   ·rename_i H1 hs
    cases h;obtain⟨w',d,g⟩:=abu HE hs (hr m) (hr k) (hr x);exact⟨.skip,undef,w',by simp[execOp,d],.inr ⟨rfl,rfl⟩,g _⟩
   ·cases h
 case lookup t m k ok=>
  cases ok with
  |true=>cases h
  |false=>
   simp only[]at h;split at h
   ·rename_i W U
    cases h;obtain⟨u,d,g⟩:=Qn HE U (hr m) (hr k);exact same ⟨u,_,d,ku.toOp HE ⟨Ext.refl _,g⟩⟩
   ·exact same (abt HE h (hr m) (hr k))
 case mapEntry t m k=>exact same (abz HE h (hr m) (hr k))
 case entryStore t m s x=>
  split at h
  ·rename_i H1 hs
   cases h;obtain⟨w',d,g⟩:=abA (P:=P) (t:=t) HE hs (hr m) (hr s) (hr x);exact⟨.skip,undef,w',by simp[execOp,d],.inr ⟨rfl,rfl⟩,g _⟩
  ·cases h
 case insert t m k x=>
  split at h
  ·rename_i H1 hs
   cases h;obtain⟨w',d,g,q⟩:=Qq HE hs (hr m) (hr k) (hr x);exact⟨.skip,undef,w',by simp[execOp,d],.inr ⟨rfl,rfl⟩,e9.of_le g q _⟩
  ·cases h
 case call c=>
  obtain⟨callee,args,argTypes⟩:=c;unfold ES at h;split at h
  ·rename_i A
   simp only[]at A;subst A;simp only[]at h;split at h
   case h_2=>cases h
   rename_i s x t xt F I;have B:args=#[s,x]:=by apply jk; simpa using F
   have N:argTypes=#[t,xt]:=by apply jk; simpa using I
   subst B;subst N;split at h
   ·rename_i y J
    cases h;obtain⟨u,w',d,g⟩:=abk (P:=P) (ty:=M) HE J (hr s) (hr x);refine⟨.value u,u,w',?_,.inl rfl,g⟩;simp[execOp,resolve,invoke,builtin,d]
   ·obtain⟨u,w',d,g⟩:=aaZ (P:=P) (ty:=M) HE h (hr s) (hr x)
    refine⟨.value u,u,w',?_,.inl rfl,g⟩;simp[execOp,resolve,invoke,builtin,d]
  ·rename_i A
   simp only[]at A;subst A;simp only[]at h;split at h
   case h_2=>cases h
   rename_i x t F I;have B:args=#[x]:=by apply jk; simpa using F
   have N:argTypes=#[t]:=by apply jk; simpa using I
   subst B;subst N;split at h
   ·rename_i H1 J
    cases h;obtain⟨w',d,g,q⟩:=abi (P:=P) (ty:=M) (fV:=#[t]) (cs:=#[ρ x]) HE J rfl rfl (hr x);refine⟨.value (.tuple #[]),.tuple #[],w',?_,.inl rfl,E.ad,E.X.r,by simp[ae,aq],g,q⟩;simp[execOp,resolve,invoke,builtin,d]
   ·cases h
  ·rename_i A
   simp only[]at A;subst A;simp only[]at h;split at h
   case h_2=>cases h
   rename_i x k t Y F I;have B:args=#[x,k]:=by apply jk; simpa using F
   subst B;split at h
   ·rename_i H1 J
    cases h;have O:argTypes[0]?=some t:=by
     have:argTypes.toList[0]?=some t:=by rw[I]; rfl
     simpa using this
    obtain⟨w',d,g,q⟩:=abg (P:=P) (ty:=M) (fV:=argTypes) (cs:=#[ρ x,ρ k]) HE J O rfl rfl (hr x) (hr k);refine⟨.value (.tuple #[]),.tuple #[],w',?_,.inl rfl,E.ad,E.X.r,by simp[ae,aq],g,q⟩;simp[execOp,resolve,invoke,builtin,d]
   ·cases h
  ·cases h
def iH(P:ak)(f:bH)(args:List AV)(H:List ay)(Q:AV->List ay->Prop):Prop:=
 ∀(E:af) (d:Array al),E.H=H->aO E->aq E args d.toList ->
  Calls P f d E.w fun e w'=>∃c v H',e=.returned c/\Q v H'/\e9 E v H' c w'
def eA(P:ak)(f:bH)(args:List AV)(v:AV):Prop:=∀H,iH P f args H fun d H'=>d=v/\H'=H
theorem iH.mono{P:ak}{f:bH}{args:List AV}{H:List ay}{Q d:AV->List ay->Prop}(h:iH P f args H Q)(A:∀v H',Q v H'->d v H'):iH P f args H d:=
 fun E g B F I=>(h E g B F I).mono fun _ _ ⟨c,v,H',e,q,r⟩=>⟨c,v,H',e,A v H' q,r⟩
def eC(P:ak)(f:bH):Bool:=
 match P.funcs[f]? with
 |some fn => !(fn.name == "runtime.NumGoroutine")&&fn.body.isSome
 |none=>false
theorem vJ(h:eC P f=true)(args:Array al)(w:be):(callFunc f args).run P w=.ok (.enter f args) w:=by
 unfold eC at h;split at h
 ·rename_i fn d
  simp only[aR,Bool.not_eq_true']at h;have g:fn.name ≠ "runtime.NumGoroutine" :=nJ;have q:fn.body≠none:=fun e=>by rw[e]at h; simp at h
  simp_all[callFunc]
 ·cases h
def Kk(r:cN->AV)(c:Call):Option (bH × List AV):=
 match c.callee with
 |.value g=>match r g with
  |.clo f caps=>some (f,c.args.toList.map r++caps)
  |_=>none
 |_=>none
def g_(r:cN->AV):Op->Option (bH × List AV)
 |.call c=>Kk r c
 |_=>none
theorem Kl(hr:∀ x,ae E (r x) (ρ x))
  (h:g_ r o.op=some (f,args)) (F:eC P f=true):∃q:Array al,(execOp ρ o).run P E.w=.ok (.enter f q) E.w/\aq E args q.toList:=by
 obtain⟨dst,op,B,pos,after,guard⟩:=o;cases op<;>simp only[g_]at h<;>try cases h
 rename_i c;obtain⟨callee,as,argTypes⟩:=c;cases callee<;>simp only[Kk]at h<;>try cases h
 rename_i g;split at h
 case h_2=>cases h
 rename_i I caps A;cases h;have d:=hr g;rw[A]at d;simp only[ae]at d;obtain⟨cs,hc,J⟩:=d
 simp_all[execOp,resolve,Deferred.ofValue,invoke,vJ,mv,vI]
inductive Cls where
 |pure|read|write
 deriving DecidableEq
def abJ(pf:bH->Bool)(c:Call):Bool:=
 match c.argTypes.toList with
 |[t]=>pf (t+1000000)
 |_=>false
def ef(pf:bH->Bool):Op->Cls
 |.load ..=>.read
 |.lookup t _ _ _=>if pf (t+1500000) then .write else .read
 |.buildSlice t n _=>if pf (t+100000*n+2000000) then .write else .pure
 |.alloc .. | .box .. | .store .. | .makeSlice .. | .mapUpdate .. | .insert .. | .makeMap .. | .mapEntry .. | .entryStore .. | .range .. | .next .. | .entry ..=>.write
 |.go .. | .defer .. | .panic .. | .send .. | .recv .. | .select .. | .makeChan .. | .ready .. | .waits ..=>.write
 |.call c=>match c.callee with
  |.builtin .len=>match abJ pf c with
   |true=>.read
   |false=>.pure
  |.builtin .max | .builtin .min | .builtin .cap=>.pure
  |.value (.func f)=>if pf f then .pure else .write
  |_=>.write
 |_=>.pure
def tM(P:ak)(r:cN->AV)(H:List ay)(c:Call):Option AV:=
 match c.callee,c.args.toList,c.argTypes.toList with
 |.builtin .len,[a],[t]=>match iF P t,r a with
  |some _,.map id=>match H[id]? with
   |some (.map d _)=>some (.int d.length)
   |_=>none
  |_,_=>none
 |_,_,_=>none
theorem abK(HE:aO E)(hr:∀ x,ae E (r x) (ρ x)){c:Call}(M:o.op=.call c)(h:tM P r E.H c=some v):
  ∃u,(execOp ρ o).run P E.w=.ok (.value u) E.w/\ae E v u:=by
 obtain⟨dst,op,type,pos,after,guard⟩:=o;subst M;obtain⟨callee,args,argTypes⟩:=c;unfold tM at h;split at h
 case h_2=>cases h
 rename_i a t d B I;simp only[]at d B I;subst d;have A:args=#[a]:=by apply jk; omega
 have F:argTypes=#[t]:=by apply jk; omega
 subst A;subst F;split at h
 case h_2=>cases h
 rename_i p id N J;split at h
 case h_2=>cases h
 rename_i es cl hH;cases h;have g:=hr a;rw[J]at g;obtain⟨b,n,q,O,h1,U,W⟩:=vF HE hH g;obtain⟨kt,et⟩:=p;have Y:=(iG.1 W).1;have e2:(getObj b).run P E.w=.ok (.map q cl) E.w:=by simp[getObj,Sem.run,U]
 refine⟨goInt q.size,?_,by simp[ae,goInt,Y]⟩;simp only[execOp,resolve,Sem.run_bind,Sem.run_pure,Result.andThen_ok,invoke];simp[builtin,Z6,Sem.cK (lu N),O,e2]
def im(P:ak)(r:cN->AV)(H:List ay):Op->Option AV
 |.load t a=>iS P t (r a) H
 |.lookup t m k ok=>pA P t (r m) (r k) ok H
 |.call c=>tM P r H c
 |_=>none
theorem abL(HE:aO E)(hr:∀ x,ae E (r x) (ρ x))(h:im P r E.H o.op=some v):
  ∃u,(execOp ρ o).run P E.w=.ok (.value u) E.w/\ae E v u:=by
 obtain⟨dst,op,q,pos,after,guard⟩:=o;cases op<;>simp only[im]at h<;>try cases h
 case load t a=>
  obtain⟨u,d,g⟩:=PQ HE h (hr a);exact⟨u,qB d,g⟩
 case lookup t m k ok=>
  obtain⟨u,d,g⟩:=Qn HE h (hr m) (hr k);exact⟨u,qB d,g⟩
 case call c=>exact abK HE hr rfl h
def e_(P:ak)(f:bH)(args:List AV)(H:List ay)(v:AV)(H':List ay):Prop:=iH P f args H fun d H1=>d=v/\H1=H'
def dq(ah:Array aN)(fr:List AV)(o:aN):Option Bool:=
 match o.guard with
 |none=>some true
 |some (j,d)=>match (ah[j]?).bind (·.dst) with
  |some t=>match fr[t]? with
   |some (.lit (.bool b))=>some (b==d)
   |some (.tuple [])=>some false
   |_=>none
  |none=>none
def Frz(H:List ay)(v d:AV)(H1:List ay):Prop:=
 ∃(id ax:Nat) (ks:List Kd) (rZ:List (List G)),v=.vQ ks.length id ax 0 rZ.length/\H[id]?=some (.vQ ks.length ax (rZ.map (bh ks)))/\d=.listF ks rZ/\H1=H.set id .dead
theorem Qx(HE:aO E){ax:Nat}{ks:List Kd}{rZ:List (List G)} (F:E.H[id]? = some (.vQ ks.length ax (rZ.map (bh ks)))) {c:al} (hr:ae E (.vQ ks.length id ax 0 rZ.length) c):
  ae { w:=E.w,H:=E.H.set id .dead,ad:=E.ad.set id none,X:=E.X } (.listF ks rZ) c:=by
 have N:=af.x5 HE id;have q:=HE.obj id _ F;rw[m_];simp only[ae]at hr|-;obtain⟨⟨bg,cap,rfl,M,_⟩,_,B⟩:=hr;obtain⟨q1,U⟩:=B ⟨_,F,rfl⟩;have I:iC (rZ.map (bh ks)):=by
  intro r hr;obtain⟨g,_,rfl⟩:=List.mem_map.1 hr;exact jC ks g
 refine⟨I,bg,cap,ai,by simpa using M,?_⟩;simp only[bK]at q;rcases q with⟨d,W⟩|⟨b,mm,d,W,B,_,Y⟩
 grind
 ·obtain⟨g1,o,g2,J⟩:=U b mm d
  by_cases hm:rZ=[]
  grind
  ·right
   have:0<rZ.length:=nJ;simp at B;have q:=g2 ab;simp at q;subst q;simp only[oU]at J;refine⟨b,0,J.1,⟨(HE.lt id b mm d).1,?_,(HE.lt id b mm d).2⟩,pk N.toC _ I rfl Y⟩;rintro(⟨j,c',A⟩|⟨l,k,c',A⟩)
   case inr=>exact HE.eY _ _ _ _ _ _ d A
   simp only[List.getElem?_set]at A;split at A
   grind
   ·rename_i O
    exact O (HE.inj _ _ _ _ _ d A)
def ym(P:ak)(r:cN->AV)(H:List ay)(v:AV)(H':List ay):Op->Prop
 |.store t a x=>∃d H1,Frz H (r x) d H1/\rT P t (r a) d H1=some H'/\v=.undef
 |_=>False
theorem abN(o:Op)(h:∀x∈o.operands,r x=d x):ym P r H v H' o=ym P d H v H' o:=by
 cases o<;>try rfl
 grind[ym,j_]
theorem abO(HE:aO E)(hr:∀ x,ae E (r x) (ρ x))(h:ym P r E.H v H' o.op):
  ∃w',(execOp ρ o).run P E.w=.ok .skip w'/\e9 E v H' undef w':=by
 obtain⟨dst,op,N,pos,after,guard⟩:=o;cases op<;>try exact h.elim
 rename_i t a x;obtain⟨O,H1,⟨id,ax,ks,rZ,F,q,rfl,rfl⟩,I,rfl⟩:=h;have A:=hr x;rw[F]at A;have g:=af.x5 HE id;obtain⟨w',d,J,M⟩:=Qb (E:={ w:=E.w,H:=E.H.set id .dead,ad:=E.ad.set id none,X:=E.X }) (aO.drop HE id fun o B=>by rw[q]at B; cases B; rfl) I (dW g _ (hr a)) (Qx HE q A);have d:(Instr.storeAt t (ρ a) (ρ x)).run P E.w=.ok () w':=d;exact⟨w',by simp[execOp,d],E.ad.set id none,E.X.r,by simp[ae],J,g.trans M⟩
def Yields(P:ak)(pf:bH->Bool)(ah:Array aN)(o:aN)(s:St)(v:AV)(H':List ay):Prop:=
 match dq ah s.fr o with
 |none=>False
 |some false=>v=.tuple []/\H'=s.H
 |some true=>match ef pf o.op with
  |.pure=>H'=s.H/\(kN P s.eval o.op=some v\/∃f args,g_ s.eval o.op=some (f,args)/\eC P f=true/\eA P f args v)
  |.read=>H'=s.H/\im P s.eval s.H o.op=some v
  |.write=>(gB P s.eval s.H o.op=some (v,H')\/∃f args,g_ s.eval o.op=some (f,args)/\eC P f=true/\e_ P f args s.H v H')\/((∃t id m,o.op=.alloc t/\tG P t id m s.H=some (v,H'))\/ym P s.eval s.H v H' o.op)
def lX(fr:List AV)(dst:Option Tmp)(v:AV):List AV:=
 match dst with
 |some d=>fr.set d v
 |none=>fr
def St.put(s:St)(dst:Option Tmp)(v:AV)(H':List ay):St:=⟨lX s.fr dst v,H'⟩
theorem yn{E:af}:∀{as:List AV} {g:List al} {a:AV} {v:al} (d:Nat),aq E as g->ae E a v->aq E (as.set d a) (g.set d v)
 |[],[],_,_,_,_,_=>by simp[aq]
 |[],_::_,_,_,_,h,_=>by simp[aq]at h
 |_::_,[],_,_,_,h,_=>by simp[aq]at h
 |_::as,_::g,a,v,0,h,q=>by simp only[aq]at h; simp only[List.set_cons_zero,aq]; exact⟨q,h.2⟩
 |_::as,_::g,a,v,d+1,h,q=>by simp only[aq]at h; simp only[List.set_cons_succ,aq]; exact⟨h.1,yn d h.2 q⟩
theorem Km(h:aq E s.fr a.tmps.toList)(g:E.le E')(dst:Option Tmp)(q:ae E' v u):
  aq E' (lX s.fr dst v) (a.put dst u).tmps.toList:=by
 have h':=gJ g _ h;cases dst with
 |none=>exact h'
 |some d=>
  grind[lX,Act.put,yn]
def fz(r:Option Nat):Fence:={ Fence.wide with round:=r }
theorem Kn{r:Option Nat}{n:Nat}{args:Array al}{R:Ending->be->Prop}(h:Calls P f args w R):CallsIn (fz r) n P f args w R:=(callsIn_wide (n:=n)).2 h
theorem put_defers(a:Act)(dst:Option Tmp)(v:al):(a.put dst v).defers=a.defers:=by cases dst<;>rfl
theorem Qy(h:bM s E a){b:Bool}(d:dq ah s.fr o=some b):
  AR o (yielded ah a.tmps)=b:=by
 unfold dq at d;unfold AR;cases q:o.guard with
 |none=>grind
 |some A=>
  obtain⟨j,I⟩:=A;rw[q]at d;simp only[]at d|-;split at d
  case h_2=>cases d
  rename_i t J;split at d
  ·rename_i M g
   cases d;obtain⟨u,B,F⟩:=rS h.fr g
   grind[ae,yielded]
  ·rename_i g
   cases d;obtain⟨u,B,F⟩:=rS h.fr g
   grind[ae,yielded]
  ·cases d
def hG(E:af)(s':St)(q:Act)(w':be):Prop:=
 ∃d g,bM s' { w:=w',H:=s'.H,ad:=d,X:=E.X.re g } q/\E.le { w:=w',H:=s'.H,ad:=d,X:=E.X.re g }
theorem Ko{pf:bH->Bool}(hs:bM s E a)(hi:ah[i]? = some o)
  (d:Yields P pf ah o s v H') {K:Act->be->Prop} {Q:Exit->Act->be->Prop} (hK:∀a' w',hG E (s.put o.dst v H') a' w'->K a' w') (ro:Option Nat):wpOpIn (fz ro) 0 P ah Q i K a E.w:=by
 have J:=hs.eval;have hH:=hs.H;have B:∀{u:al} {w':be},e9 E v H' u w'->K (a.put o.dst u) w':=by
  rintro u w' ⟨loc',r',F,M,I⟩;exact hK _ _ ⟨loc',r',⟨rfl,Km hs.fr I o.dst F,by rw[put_defers]; exact x8 hs.heap I hs.defers,M⟩,I⟩
 have pure':H'=s.H->∀{u:al} {w':be},ku E v u w'->e9 E v H' u w':=by
  intro e u w' N;have:=N.toOp hs.heap;rw[hH,<-e]at this;exact this
 have Y:(fz ro).depth.isSome=true->1<=0:=fun h=>by cases h
 unfold wpOpIn;simp only[hi];unfold Yields at d;split at d
 ·cases d
 ·rename_i W
  rw[Qy hs W];simp only[Bool.false_eq_true,if_false];obtain⟨rfl,e⟩:=d;refine⟨fun _ _=>trivial,B ?_⟩;rw[e,<-hH];exact⟨E.ad,E.X.r,by simp only[ae]; exact⟨#[],rfl,by simp[aq]⟩,hs.heap,af.le.refl E⟩
 ·rename_i W
  rw[Qy hs W];simp only[if_true];split at d
  ·obtain⟨e,d⟩:=d
   rcases d with d|⟨f,args,F,M,I⟩
   ·have A:∀c,o.op≠.defer c:=fun c e=>by rw[e]at d; cases d
    obtain⟨u,w',g,q⟩:=abG hs.heap J d;unfold vp;rw[qn _ _ _ A,g];exact⟨fun _ _=>trivial,B (pure' e q)⟩
   ·have A:∀c,o.op≠.defer c:=fun c e=>by rw[e]at F; cases F
    obtain⟨U,g,q⟩:=Kl J F M;unfold vp;rw[qn _ _ _ A,g];refine⟨fun _ _=>trivial,Y,Kn ((I s.H E U hH hs.heap q).mono ?_)⟩;rintro _ w' ⟨c,v',H1,rfl,⟨rfl,rfl⟩,N⟩;exact B (by rw[e]; exact N)
  ·obtain⟨e,d⟩:=d
   rw[<-hH]at d;have A:∀c,o.op≠.defer c:=fun c e=>by rw[e]at d; cases d
   obtain⟨u,g,q⟩:=abL hs.heap J d;unfold vp;rw[qn _ _ _ A,g];exact⟨fun _ _=>trivial,B (pure' e (ku.same q))⟩
  ·rcases d with (d | ⟨f,args,F,M,I⟩) | ⟨t,id,m,ho,d⟩ | d
   ·have A:∀c,o.op≠.defer c:=fun c e=>by rw[e]at d; cases d
    rw[<-hH]at d;obtain⟨n,u,w',g,q,O⟩:=abH hs.heap J d;unfold vp;rw[qn _ _ _ A,g];rcases q with rfl|⟨rfl,rfl⟩
    ·exact⟨fun _ _=>trivial,B O⟩
    ·exact⟨fun _ _=>trivial,B O⟩
   ·have A:∀c,o.op≠.defer c:=fun c e=>by rw[e]at F; cases F
    obtain⟨U,g,q⟩:=Kl J F M;unfold vp;rw[qn _ _ _ A,g];refine⟨fun _ _=>trivial,Y,Kn ((I E U hH hs.heap q).mono ?_)⟩;rintro _ w' ⟨c,v',H1,rfl,⟨rfl,rfl⟩,N⟩;exact B N
   ·rw[<- hH]at d
    obtain⟨u,w',g,q⟩:=aa6 hs.heap d;unfold vp;obtain⟨dst,op,type,pos,after,guard⟩:=o;simp only[]at ho;subst ho;have O:(execOp a.eval ⟨dst,.alloc t,type,pos,after,guard⟩).run P E.w=.ok (.value u) w':=qB g;rw[qn _ _ _ (fun c e=>by cases e),O];exact⟨fun _ _=>trivial,B q⟩
   ·have A:∀c,o.op≠.defer c:=fun c e=>by rw[e]at d; exact d
    rw[<-hH]at d;obtain⟨w',g,q⟩:=abO hs.heap J d;unfold vp;rw[qn _ _ _ A,g];exact⟨fun _ _=>trivial,B q⟩
def fW(P:ak)(pf:bH->Bool)(ah:Array aN):List aN->St->St->Prop
 |[],s,s'=>s'=s
 |o::rest,s,s'=>∃v H',Yields P pf ah o s v H'/\fW P pf ah rest (s.put o.dst v H') s'
theorem hG.after{d:Act}(h:E.le E')(h':hG E' s' d w'):hG E s' d w':=by
 obtain⟨g,q,A,B⟩:=h';refine⟨g,q,?_,?_⟩
 ·rw[<-XS.PG h.X]; exact A
 ·rw[<-XS.PG h.X]; exact h.trans B
theorem hG.refl{s:St}{E:af}{a:Act}(h:bM s E a):hG E s a E.w:=by
 obtain⟨w,H,ad,X⟩:=E;have:=h.H;simp only at this;subst this;exact⟨ad,X.r,h,af.le.refl _⟩
theorem ET{P:ak}{pf:bH->Bool}{ah:Array aN}{Q:Exit->Act->be->Prop}:∀(l:List aN) (k:Nat) (s s':St) (E:af) (a:Act),
  l=ah.toList.drop k->fW P pf ah l s s'->bM s E a->(∀g w',hG E s' g w'->Q .normal g w')->∀d:Option Nat,wpOpsIn (fz d) 0 P ah Q (List.range' k l.length) a E.w
 |[],k,s,s',E,a,_,h,hs,q,d=>by
  simp only[fW]at h;subst h;exact q _ _ (hG.refl hs)
 |o::l,k,s,s',E,a,A,h,hs,q,d=>by
  obtain⟨v,H',J,B⟩:=h;simp only[cJ,List.range'_succ];rw[wpOpsIn_cons];have M:ah[k]?=some o:=by
   have:(ah.toList.drop k)[0]?=some o:=by rw[<-A]; rfl
   grind
  refine Ko hs M J (fun g w' hc=>?_) d;obtain⟨F,N,O,U⟩:=hc;refine ET l (k+1) _ s' { w:=w',H:=H',ad:=F,X:=E.X.re N } g ?_ B O (fun W Y I=>q W Y ?_) d
  ·rw[<-xM,<-A]; rfl
  ·exact hG.after U I
def waits(ah:Array aN):Nat->Nat->Nat->Bool
 |0,_,_=>false
 |n+1,j,i=>match ah[j]? with
  |some o=>o.after.toList.any fun e=>Pb .any e&&(e.on==i||waits ah n e.on i)
  |none=>false
def gC:Op->Bool
 |.alloc _=>true
 |_=>false
def rX(pf:bH->Bool)(x y:aN):Bool:=
 match ef pf x.op,ef pf y.op with
 |.pure,_|_,.pure | .read,.read=>true
 |.read,.write=>gC y.op
 |_,_=>false
def tN(pf:bH->Bool)(ah:Array aN):Bool:=
  atB ah &&
  (jh ah.size).all fun j=>(match ah[j]? with
    |some d=>(d.after.toList.all fun e => !Pb .any e||e.on<j) &&
      ((jh j).all fun i=>match ah[i]? with
        |some g=>waits ah ah.size j i||(g.apart ah d&&d.apart ah g&&rX pf g d)
        |none=>true)
    |none=>true)
def yo(P:ak)(pf:bH->Bool)(ah:Array aN)(i:Nat)(K:St->Prop)(s:St):Prop:=
 match ah[i]? with
 |none=>K s
 |some o=>∃v H',Yields P pf ah o s v H'/\K (s.put o.dst v H')
def yp(P:ak)(pf:bH->Bool)(ah:Array aN)(s':St):Nat->Array Bool->St->Prop
 |0,d,s=>o_ .any ah d=[]/\s=s'
 |g+1,d,s=>(o_ .any ah d=[]->s=s')/\∀i∈o_ .any ah d,yo P pf ah i (yp P pf ah s' g (d.setIfInBounds i true)) s
theorem EU{P:ak}{pf:bH->Bool}{ah:Array aN}{s':St}{Q:Exit->Act->be->Prop}:∀(d:Nat) (I:Array Bool) (s:St) (E:af) (a:Act),
  bM s E a->yp P pf ah s' d I s->(∀B w',hG E s' B w'->Q .normal B w')->∀g:Option Nat,wpAnyIn (fz g) 0 P .any ah Q d I a E.w
 |0,_,s,E,a,hs,h,q,_=>⟨h.1,q _ _ (h.2▸hG.refl hs)⟩
 |d+1,I,s,E,a,hs,h,q,g=>by
  refine⟨fun N=>q _ _ (h.1 N▸hG.refl hs),fun i hi=>?_⟩;have A:=h.2 i hi;unfold yo at A;cases F:ah[i]? with
  |none=>
   rw[F]at A;unfold wpOpIn;simp only[F];exact EU d _ s E a hs A q g
  |some o=>
   rw[F]at A;obtain⟨v,H',O,U⟩:=A;refine Ko hs F O (fun B w' hc=>?_) g;obtain⟨J,W,Y,g2⟩:=hc;exact EU d _ _ { w:=w',H:=H',ad:=J,X:=E.X.re W } B Y U (fun a2 w2 M=>q a2 w2 (hG.after g2 M)) g
theorem abP{t:Tmp}(h:Operand.tmp t∈o.op.operands):t∈o.looksAt ah:=
 List.mem_append_left _ (List.mem_filterMap.2 ⟨.tmp t,by simpa using h,rfl⟩)
theorem auy{fr:List AV}{d t:Nat}(h:d≠t):(fr.set d v).getD t .undef=fr.getD t .undef:=by
 simp[List.getD_eq_getElem?_getD,dh h]
theorem eval_put{dst:Option Tmp}(h:∀ d,dst=some d->d∉o.looksAt ah){x:cN}(g:x∈o.op.operands):
  (s.put dst v H').eval x=s.eval x:=by
 cases dst with
 |none=>cases x<;>rfl
 |some d=>
  cases x with
  |tmp t=>
   grind[abP,St.eval,St.put,lX]
  |_=>rfl
theorem EV{fr:List AV}{dst:Option Tmp}(h:∀ d,dst=some d->d∉o.looksAt ah):
  dq ah (lX fr dst v) o=dq ah fr o:=by
 cases dst with
 |none=>rfl
 |some d=>
  unfold dq;cases B:o.guard with
  |none=>rfl
  |some q=>
   obtain⟨g,A⟩:=q;simp only[];cases F:(ah[g]?).bind (·.dst)with
   |none=>rfl
   |some t=>
    grind[Oper.looksAt,lX]
theorem abQ(fr:List AV){x y:Option Tmp}(v u:AV)(h:∀d,x=some d->y≠some d):lX (lX fr x v) y u=lX (lX fr y u) x v:=by
 cases x with
 |none=>rfl
 |some d=>
  cases y with
  |none=>rfl
  |some e=>
   grind[lX,Z9]
theorem Qz(o:Op)(h:∀x∈o.operands,r x=d x):kN P r o=kN P d o:=by
 cases o<;>simp only[kN]<;>simp only[j_]at h
 case build t ps=>
  grind[pd]
 case buildSlice t n ps=>
  grind[pd]
 case makeFunc fn first captured=>
  unfold Kg
  grind[pd]
 case call c=>
  grind[Kh,pd,Ec]
 case slice t x lo hi mx=>cases lo<;>cases hi<;>cases mx<;>simp_all
 all_goals grind
theorem QA(o:Op)(h:∀x∈o.operands,r x=d x):im P r H o=im P d H o:=by
 cases o<;>simp only[im]<;>simp only[j_]at h
 case call c=>
  obtain⟨callee,args,argTypes⟩:=c;unfold tM;cases callee<;>try rfl
  split
  ·rename_i a t hc g q
   have hm:a∈args:=by
    have:a∈args.toList:=by rw[show args.toList=[a] from g]; simp
    grind
   grind[Ec]
  ·rfl
 all_goals grind
theorem abR(o:Op)(h:∀x∈o.operands,r x=d x):gB P r H o=gB P d H o:=by
  cases o<;>simp only[gB]<;>simp only[j_]at h
  case buildSlice t n ps=>
    grind[pd]
  case call c=>
    obtain⟨callee,args,argTypes⟩:=c;unfold ES;cases callee<;>try rfl
    rename_i b;have q:∀x,x∈args.toList->r x=d x:=fun x g=>h x (by simp[Ec]; simpa using g)
    grind
  case makeMap t res=>grind
  case lookup t m k ok=>
    grind
  case mapEntry t m k=>grind
  case entryStore t m s x=>grind
  all_goals grind
theorem QB(o:Op)(h:∀x∈o.operands,r x=d x):g_ r o=g_ d o:=by
 cases o<;>simp only[g_]<;>simp only[j_]at h
 rename_i c;obtain⟨callee,args,argTypes⟩:=c;unfold Kk
 grind[Ec,pd]
variable {P:ak} {pf:bH->Bool} {ah:Array aN}
theorem jt{s1:St}(d:dq ah s1.fr o=dq ah s.fr o)(hr:∀ x∈o.op.operands,s1.eval x=s.eval x)(hH:s1.H=s.H):
  Yields P pf ah o s1 v H'↔Yields P pf ah o s v H':=by
 unfold Yields;rw[d,hH,Qz o.op hr,QA o.op hr,abR o.op hr,QB o.op hr,abN o.op hr]
theorem Bi(hc:ef pf o.op=.pure)(h:Yields P pf ah o s v H'):H'=s.H/\∀d,Yields P pf ah o ⟨s.fr,d⟩ v d:=by
 have key:∀d:List ay,∀x∈o.op.operands,St.eval ⟨s.fr,d⟩ x=s.eval x:=fun d x _=>by cases x<;>rfl
 unfold Yields at h;cases g:dq ah s.fr o with
 |none=>grind
 |some b=>
  rw[g]at h;cases b with
  |false=>
   simp_all[Yields]
  |true=>
   simp_all[Yields,Qz,QB]
theorem vK(hc:ef pf o.op=.read)(h:Yields P pf ah o s v H'):H'=s.H:=by
 unfold Yields at h;simp only[hc]at h;split at h
 ·cases h
 ·exact h.2
 ·exact h.1
theorem abS{x:ay}:∀{op:Op},im P r H op=some v->im P r (H++[x]) op=some v:=by
 have get:∀{i:Nat} {y:ay},H[i]?=some y->(H++[x])[i]?=some y:=by
  intro i y h;rw[List.getElem?_append_left (List.getElem?_eq_some_iff.1 h).1];exact h
 intro op h;cases op<;>simp only[im]at h|-<;>try cases h
 case load t a=>
  unfold iS at h|-;split at h
  ·rename_i n agg q
   split at h
   ·exact h
   ·rename_i id ax w row d A
    cases hi:H[id]? with
    |none=>rw[hi]at h; cases h
    |some y=>rw[hi]at h; rw[get hi]; exact h
   ·cases h
  ·cases h
 case lookup t m k ok=>
  unfold pA at h|-;split at h
  ·rename_i B F id hm g
   cases hi:H[id]? with
   |none=>rw[hi]at h; cases h
   |some y=>rw[hi]at h; rw[get hi]; exact h
  ·cases h
 case call c=>
  unfold tM at h|-;split at h
  ·split at h
   ·rename_i id _ _
    cases hi:H[id]? with
    |none=>rw[hi]at h; cases h
    |some y=>rw[hi]at h; rw[get hi]; exact h
   ·cases h
  ·cases h
theorem abT{x:ay}(d:H[id]?=some (.vQ k 0 [])):∀{op:Op},im P r H op=some v->im P r (H.set id x) op=some v:=by
 have get:∀{i:Nat},i≠id->(H.set id x)[i]?=H[i]?:=fun h=>dh (Ne.symm h);intro op h;cases op<;>simp only[im]at h|-<;>try cases h
 case load t a=>
  unfold iS at h|-;split at h
  ·rename_i n agg A
   split at h
   ·exact h
   ·rename_i i ax w row g B
    by_cases e:i=id
    ·subst e
     rw[d]at h;simp at h
    ·rw[get e]
     exact h
   ·cases h
  ·cases h
 case lookup t m k ok=>
  unfold pA at h|-;split at h
  ·rename_i F I i hm q
   by_cases e:i=id
   ·subst e
    rw[d]at h;simp at h
   ·rw[get e]
    exact h
  ·cases h
 case call c=>
  unfold tM at h|-;split at h
  ·split at h
   ·rename_i i _ _
    by_cases e:i=id
    ·subst e
     rw[d]at h;simp at h
    ·rw[get e]
     exact h
   ·cases h
  ·cases h
theorem QC{P:ak}{m:List (Option (List Kd))}(h:tG P t id m H=some (v,H')):
  ∃z k,gK P t=some z/\H[id]?=some (.vQ k 0 [])/\k=z.length/\v=.ptr id 1 k 0 0/\H'=H.set id (.vQ k 1 [fv m z]):=by
 unfold tG at h;split at h
 ·rename_i z k g d
  split at h
  ·rename_i q
   cases h;exact⟨z,k,g,d,q,rfl,rfl⟩
  ·cases h
 ·cases h
theorem QD{P:ak}{z:List al} (m:List (Option (List Kd))) (g:gK P t=some z) (d:H[id]? = some (.vQ k 0 [])) (q:k=z.length):
  tG P t id m H=some (.ptr id 1 k 0 0,H.set id (.vQ k 1 [fv m z])):=by
 unfold tG;rw[g,d];simp only[];rw[iP q]
theorem QE{A:aN}{u:AV}{O d:List ay}(W:A.apart ah q=true)(_h2:q.apart ah A=true)(hc:rX pf A q=true)
  (hi:Yields P pf ah A s v O) (U:Yields P pf ah q (s.put A.dst v O) u d) :
  ∃Hj1,Yields P pf ah q s u Hj1/\Yields P pf ah A (s.put q.dst u Hj1) v d:=by
 obtain⟨a1,a2,a3⟩:=Pd W;have Y:dq ah (s.put A.dst v O).fr q=dq ah s.fr q:=EV a1;have wi:∀F,dq ah (s.put q.dst u F).fr A=dq ah s.fr A:=fun F=>EV a3;have ej:∀x∈q.op.operands,(s.put A.dst v O).eval x=s.eval x:=fun x B=>eval_put a1 B;have ei:∀F,∀x∈A.op.operands,(s.put q.dst u F).eval x=s.eval x:=fun F x B=>eval_put a3 B;unfold rX at hc;split at hc
 ·-- A only computes
  rename_i J;obtain⟨I,g1⟩:=Bi J hi;subst I;refine⟨d,(jt Y ej rfl).1 U,?_⟩;exact(jt (s1:=s.put q.dst u d) (s:=⟨s.fr,d⟩) (wi d) (fun x B=>by rw[ei d x B]; cases x<;>rfl) rfl).2 (g1 d)
 ·-- q only computes
  rename_i N _;obtain⟨I,g1⟩:=Bi N U;have e1':d=O:=I;subst e1';refine⟨s.H,?_,?_⟩
  ·have:=g1 s.H
   exact(jt (s1:=⟨(s.put A.dst v d).fr,s.H⟩) (s:=s) Y (fun x B=>by
    have:=ej x B;cases x<;>exact this) rfl).1 this
  ·exact(jt (s1:=s.put q.dst u s.H) (s:=s) (wi s.H) (ei s.H) rfl).2 hi
 ·rename_i J N
  have I:=vK J hi;subst I;have e2:=vK N U;have e2':d=s.H:=e2;subst e2';exact⟨s.H,(jt Y ej rfl).1 U,(jt (s1:=s.put q.dst u s.H) (s:=s) (wi s.H) (ei s.H) rfl).2 hi⟩
 ·rename_i J N
  have I:=vK J hi;subst I;have g:=(jt Y ej rfl).1 U;refine⟨d,g,?_⟩;have hpush:d=s.H\/(∃x,d=s.H++[x])\/∃id k x,s.H[id]?=some (.vQ k 0 [])/\d=s.H.set id x:=by
   unfold Yields at g;simp only[N]at g;split at g
   ·exact g.elim
   ·exact .inl g.2
   ·rcases g with (g | ⟨f,args,W,_⟩) | ⟨t,id,m,M,hv⟩ | hst
    ·unfold gC at hc
     split at hc
     ·rename_i t M
      rw[M]at g;simp only[gB,vE]at g;split at g
      ·split at g
       ·cases g; exact .inr (.inl ⟨_,rfl⟩)
       ·cases g
      ·split at g
       ·cases g; exact .inr (.inl ⟨_,rfl⟩)
       ·cases g
     ·cases hc
    ·unfold gC at hc
     split at hc
     ·rename_i t M
      rw[M]at W;cases W
     ·cases hc
    ·obtain⟨z,k,_,h2,_,_,h3⟩:=QC hv
     exact .inr (.inr ⟨id,k,_,h2,h3⟩)
    ·unfold gC at hc
     split at hc
     ·rename_i t M
      rw[M]at hst;exact hst.elim
     ·cases hc
  refine(jt (s1:=s.put q.dst u d) (s:=⟨s.fr,d⟩) (wi d) (fun x B=>by rw[ei d x B]; cases x<;>rfl) rfl).2 ?_;have key:∀F:List ay,St.eval ⟨s.fr,F⟩=s.eval:=fun F=>by funext x; cases x<;>rfl
  unfold Yields at hi|-;simp only[J]at hi|-;cases hw:dq ah s.fr A with
  |none=>rw[hw]at hi; exact hi.elim
  |some b=>
   rw[hw]at hi;cases b with
   |false=>exact⟨hi.1,ai⟩
   |true=>
    refine⟨ai,?_⟩;rw[key];rcases hpush with rfl|⟨x,rfl⟩|⟨id,k,x,hid,rfl⟩
    ·exact hi.2
    ·exact abS hi.2
    ·exact abT hid hi.2
 ·cases hc
def Kp(ah:Array aN)(d:Array Bool)(j:Nat):Prop:=
 ∀o,ah[j]?=some o->∀e∈o.after,Pb .any e=true->d.getD e.on false=true
def vL(ah:Array aN)(d:Array Bool):Prop:=∀j,d.getD j false=true->Kp ah d j
theorem Kr{d:Array Bool}(hc:vL ah d):∀(n j i:Nat),Kp ah d j->waits ah n j i=true->d.getD i false=true
 |0,_,_,_,h=>by simp[waits]at h
 |n+1,j,i,A,h=>by
  unfold waits at h;split at h
  ·rename_i o B
   rw[qo]at h;obtain⟨e,he,g⟩:=h;simp only[aR,lQ,beq_iff_eq]at g;have q:=A o B e (by simpa using he) g.1;rcases g.2 with rfl|F
   ·exact q
   ·exact Kr hc n e.on i (hc _ q) F
  ·cases h
theorem Ks{d:Array Bool}(h:j∈o_ .any ah d):Kp ah d j:=by
 obtain⟨_,o,A,g⟩:=mem_ready.1 h;intro o' q
 grind
theorem EW{d:Array Bool}(hc:vL ah d)(B:j∈o_ .any ah d):vL ah (d.setIfInBounds j true):=by
 intro k F o q e he A;by_cases g:j=k
 ·subst g
  exact getD_set_true (Ks B o q e he A)
 ·have:d.getD k false=true:=by
   have h:=F;simp[Array.getElem?_setIfInBounds_ne g]at h
   simp_all
  exact getD_set_true (hc k this o q e he A)
theorem QF(s:St)(x y:Option Tmp)(v u:AV)(H1 g q:List ay)(h:∀d,x=some d->y≠some d):(s.put x v H1).put y u g=(s.put y u q).put x v g:=by
 simp only[St.put,abQ s.fr v u h]
theorem QG{d:Array Bool}(h:i∈o_ .any ah d):d.getD i false=false:=by
 obtain⟨g,_⟩:=mem_ready.1 h
 grind
theorem abU(hi:ah[i]?=some q):∀(B:Nat) (d:Array Bool) (s:St) (v:AV) (H':List ay),vL ah d ->
  (∀j g,ah[j]?=some g->j≠i->d.getD j true=false->waits ah ah.size j i=false->q.apart ah g=true/\g.apart ah q=true/\rX pf q g=true) ->
  i∈o_ .any ah d->Yields P pf ah q s v H'->yp P pf ah s' B (d.setIfInBounds i true) (s.put q.dst v H')->yp P pf ah s' (B+1) d s:=by
 intro B
 induction B with
 |zero=>
  intro d s v H' _ _ hr U H;refine⟨fun h=>(by rw[h]at hr; cases hr),fun j A=>?_⟩;by_cases F:j=i
  grind[yo]
  ·have:=ready_mono A F
   rw[H.1]at this;cases this
 |succ B ih=>
  intro d s v H' M J hr U H;refine⟨fun h=>(by rw[h]at hr; cases hr),fun j A=>?_⟩;by_cases F:j=i
  grind[yo]
  ·have I:=H.2 j (ready_mono A F)
   obtain⟨W,g,N,hall⟩:=mem_ready.1 A;unfold yo at I|-;simp only[N]at I|-;obtain⟨u,Hj,Y,hrest⟩:=I;have hnw:waits ah ah.size j i=false:=by
    cases hw:waits ah ah.size j i with
    |false=>rfl
    |true=>
     have:=Kr M _ _ _ (Ks A) hw
     grind[QG]
   obtain⟨a1,a2,a3⟩:=J j g N F W hnw;obtain⟨O,q1,q2⟩:=QE a1 a2 a3 U Y;refine⟨u,O,q1,?_⟩;refine ih (d.setIfInBounds j true) (s.put g.dst u O) v Hj (EW M A) ?_ (ready_mono hr (Ne.symm F)) q2 ?_
   ·intro k ok hk hki hun hno
    refine J k ok hk hki ?_ hno;by_cases hjk:j=k<;>simp_all
   grind[atC,QF,Pd]
theorem QH{s':St}(N:tN pf ah=true):∀(l:List aN) (k:Nat) (d:Array Bool) (s:St),l=ah.toList.drop k->vL ah d->d.size=ah.size ->
  (∀j,j<ah.size->(d.getD j true=false↔k<=j))->fW P pf ah l s s'->yp P pf ah s' l.length d s
 |[],k,d,s,B,_,J,q,h=>by
  simp only[fW]at h;refine⟨?_,h.symm⟩;apply atD.2;intro j O;obtain⟨g,o,Y,_⟩:=mem_ready.1 O;have A:j<ah.size:=(fS.1 Y).1;have:=(q j A).1 g;have hlen:(ah.toList.drop k).length=0:=by rw[<-B]; rfl
  grind
 |o::l,k,d,s,B,M,J,q,h=>by
  obtain⟨v,H',hy,U⟩:=h;have g:ah[k]?=some o:=by
   have:(ah.toList.drop k)[0]?=some o:=by rw[<-B]; rfl
   grind
  have A:k<ah.size:=(fS.1 g).1;simp only[tN,aR,eX,qp]at N;obtain⟨_,I⟩:=N;have hlistedlt:∀j,j<k->d.getD j false=true:=by
   intro j O;have hn:¬ (d.getD j true=false):=fun e=>by have:=(q j ab).1 e; omega
   have:j<d.size:=ab;simp[this]at hn|-;exact hn
  have F:k∈o_ .any ah d:=by
   refine mem_ready.2 ⟨(q k A).2 (bl _),o,g,fun e he hb=>?_⟩;have:=I k A;rw[g]at this;simp only[aR,eX]at this;have h1:=this.1 e (by simpa using he);simp only[hb,Pe,jR,dT]at h1
   grind
  refine abU g l.length d s v H' M ?_ F hy ?_
  grind
  ·refine QH (by simp only[tN,aR,eX,qp]; exact⟨‹_›,I⟩) l (k+1) _ _ ?_ (EW M F) (by simpa using J) ?_ U
   ·rw[<-xM,<-B]; rfl
   ·intro j W
    by_cases e:k=j
    simp_all
    ·rw[getD_set_ne true e,q j W]
     omega
theorem QI(hm:P.follows .mixedOrders=true)(B:tN pf ah=true)(hs:bM s E a)
  (h:fW P pf ah ah.toList s s') (F:∀d w',hG E s' d w'->Q .normal d w'):∀g:Option Nat,(Code.region id ah true).wpIn (fz g) 0 P Q a E.w:=by
 intro g;have A:bM s { E with w:={ E.w with drawn:=E.w.drawn+1 } } a:=⟨hs.H,gJ (af.jn (Ext.drawn E.w _)) _ hs.fr,x8 hs.heap (af.jn (Ext.drawn E.w _)) hs.defers,hs.heap.ext (Ext.drawn E.w _)⟩
 refine wpIn_region_any hm (EU (pf:=pf) _ _ s { E with w:={ E.w with drawn:=E.w.drawn+1 } } a A ?_ (fun d w' hc=>F d w' (hG.after (af.jn (Ext.drawn E.w _)) hc)) g);have:=QH (P:=P) (s':=s') B ah.toList 0 (pe ah.size false) s ai (by
  intro j q;exfalso;rcases mh j ah.size with h'|h'
  simp_all
  ·simp[Pf (xs:=pe ah.size false) (by simpa using h')]at q) ai (by intro j q; simp[q]) h
 omega
theorem Kt(hs:bM s E a)
  (h:fW P pf ah ah.toList s s') (q:∀g w',hG E s' g w'->Q .normal g w'):∀d:Option Nat,(Code.region id ah false).wpIn (fz d) 0 P Q a E.w:=by
 intro d;refine wpIn_region ?_;have:=ET (Q:=Q) ah.toList 0 s s' E a ai h hs q d
 grind[List.range_eq_range']
inductive cu where
 |normal
 |exit (id:Nat)
 |ret
 deriving DecidableEq
def cu.toExit:cu->Exit
 |.normal=>.normal
 |.exit id=>.exit id
 |.ret=>.ret
structure af.dO (m:Nat) (E E':af):Prop where
 cf:∀id,id<m->E.cf id 0->E'.cf id 0
 size:E.w.heap.size<=E'.w.heap.size
 same:∀b,b<E.w.heap.size->¬ E.bC b->E'.w.heap[b]?=E.w.heap[b]?
 bC:∀b,b<E.w.heap.size->¬ E.bC b->¬ E'.bC b
 live:∀id,id<m->E.cf id 0->E'.live id 0->E.live id 0/\E'.ad[id]?=E.ad[id]?
 X:∀b,b<E.w.heap.size->(E'.X b↔E.X b)/\(E'.X.z b↔E.X.z b)
 rl:∀l h,h<(E.X.r l).length->h<(E'.X.r l).length/\∀q,(E'.X.r l)[h]?=some (some q)->(E.X.r l)[h]?=some (some q)
 env:eV E.w E'.w
theorem af.le.toM(h:E.le E'):E.dO m E':=⟨fun id _ d=>h.cf id 0 d,h.size,h.same,h.bC,fun id _ d g=>h.live id 0 d g,fun b _=>by rw[show E'.X.x=E.X.x from h.X.1,show E'.X.z=E.X.z from h.X.2]; exact⟨Iff.rfl,Iff.rfl⟩,h.rl,h.env⟩
def EX(H:List ay):Prop:=∀o∈H,o.bt=some 0
theorem af.dO.full(h:E.dO m E')(A:E'.X.x=E.X.x/\E'.X.z=E.X.z)(hm:E.H.length<=m)(B:EX E.H):E.le E':=by
 have key:∀id ax,E.cf id ax->id<m/\ax=0:=by
  rintro id ax ⟨o,q,F⟩;have g:=bA q;have J:=F 0 (B o (List.mem_of_getElem? q));exact⟨ab,ab⟩
 refine⟨fun id ax d=>?_,h.size,h.same,h.bC,fun id ax d I=>?_,A,h.rl,h.env⟩
 ·obtain⟨g,rfl⟩:=key id ax d
  exact h.cf id g d
 ·obtain⟨g,rfl⟩:=key id ax d
  exact h.live id g d I
theorem af.dO.trans{m:Nat}{E E' J:af}(h:E.dO m E')(h':E'.dO m J):E.dO m J where
 cf:=fun id hi U=>h'.cf id hi (h.cf id hi U)
 size:=Nat.le_trans h.size h'.size
 same:=fun b d g=>by rw[h'.same b (fK d h.size) (h.bC b d g),h.same b d g]
 bC:=fun b d g=>h'.bC b (fK d h.size) (h.bC b d g)
 live:=fun id hi M W=>by
  obtain⟨A,B⟩:=h'.live id hi (h.cf id hi M) W;obtain⟨F,I⟩:=h.live id hi M A;exact⟨F,by rw[B,I]⟩
 X:=fun b d=>by
  have N:=h'.X b (fK d h.size);have O:=h.X b d;exact⟨N.1.trans O.1,N.2.trans O.2⟩
 rl:=fun l i hi=>by
  obtain⟨A,B⟩:=h.rl l i hi;obtain⟨F,I⟩:=h'.rl l i A;exact⟨F,fun q Y=>B q (I q Y)⟩
 env:=h.env.trans h'.env
def eG(m:Nat)(E:af)(s':St)(q:Act)(w':be):Prop:=
 ∃d g,bM s' { w:=w',H:=s'.H,ad:=d,X:=g } q/\E.dO m { w:=w',H:=s'.H,ad:=d,X:=g }
theorem hG.toM{m:Nat}{E:af}{s':St}{a:Act}{w:be}(h:hG E s' a w):eG m E s' a w:=let ⟨ad,r,d,g⟩:=h; ⟨ad,E.X.re r,d,g.toM⟩
theorem eG.after{d:Act}(h:E.dO m E')(h':eG m E' s' d w'):eG m E s' d w':=by
 obtain⟨g,q,A,B⟩:=h';exact⟨g,q,A,h.trans B⟩
theorem eG.refl{m:Nat}{s:St}{E:af}{a:Act}(h:bM s E a):eG m E s a E.w:=(hG.refl h).toM
def fk:Code->Bool
 |.seq a b=>fk a&&fk b
 |.cond _ a b=>fk a&&fk b
 |.block _ c=>fk c
 |.loop c=>fk c
 |.scope c=>fk c
 |.rangeFunc ..=>false
 |_=>true
def gT(d:Option Nat)(c:Code):Prop:=d=none\/fk c=true
theorem gT.seq1{d:Option Nat}{a b:Code}(h:gT d (.seq a b)):gT d a:=h.imp id fun h=>by
 have h:(fk a&&fk b)=true:=h;exact(aR _ _▸h).1
theorem gT.Bj{d:Option Nat}{a b:Code}(h:gT d (.seq a b)):gT d b:=h.imp id fun h=>by
 have h:(fk a&&fk b)=true:=h;exact(aR _ _▸h).2
theorem gT.cond{d:Option Nat}{o:cN}{a b:Code}(t:Bool)(h:gT d (.cond o a b)):gT d (if t then a else b):=h.imp id fun h=>by
 have h:(fk a&&fk b)=true:=h
 grind
theorem gT.block{d:Option Nat}{i:Nat}{a:Code}(h:gT d (.block i a)):gT d a:=h
theorem gT.loop{d:Option Nat}{a:Code}(h:gT d (.loop a)):gT d a:=h
theorem EY(c:Code):gT none c:=.inl rfl
def c_(P:ak)(m:Nat)(c:Code)(s:St)(x:cu)(s':St):Prop:=
 ∀(d:Option Nat),gT d c->∀(E:af) (a:Act),bM s E a->c.wpIn (fz d) 0 P (fun e g q=>e=x.toExit/\eG m E s' g q) a E.w
def cV(m:Nat)(s s':St):Prop:=∀(E:af) (a:Act),bM s E a->eG m E s' a E.w
theorem cV.refl{m:Nat}(s:St):cV m s s:=fun _ _ h=>eG.refl h
theorem cV.trans{s1 s2:St}(h:cV m s s1)(h':cV m s1 s2):cV m s s2:=fun E a hs=>by
 obtain⟨ad,X,d,g⟩:=h E a hs;exact eG.after g (h' _ a d)
theorem eG.weaken(h:eG m E s a w)(d:cV m s s'):eG m E s' a w:=by
 obtain⟨ad,X,g,q⟩:=h;exact eG.after q (d _ a g)
section rules
variable {P:ak} {m:Nat} {s s' s1:St} {x:cu}
theorem vM(d:cV m s s1)(h:c_ P m c s1 x s'):c_ P m c s x s':=fun g q E a hs=>by
 obtain⟨ad,X,A,B⟩:=d E a hs;exact wpIn_mono (h g q { w:=E.w,H:=s1.H,ad:=ad,X:=X } a A) fun e J M ⟨F,I⟩=>⟨F,eG.after B I⟩
theorem vN(h:c_ P m c s x s1)(d:cV m s1 s'):c_ P m c s x s':=fun g q E a hs=>
 wpIn_mono (h g q E a hs) fun _ _ _ ⟨A,B⟩=>⟨A,B.weaken d⟩
theorem abV:c_ P m .skip s .normal s:=fun _ _ _ _ hs=>wpIn_skip ⟨rfl,eG.refl hs⟩
theorem abW:c_ P m .ret s .ret s:=fun _ _ _ _ hs=>wpIn_ret ⟨rfl,eG.refl hs⟩
theorem abX:c_ P m (.exit id) s (.exit id) s:=fun _ _ _ _ hs=>wpIn_exit ⟨rfl,eG.refl hs⟩
theorem abY{pf:bH->Bool}{ah:Array aN}{d:Bool}(hm:P.follows .mixedOrders=true)(q:d=true->tN pf ah=true)(h:fW P pf ah ah.toList s s'):
  c_ P m (.region id ah d) s .normal s':=fun g B E a hs=>by
 cases d with
 |false=>exact Kt hs h (fun A w' hc=>⟨rfl,hc.toM⟩) g
 |true=>exact QI hm (q rfl) hs h (fun A w' hc=>⟨rfl,hc.toM⟩) g
theorem tO{d:Code}(h:c_ P m c s .normal s1)(h':c_ P m d s1 x s'):c_ P m (.seq c d) s x s':=fun g q E a hs=>
 wpIn_seq (wpIn_mono (h g q.seq1 E a hs) fun e A O ⟨B,F⟩=>by
  subst B;obtain⟨ad,X,I,J⟩:=F;exact wpIn_mono (h' g q.Bj _ A I) fun _ _ _ ⟨M,N⟩=>⟨M,eG.after J N⟩)
theorem QJ{d:Code}(h:c_ P m c s x s')(F:x≠.normal):c_ P m (.seq c d) s x s':=fun q A E a hs=>
 wpIn_seq (wpIn_mono (h q A.seq1 E a hs) fun e I J ⟨B,g⟩=>by
  subst B;cases x with
  |normal=>grind
  |exit id=>exact⟨rfl,g⟩
  |ret=>exact⟨rfl,g⟩)
theorem QK{o:cN}{d:Code}{b:Bool}(g:s.eval o=.lit (.bool b))(h:c_ P m (if b then c else d) s x s'):c_ P m (.cond o c d) s x s':=fun q A E a hs=>by
 have:=hs.eval o;rw[g]at this;simp only[ae]at this;exact wpIn_cond this (h q (A.cond b) E a hs)
def cu.inBlock(id:Nat):cu->cu
 |.exit i=>if i=id then .normal else .exit i
 |x=>x
theorem EZ(h:c_ P m c s x s'):c_ P m (.block id c) s (x.inBlock id) s':=fun g q E a hs=>
 wpIn_block (wpIn_mono (h g q E a hs) fun e B F ⟨A,d⟩=>by
  subst A;cases x with
  |normal=>exact⟨rfl,d⟩
  |exit i=>
   grind[cu.toExit,Exit.inBlock,cu.inBlock]
  |ret=>exact⟨rfl,d⟩)
def yq(P:ak)(m:Nat)(c:Code):Nat->St->cu->St->Prop
 |0,s,x,s'=>x≠.normal/\c_ P m c s x s'
 |n+1,s,x,s'=>∃s1,c_ P m c s .normal s1/\yq P m c n s1 x s'
def nU(P:ak)(m:Nat)(c:Code)(s:St)(x:cu)(s':St):Prop:=∃n,yq P m c n s x s'
theorem nU.stop(h:c_ P m c s x s')(d:x≠.normal):nU P m c s x s':=⟨0,d,h⟩
theorem nU.next(h:c_ P m c s .normal s1)(h':nU P m c s1 x s'):nU P m c s x s':=let ⟨n,hn⟩:=h'; ⟨n+1,s1,h,hn⟩
theorem nU.pre(d:cV m s s1)(h:nU P m c s1 x s'):nU P m c s x s':=by
 obtain⟨n,hn⟩:=h;cases n with
 |zero=>exact⟨0,hn.1,vM d hn.2⟩
 |succ n=>
  obtain⟨s2,g,q⟩:=hn;exact⟨n+1,s2,vM d g,q⟩
theorem QL(h:nU P m c s x s'):c_ P m (.loop c) s x s':=fun N Y E a hs b k cs W q hr=>by
 obtain⟨n,hn⟩:=h;have key:∀(n:Nat) (s1:St) (d:af) (a:Act),bM s1 d a->E.dO m d->yq P m c n s1 x s' ->
   ∃e A w',(e=x.toExit/\eG m E s' A w')/\ArrivesIn (Machine.fenced P (fz N)) P (lone (b.atR a (.code c::.inLoop c::k)) cs d.w) b k cs e A w':=by
  intro n
  induction n with
  |zero=>
   intro s1 d a J M F;obtain⟨hx,I⟩:=F;obtain⟨e,O,w1,⟨B,h4⟩,g⟩:=I N Y.loop d a J b (.inLoop c::k) cs W q hr;refine⟨e,O,w1,⟨B,eG.after M h4⟩,?_⟩;subst B;exact .pass (x:=.inLoop c) rfl (fun _ _=>.inl (by cases x<;>simp_all[cu.toExit])) g
  |succ n ih=>
   intro s1 d a J M F;obtain⟨s2,I,hrest⟩:=F;obtain⟨e,O,w1,⟨B,ad,X,h5,h6⟩,g⟩:=I N Y.loop d a J b (.inLoop c::k) cs W q hr;subst B;obtain⟨e2,a2,w2,U,harr2⟩:=ih s2 _ O h5 (M.trans h6) hrest;exact⟨e2,a2,w2,U,.of_steps (StepsIn.trans g (.one (fenced_calm q hr rfl) stepR_inLoop)) harr2⟩
 obtain⟨e,A,w',U,g⟩:=key n s E a hs (af.le.refl E).toM hn;exact⟨e,A,w',U,.of_steps (.one (fenced_calm q hr rfl) stepR_loop) g⟩
end rules
def E8(P:ak)(s:St):ResultVar->Option AV
 |.tmp t=>some (s.fr.getD t .undef)
 |.cell a t=>iS P t (s.fr.getD a .undef) s.H
def kO(P:ak)(s:St):List ResultVar->Option (List AV)
 |[]=>some []
 |r::rs=>match E8 P s r,kO P s rs with
  |some v,some d=>some (v::d)
  |_,_=>none
def dA:List AV->AV
 |[v]=>v
 |d=>.tuple d
def Ku(tmps:Array al):ResultVar->Sem al
 |.tmp t=>pure (tmps.getD t undef)
 |.cell a t=>do loadVar t (<- asAddr (tmps.getD a undef))
theorem abZ{P:ak}(hs:bM s E a){r:ResultVar}(h:E8 P s r=some v):
  ∃u,(Ku a.tmps r).run P E.w=.ok u E.w/\ae E v u:=by
 cases r with
 |tmp t=>
  simp only[E8,bQ]at h;subst h;exact⟨_,rfl,hs.eval (.tmp t)⟩
 |cell x t=>
  simp only[E8]at h;rw[<-hs.H]at h;have d:=hs.eval (.tmp x);simp only[St.eval,Act.eval]at d;obtain⟨u,q,A⟩:=PQ hs.heap h d;refine⟨u,?_,A⟩;have B:∃b o,a.tmps.getD x undef=.pointer (some ⟨b,o,none⟩):=by
   unfold iS at h;split at h
   case h_2=>cases h
   split at h
   ·rename_i g
    rw[g]at d;simp only[ae]at d;obtain⟨_,b,o,e,_⟩:=d;exact⟨b,o,e⟩
   ·rename_i g
    rw[g]at d;simp only[ae]at d;obtain⟨⟨b,o,e⟩,_⟩:=d;exact⟨b,o,e⟩
   ·cases h
  obtain⟨b,o,e⟩:=B;show (do loadVar t (<- asAddr (a.tmps.getD x undef)):Sem al).run P E.w=.ok u E.w
  rw[e]at q|-;simpa[Instr.loadAt,Instr.sureAddr,asAddr]using q
theorem Bk{P:ak}{s:St}{E:af}{a:Act}(hs:bM s E a):∀(rs:List ResultVar) (d:List AV),kO P s rs=some d ->
  ∃g:List al,(rs.mapM (Ku a.tmps)).run P E.w=.ok g E.w/\aq E d g
 |[],d,h=>by simp[kO]at h; subst h; exact⟨[],rfl,by simp[aq]⟩
 |r::rs,d,h=>by
  simp only[kO]at h;split at h
  case h_2=>cases h
  rename_i v q A B;cases h;obtain⟨u,F,I⟩:=abZ hs A;obtain⟨g,J,M⟩:=Bk hs rs q B
  simp_all[aq]
theorem vO(fn:Func)(tmps:Array al):results fn tmps=(do let d<-fn.results.mapM (Ku tmps); pure (if h:d.size=1 then d[0] else .tuple d)):=by
 unfold results;congr 1
theorem ab0{P:ak}(hs:bM s E a){d:List AV}(h:kO P s fn.results.toList=some d):
  ∃u,(results fn a.tmps).run P E.w=.ok u E.w/\ae E (dA d) u:=by
 obtain⟨g,B,A⟩:=Bk hs fn.results.toList d h;refine⟨if h:g.toArray.size=1 then g.toArray[0] else .tuple g.toArray,?_,?_⟩
 simp_all[vO,Array.mapM_eq_mapM_toList]
 ·have q:=il A
  cases g with
  |nil=>
   cases d with
   |nil=>simp[dA,ae,aq]
   |cons _ _=>simp at q
  |cons u g=>
   cases g with
   |nil=>
    cases d with
    |nil=>simp at q
    |cons v d=>
     cases d with
     |nil=>grind[aq,dA]
     |cons _ _=>simp at q
   |cons u2 g=>
    cases d with
    |nil=>simp at q
    |cons v d=>
     cases d with
     |nil=>simp at q
     |cons F d=>
      simp_all[dA,ae]
def gD(args:List AV)(n:Nat):List AV:=args++dz (n-args.length) .undef
theorem tQ{E:af}:∀(d:List al),aq E (dz d.length .undef) d
 |[]=>by simp[aq]
 |_::d=>by simp only[cJ,List.replicate_succ,aq,ae]; exact⟨trivial,tQ d⟩
structure iU (E E':af):Prop where
 H:E'.H=E.H
 ad:E'.ad=E.ad
 size:E.w.heap.size<=E'.w.heap.size
 same:∀b,b<E.w.heap.size->¬ E.X b->¬ E'.X b/\E'.w.heap[b]?=E.w.heap[b]?
 X:∀b,E'.X b->b<E'.w.heap.size
 r:E'.X.r=E.X.r
theorem iU.bC{E E':af}(h:iU E E')(b:Nat):E'.bC b↔E.bC b:=by unfold af.bC af.sat; rw[h.ad,h.r]
theorem iU.toC(h:iU E E'):E.cQ E':=
 ⟨fun b d=>⟨⟨fK d.1 h.size,fun g=>d.2.1 ((h.bC b).1 g),(h.same b d.1 d.2.2).1⟩,(h.same b d.1 d.2.2).2⟩⟩
mutual
theorem rY{E E':af}(h:iU E E'):∀(a:AV) {c:al},ae E a c->ae E' a c
 |.undef,_,_=>by simp[ae]
 |.lit v,c,hr=>by simpa only[ae]using hr
 |.nils,c,hr=>by simpa only[ae]using hr
 |.list k rZ,c,hr=>fD h.toC _ (by simp[AV.closed]) hr
 |.listF ks rZ,c,hr=>fD h.toC _ (by simp[AV.closed]) hr
 |.agg cells,c,hr=>by
  simp only[ae]at hr|-;obtain⟨cs,e,g,d⟩:=hr;exact⟨cs,e,g,nf h cells d⟩
 |.tuple cells,c,hr=>by
  simp only[ae]at hr|-;obtain⟨cs,e,d⟩:=hr;exact⟨cs,e,nf h cells d⟩
 |.cptr cells,c,hr=>fD h.toC _ (by simp[AV.closed]) hr
 |.ptr id ax k row q,c,hr=>by
  simp only[ae,af.cf,af.live,h.H,h.ad]at hr|-;exact hr
 |.vQ k id ax oF n,c,hr=>by
  simp only[ae,af.cf,af.live,h.H,h.ad]at hr|-;exact hr
 |.map id,c,hr=>by
  simp only[ae,af.cf,af.live,h.H,h.ad]at hr|-;exact hr
 |.clo f caps,c,hr=>by
  simp only[ae]at hr|-;obtain⟨cs,e,d⟩:=hr;exact⟨cs,e,nf h caps d⟩
 |.ifc,c,hr=>by simpa only[ae]using hr
 |.emptyS n,c,hr=>by simpa only[ae]using hr
theorem nf{E E':af}(h:iU E E'):∀(as:List AV) {d:List al},aq E as d->aq E' as d
 |[],[],_=>by simp[aq]
 |[],_::_,hr=>by simp[aq]at hr
 |_::_,[],hr=>by simp[aq]at hr
 |a::as,v::d,hr=>by
  simp only[aq]at hr|-;exact⟨rY h a hr.1,nf h as hr.2⟩
end
theorem aO.cG(H:aO E)(h:iU E E'):aO E' where
 iD:=H.iD.cQ h.toC
 len:=by rw[h.ad,h.H]; exact H.len
 inj:=by rw[h.ad]; exact H.inj
 lt:=fun i b m hi=>by
  rw[h.ad]at hi;have:=H.lt i b m hi;exact⟨fK this.1 h.size,(h.same b this.1 this.2).1⟩
 X:=h.X
 obj:=fun i o hi=>by
  rw[h.H]at hi;exact po (fun a _ hr=>rY h a hr) (by rw[h.ad]) (fun b n q=>(h.same b (H.lt i b n q).1 (H.lt i b n q).2).2) (fun l _=>⟨by rw[h.r],fun k g m d=>(h.same g (H.dP l k g m d).1 (H.dP l k g m d).2).2⟩) (H.obj i o hi)
 iE:=by rw[h.r]; exact H.iE
 eY:=by rw[h.r,h.ad]; exact H.eY
 dP:=fun l k b m d=>by
  rw[h.r]at d;have:=H.dP l k b m d;exact⟨fK this.1 h.size,(h.same b this.1 this.2).1⟩
 uniq:=by rw[h.H]; exact H.uniq
 kM:=by rw[h.H,h.r]; exact H.kM
theorem bM.cG{s:St}{E E':af}{a:Act}(hs:bM s E a)(h:iU E E'){l:List Deferred}(hm:lV E'.w E'.X l):bM s E' { a with defers:=l }:=
 ⟨by rw[h.H]; exact hs.H,nf h _ hs.fr,hm,hs.heap.cG h⟩
theorem QM{P:ak}{fn:Func}{tmps:Array al}{R:Ending->be->Prop}:∀(l:List Deferred) (w:be) (X:XS),lV w X l ->
  (∀w',w'.heap.size=w.heap.size->(∀b,w'.heap[b]?≠w.heap[b]?->X b/\X.z b)->eV w w'->∃v,(results fn tmps).run P w'=.ok v w'/\R (.returned v) w')->LeavesInM (fz none) 0 P fn tmps R l .returning w
 |[],w,X,_,h=>h w rfl (fun b g=>(g rfl).elim) (eV.refl w)
 |d::l,w,X,hm,h=>by
  obtain⟨D,e,A,h2,h3⟩:=hm.2 d dG;subst e;have hlt:D<w.heap.size:=(fS.1 A).1;have I:∀b,b≠D->(w.putObj D (.deferred none)).heap[b]?=w.heap[b]?:=fun b g=>World.putObj_heap_other g;have J:(w.putObj D (.deferred none)).heap.size=w.heap.size:=by simp[World.putObj]
  refine⟨ai,.inl ⟨D,_,rfl,run_takeDeferred A,QM l _ X ⟨(mn.1 hm.1).2,fun M q=>?_⟩ fun w' N g2 O=>h w' (by rw[N,J]) (fun b g=>?_) (eV.trans ⟨rfl,rfl,rfl,by first|exact fun _=>bl _|exact fun _=>Nat.le_add_right _ _⟩ O)⟩⟩
  ·obtain⟨B,F,U,W,Y⟩:=hm.2 M (List.mem_cons_of_mem _ q)
   refine⟨B,F,?_,W,Y⟩;rw[I B (fun e=>(mn.1 hm.1).1 (by rw[<-e,<-F]; exact q))];exact U
  grind
theorem E9{P:ak}{args:Array al}{R:Ending->be->Prop}(q:P.funcs[f]? = some fn)(A:fn.body=some c)
  (h : c.wpIn (fz none) 0 P (fun e g d => (e = .normal \/ e = .ret) /\ ∃ X, lV d X g.defers /\ ∀ w', w'.heap.size = d.heap.size -> (∀ b, w'.heap[b]? ≠ d.heap[b]? -> X b /\ X.z b) -> eV d w' -> ∃ v, (results fn g.tmps).run P w' = .ok v w' /\ R (.returned v) w')
   { tmps:=args++pe (fn.ntmps-args.size) undef,defers:=[] } w):Calls P f args w R:=by
 refine(callsIn_wide (n:=0)).1 (callsIn_of_wp_marks (F:=fz none) q A trivial (wpIn_mono h fun e g d B=>?_));obtain⟨he,X,I,J⟩:=B;have:=QM (P:=P) (fn:=fn) (tmps:=g.tmps) (R:=R) g.defers d X I J;rcases he with rfl|rfl
 ·exact this
 ·exact this
theorem E_{B:List (Option (Nat × Nat))}{q:XS}{I:Act}{g:be}(HE:aO E)(hs:bM s' { w:=g,H:=s'.H,ad:=B,X:=q } I)
  (d:({ E with X:=⟨E.X.x,fun _=>False,E.X.r⟩ }:af).dO m { w:=g,H:=s'.H,ad:=B,X:=q }) (Y:w'.heap.size=g.heap.size) (J:∀b,w'.heap[b]?≠g.heap[b]?->q b/\q.z b) (O:eV g w') :
  bM s' { w:=w',H:=s'.H,ad:=B,X:=E.X.re q.r } { I with defers:=[] }/\E.dO m { w:=w',H:=s'.H,ad:=B,X:=E.X.re q.r }:=by
 have N:∀b,b<E.w.heap.size->w'.heap[b]?=g.heap[b]?:=fun b A=>Ph fun F=>((d.X b A).2.1 (J b F).2).elim;have W:E.w.heap.size<=g.heap.size:=d.size;have cG:iU { w:=g,H:=s'.H,ad:=B,X:=q } { w:=w',H:=s'.H,ad:=B,X:=E.X.re q.r }:=
  ⟨rfl,rfl,by show g.heap.size<=w'.heap.size; omega,fun b A M=>⟨fun he=>M ((d.X b (HE.X b he)).1.2 he),Ph fun F=>M (J b F).1⟩,fun b A=>by
   have:=HE.X b A;show b<w'.heap.size
   omega,rfl⟩
 refine⟨hs.cG cG (mr _ _),⟨d.cf,by show E.w.heap.size<=w'.heap.size; omega,fun b A U=>?_,d.bC,d.live,fun b _=>⟨Iff.rfl,Iff.rfl⟩,d.rl,d.env.trans O⟩⟩;show w'.heap[b]?=E.w.heap[b]?
 rw[N b A];exact d.same b A U
theorem mw(HE:aO E):iU E { E with X:=⟨E.X.x,fun _=>False,E.X.r⟩ }:=⟨rfl,rfl,bl _,fun b _ d=>⟨d,rfl⟩,HE.X,rfl⟩
theorem ab1{P:ak}{x:cu}{B:List AV}
  (O:P.funcs[f]?=some fn) (U:fn.body=some c) (hs:c_ P H.length c ⟨gD args fn.ntmps,H⟩ x s') (W:x=.normal\/x=.ret) (hr:kO P s' fn.results.toList=some B) (N:EX H) :
  e_ P f args H (dA B) s'.H:=by
 intro E q hH HE A;refine E9 O U ?_;have F:=mw HE;have A:=nf F _ A;have J:bM ⟨gD args fn.ntmps,H⟩ { E with X:=⟨E.X.x,fun _=>False,E.X.r⟩ } { tmps:=q++pe (fn.ntmps-q.size) undef,defers:=[] }:=by
  refine⟨hH,?_,mr _ _,HE.cG F⟩;simp only[gD,Array.toList_append,Array.toList_replicate];refine mv A ?_;have:=il A;have e:args.length=q.size:=ab;rw[e];have:=tQ (E:={ E with X:=⟨E.X.x,fun _=>False,E.X.r⟩ }) (dz (fn.ntmps-q.size) undef)
  grind
 refine wpIn_mono (hs none (EY _) { E with X:=⟨E.X.x,fun _=>False,E.X.r⟩ } _ J) fun e a1 w1 ⟨Y,M,I,d,g⟩=>?_;refine⟨by subst Y; rcases W with rfl|rfl; exact .inl rfl; exact .inr rfl,I,d.defers,fun w' k1 k2 k3=>?_⟩;obtain⟨d,g⟩:=E_ HE d g k1 k2 k3;obtain⟨u,g1,g2⟩:=ab0 d hr;have g:=g.full ⟨rfl,rfl⟩ (by rw[hH]; exact bl _) (by rw[hH]; exact N);exact⟨u,g1,u,dA B,s'.H,rfl,⟨rfl,rfl⟩,M,I.r,g2,d.heap,g⟩
theorem ab2{P:ak}{H1:List ay}(h:e_ P f args [] v H1)(Y:AV.ca args=true)(hv:v.closed=true):eA P f args v:=by
 intro H E N hH HE O
 let E0:af:={ w:=E.w,H:=[],ad:=[],X:=(E.X.or E.bC).re fM }
 have I:∀b,¬ E0.bC b:=by rintro b (⟨id,c,hid⟩|⟨l,k,c,g⟩); grind; simp[E0,fM]at g
 have hC:E.cQ E0:=⟨fun b d=>⟨⟨d.1,I b,fun A=>A.elim d.2.2 d.2.1⟩,rfl⟩⟩
 have W:aO E0:=by
  refine⟨rfl,?_,?_,?_,?_,HE.iD.cQ hC,fun l k l' k' b m n g=>by simp[E0,fM]at g,fun i b m l k n hi=>by simp[E0]at hi,fun l k b m g=>by simp[E0,fM]at g,fun i j o o' l hi=>by simp[E0]at hi,fun l _ k q g=>by simp[E0,fM]at g⟩
  grind
  grind
  ·rintro b (A | B)
   ·exact HE.X b A
   ·exact(HE.x2 B).1
  grind
 refine(h E0 N rfl W (tu hC args Y O)).mono ?_;rintro _ w' ⟨c,M,H',rfl,⟨rfl,rfl⟩,U,r',g1,g2,F⟩;have J:Ext E.w w':=⟨F.size,fun b d=>F.same b d (I b),F.env⟩
 refine⟨c,M,H,rfl,⟨rfl,rfl⟩,E.ad,E.X.r,?_,?_,?_⟩
 ·rw[<- hH]
  exact fD (E:={ w:=w',H:=H',ad:=U,X:=E0.X.re r' }) (E':={ w:=w',H:=E.H,ad:=E.ad,X:=E.X })
   ⟨fun b d=>⟨⟨d.1,fun B=>d.2.2 (Or.inr B),fun A=>d.2.2 (Or.inl A)⟩,rfl⟩⟩ M hv g1
 ·rw[<-hH]; exact HE.ext J
 ·rw[<-hH]; exact af.jn J
variable {P:ak} {pf:bH->Bool} {ah:Array aN}
def pC(r:cN->AV):Op->Option Nat
 |.load _ a=>match r a with
  |.ptr id _ _ _ _=>some id
  |_=>none
 |.lookup _ m _ _=>match r m with
  |.map id=>some id
  |_=>none
 |.call c=>match c.args.toList with
  |[a]=>match r a with
   |.map id=>some id
   |_=>none
  |_=>none
 |_=>none
theorem QN{g:List ay}:∀{op:Op},(∀id,pC r op=some id->g[id]?=H[id]?)->im P r g op=im P r H op:=by
 intro op h;cases op<;>simp only[im]
 case load t a=>
  simp only[pC]at h;unfold iS;cases d:r a with
  |ptr id ax w row q=>
   rw[d]at h;have:=h id rfl;simp only[this]
  |_=>rfl
 case lookup t m k ok=>
  simp only[pC]at h;unfold pA;cases iF P t with
  |none=>rfl
  |some p=>
   obtain⟨A,B⟩:=p;cases hm:r m with
   |map id=>
    rw[hm]at h;have:=h id rfl;simp only[this]
   |_=>rfl
 case call c=>
  simp only[pC]at h;unfold tM;split
  ·rename_i a t hc d F
   rw[d]at h;simp only[]at h;cases iF P t with
   |none=>rfl
   |some p=>
    cases hm:r a with
    |map id=>
     rw[hm]at h;have:=h id rfl;simp only[this]
    |_=>rfl
  ·rfl
theorem QO(o:Op)(h:∀x∈o.operands,r x=d x):pC r o=pC d o:=by
 cases o<;>simp only[pC]
 simp_all[j_]
 case lookup t m k ok=>
  simp_all[j_]
 case call c=>
  split
  ·rename_i a g
   have:a∈(Op.call c).operands:=by
    show a∈c.operands
    have q:a∈c.args:=by
     have:a∈c.args.toList:=by rw[g]; simp
     grind
    simp[Ec,q]
   grind
  ·rfl
abbrev lv:=List (Nat × List Nat × Nat)
abbrev my:=List (Nat × Nat)
def kept(W:lv)(j A:Nat):Prop:=∀e∈W,e.1=j->A∉e.2.1/\A<e.2.2
def Kv(ah:Array aN):Bool:=
 (jh ah.size).any fun j=>(jh j).any fun i=>match ah[i]?,ah[j]? with
  |some x,some y=>gC x.op&&gC y.op && !waits ah ah.size j i
  |_,_=>false
def pD:Op->Bool
 |.call c=>match c.callee with
  |.value (.func _)=>true
  |_=>false
 |_=>false
def tR(ah:Array aN):Bool:=
 (jh ah.size).any fun j=>(jh j).any fun i=>match ah[i]?,ah[j]? with
  |some x,some y=>pD x.op&&gC y.op && !waits ah ah.size j i
  |_,_=>false
def vP(ah:Array aN):Bool:=Kv ah||tR ah
theorem vR{pf:bH->Bool}(h:gC op=true):ef pf op=.write:=by
 unfold gC at h;split at h
 ·rfl
 ·cases h
theorem Fa{pf:bH->Bool}{X:Prop}(h:ef pf op≠.write):gC op=true->X:=fun d=>(h (vR d)).elim
theorem tS(h:gC op=true):pD op=false:=by
 unfold gC at h;split at h
 ·rfl
 ·cases h
def r7(d:List (Nat × ay))(H:List ay):List ay:=d.foldl (fun H p=>H.set p.1 p.2) H
def Fb(W:lv)(j:Nat)(H:List ay)(d:List (Nat × ay)):Prop:=∀p∈d,kept W j p.1/\∃k r,H[p.1]?=some (.vQ k 0 [])/\p.2=.vQ k 1 r
def Step(P:ak)(pf:bH->Bool)(ah:Array aN)(R:my)(W:lv)(j:Nat)(o:aN)(s:St)(v:AV)(H':List ay):Prop:=
 (ef pf o.op=.write->∀A,kept W j A->H'[A]?=s.H[A]?)/\(ef pf o.op=.read->dq ah s.fr o=some true->∀id,pC s.eval o.op=some id->(j,id)∈R) /\
  (gC o.op=true->vP ah=true->dq ah s.fr o=some true->H'.length=s.H.length/\∀id,H'[id]?≠s.H[id]?->∃e∈W,e.1=j/\id∈e.2.1) /\
  (pD o.op=true->tR ah=true->ef pf o.op=.write->dq ah s.fr o=some true->∀d,Fb W j s.H d->Yields P pf ah o ⟨s.fr,r7 d s.H⟩ v (r7 d H'))
def QP(R:my)(W:lv)(i j:Nat):Prop:=∀id,(i,id)∈R->kept W j id
def Kw(pf:bH->Bool)(ah:Array aN)(R:my)(W:lv)(i:Nat)(x:aN)(j:Nat)(y:aN):Prop:=
 rX pf x y=true\/(ef pf x.op=.read/\ef pf y.op=.write/\QP R W i j)\/(ef pf x.op=.write/\ef pf y.op=.read/\QP R W j i)\/(gC x.op=true/\gC y.op=true/\vP ah=true) \/
  (ef pf x.op=.write/\pD x.op=true/\gC y.op=true/\tR ah=true/\∀e∈W,e.1=j->∀id∈e.2.1,kept W i id)
theorem Kx(d:gC o.op=true)(h:Yields P pf ah o s v H')(q:dq ah s.fr o=some true->H'.length=s.H.length):
  (dq ah s.fr o=some false/\v=.tuple []/\H'=s.H) \/
   (dq ah s.fr o=some true/\∃t id z k m,o.op=.alloc t/\gK P t=some z/\s.H[id]?=some (.vQ k 0 [])/\k=z.length/\v=.ptr id 1 k 0 0/\H'=s.H.set id (.vQ k 1 [fv m z])):=by
 unfold Yields at h;cases B:dq ah s.fr o with
 |none=>rw[B]at h; exact h.elim
 |some b=>
  rw[B]at h;cases b with
  |false=>exact .inl ⟨rfl,h.1,h.2⟩
  |true=>
   right;refine⟨rfl,?_⟩;simp only[vR d]at h;have q:=q B;rcases h with(h|⟨f,args,A,_⟩)|⟨t,id,m,g,I⟩|F
   ·unfold gC at d
    split at d
    ·rename_i t g
     rw[g]at h;simp only[gB,vE]at h;split at h
     ·split at h
      ·cases h
       simp at q
      ·cases h
     ·split at h
      ·cases h
       simp at q
      ·cases h
    ·cases d
   ·unfold gC at d
    split at d
    ·rename_i t g
     rw[g]at A;cases A
    ·cases d
   ·obtain⟨z,k,A,J,M,N,O⟩:=QC I
    exact⟨t,id,z,k,m,g,A,J,M,N,O⟩
   ·unfold gC at d
    split at d
    ·rename_i t g
     rw[g]at F;exact F.elim
    ·cases d
theorem Ky{z:List al}(g:dq ah s.fr o=some true)(q:o.op=.alloc t)(A:gK P t=some z)(d:s.H[id]? = some (.vQ k 0 []))(B:k=z.length) (m:List (Option (List Kd))):
  Yields P pf ah o s (.ptr id 1 k 0 0) (s.H.set id (.vQ k 1 [fv m z])):=by
 unfold Yields;rw[g,q];exact .inr (.inl ⟨t,id,m,rfl,QD m A d B⟩)
variable {W:lv} {R:my}
theorem ab3{F g:aN}{u:AV}{N q:List ay}(h1:F.apart ah g=true)(h2:g.apart ah F=true)(hc:Kw pf ah R W i F j g)
  (hi:Yields P pf ah F s v N) (si:Step P pf ah R W i F s v N) (hj:Yields P pf ah g (s.put F.dst v N) u q) (sj:Step P pf ah R W j g (s.put F.dst v N) u q) :
  ∃Hj1,Yields P pf ah g s u Hj1/\Step P pf ah R W j g s u Hj1/\Yields P pf ah F (s.put g.dst u Hj1) v q/\Step P pf ah R W i F (s.put g.dst u Hj1) v q:=by
 obtain⟨a1,a2,a3⟩:=Pd h1;have wj:dq ah (s.put F.dst v N).fr g=dq ah s.fr g:=EV a1;have wi:∀M,dq ah (s.put g.dst u M).fr F=dq ah s.fr F:=fun M=>EV a3;have ej:∀x∈g.op.operands,(s.put F.dst v N).eval x=s.eval x:=fun x hx=>eval_put a1 hx;have ei:∀M,∀x∈F.op.operands,(s.put g.dst u M).eval x=s.eval x:=fun M x hx=>eval_put a3 hx;have cj:=QO g.op ej;have ci:=fun M=>QO F.op (ei M);have evj:=QA (P:=P) (H:=N) g.op ej;have readJ:ef pf g.op=.read->Step P pf ah R W j g s u s.H:=fun hr=>⟨fun d=>(by rw[hr]at d; cases d),fun _ d id hid=>sj.2.1 hr (by rw[wj]; exact d) id (by rw[cj]; exact hid),Fa (by rw[hr]; simp),fun _ _ d=>(by rw[hr]at d; cases d)⟩
 have readI:ef pf F.op=.read->∀M H3,Step P pf ah R W i F (s.put g.dst u M) v H3:=fun hr M H3=>⟨fun d=>(by rw[hr]at d; cases d),fun _ d id hid=>si.2.1 hr (by rw[wi]at d; exact d) id (by rw[ci]at hid; exact hid),Fa (by rw[hr]; simp),fun _ _ d=>(by rw[hr]at d; cases d)⟩
 have frj:∀{M H3:List ay} {v':AV},Yields P pf ah g ⟨(s.put F.dst v N).fr,M⟩ v' H3->Yields P pf ah g ⟨s.fr,M⟩ v' H3:=fun {M _ _} h=>(jt (s1:=⟨(s.put F.dst v N).fr,M⟩) (s:=⟨s.fr,M⟩) wj (fun x hx=>by
  have:=ej x hx;cases x<;>exact this) rfl).1 h
 have fri:∀{H1 M H3:List ay} {v':AV},Yields P pf ah F ⟨s.fr,M⟩ v' H3->Yields P pf ah F ⟨(s.put g.dst u H1).fr,M⟩ v' H3:=fun {H1 M _ _} h=>(jt (s1:=⟨(s.put g.dst u H1).fr,M⟩) (s:=⟨s.fr,M⟩) (wi H1) (fun x hx=>by
  have:=ei H1 x hx;cases x<;>exact this) rfl).2 h
 have toJ:N=s.H->Step P pf ah R W j g s u q:=by
  intro e;subst e;exact⟨fun d A hA=>sj.1 d A hA,fun hr d id hid=>sj.2.1 hr (by rw[wj]; exact d) id (by rw[cj]; exact hid),fun ha ht d=>sj.2.2.1 ha ht (by rw[wj]; exact d),
   fun O hca d hwa σ hσ=>frj (sj.2.2.2 O hca d (by rw[wj]; exact hwa) σ hσ)⟩
 have toI:q=N->Step P pf ah R W i F (s.put g.dst u s.H) v q:=by
  intro e;subst e;exact⟨fun d A hA=>si.1 d A hA,fun hr d id hid=>si.2.1 hr (by rw[wi]at d; exact d) id (by rw[ci]at hid; exact hid),fun ha ht d=>si.2.2.1 ha ht (by rw[wi]at d; exact d),
   fun O hca d hwa σ hσ=>fri (si.2.2.2 O hca d (by rw[wi]at hwa; exact hwa) σ hσ)⟩
 have old:rX pf F g=true->∃Hj1,Yields P pf ah g s u Hj1/\Yields P pf ah F (s.put g.dst u Hj1) v q:=fun hc=>QE h1 h2 hc hi hj;cases I:ef pf F.op with
 |pure=>
  obtain⟨e1,g1⟩:=Bi I hi;subst e1;refine⟨q,(jt wj ej rfl).1 hj,toJ rfl,
   (jt (s1:=s.put g.dst u q) (s:=⟨s.fr,q⟩) (wi q) (fun x hx=>by rw[ei q x hx]; cases x<;>rfl) rfl).2 (g1 q),⟨fun d=>(by rw[I]at d; cases d),fun hr=>(by rw[I]at hr; cases hr),Fa (by rw[I]; simp),fun _ _ d=>(by rw[I]at d; cases d)⟩⟩
 |read=>
  have e1:=vK I hi;subst e1;have hj':=(jt wj ej rfl).1 hj;refine⟨q,hj',toJ rfl,?_,readI I _ _⟩;have key:∀M:List ay,St.eval ⟨s.fr,M⟩=s.eval:=fun M=>by funext x; cases x<;>rfl
  have same:dq ah s.fr F=some true->im P s.eval q F.op=im P s.eval s.H F.op:=by
   intro d;cases J:ef pf g.op with
   |pure=>
    have:=(Bi J hj').1;rw[this]
   |read=>
    have:=vK J hj';rw[this]
   |write=>
    rcases hc with hc|⟨_,_,hap⟩|⟨hw',_,_⟩|⟨hw',_,_⟩|⟨hw',_⟩
    ·obtain⟨Hj1,q1,q2⟩:=old hc
     have q3:=(jt (s1:=s.put g.dst u Hj1) (s:=⟨s.fr,Hj1⟩) (wi Hj1) (fun x hx=>by rw[ei Hj1 x hx]; cases x<;>rfl) rfl).1 q2;have e2:q=Hj1:=vK I q3;subst e2;unfold Yields at q3 hi;simp only[I,d]at q3 hi;rw[key]at q3;rw[q3.2,hi.2]
    ·exact QN fun id hid=>sj.1 J id (hap id (si.2.1 I d id hid))
    ·rw[I]at hw'
     cases hw'
    ·rw[vR hw']at I
     cases I
    ·rw[I]at hw'
     cases hw'
  refine(jt (s1:=s.put g.dst u q) (s:=⟨s.fr,q⟩) (wi q) (fun x hx=>by rw[ei q x hx]; cases x<;>rfl) rfl).2 ?_;unfold Yields at hi|-;simp only[I]at hi|-;cases d:dq ah s.fr F with
  |none=>rw[d]at hi; exact hi.elim
  |some b=>
   rw[d]at hi;cases b with
   |false=>exact⟨hi.1,ai⟩
   |true=>
    refine⟨ai,?_⟩;rw[key,same d];exact hi.2
 |write=>
  cases J:ef pf g.op with
  |pure=>
   obtain⟨e1,g1⟩:=Bi J hj;have e1':q=N:=e1;subst e1';refine⟨s.H,?_,⟨fun d=>(by rw[J]at d; cases d),fun hr=>(by rw[J]at hr; cases hr),Fa (by rw[J]; simp),fun _ _ d=>(by rw[J]at d; cases d)⟩,(jt (s1:=s.put g.dst u s.H) (s:=s) (wi s.H) (ei s.H) rfl).2 hi,toI rfl⟩;exact(jt (s1:=⟨(s.put F.dst v q).fr,s.H⟩) (s:=s) wj (fun x hx=>by
    have:=ej x hx;cases x<;>exact this) rfl).1 (g1 s.H)
  |read=>
   have e2:=vK J hj;have Y:q=N:=e2;subst Y;refine⟨s.H,?_,readJ J,(jt (s1:=s.put g.dst u s.H) (s:=s) (wi s.H) (ei s.H) rfl).2 hi,toI rfl⟩;have same:dq ah s.fr g=some true->im P s.eval q g.op=im P s.eval s.H g.op:=by
    intro d;rcases hc with hc|⟨hr',_,_⟩|⟨_,_,hap⟩|⟨_,hr',_⟩|⟨_,_,hr',_⟩
    ·unfold rX at hc
     rw[I,J]at hc;cases hc
    ·rw[I]at hr'
     cases hr'
    ·exact QN fun id hid=>si.1 I id (hap id (sj.2.1 J (by rw[wj]; exact d) id (by rw[cj]; exact hid)))
    ·rw[vR hr']at J
     cases J
    ·rw[vR hr']at J
     cases J
   unfold Yields at hj|-;simp only[J]at hj|-;rw[wj]at hj;cases d:dq ah s.fr g with
   |none=>rw[d]at hj; exact hj.elim
   |some b=>
    rw[d]at hj;cases b with
    |false=>exact⟨hj.1,ai⟩
    |true=>
     refine⟨ai,?_⟩;rw[<-same d,<-evj];exact hj.2
  |write=>
   rcases hc with hc|⟨hr',_,_⟩|⟨_,hr',_⟩|⟨hai,haj,htw⟩|⟨_,hvi,haj,hca,hap⟩
   ·unfold rX at hc
    rw[I,J]at hc;cases hc
   ·rw[I]at hr'
    cases hr'
   ·rw[J]at hr'
    cases hr'
   ·-- two allocations,each in its bC place
    have ck:∀{f:Option Bool},f=some true->f=some false->False:=fun h1 h2=>by rw[h1]at h2; cases h2
    rcases Kx hai hi (fun d=>(si.2.2.1 hai htw d).1)with⟨wi',rfl,e1⟩|⟨wi',ti,idi,zi,ki,mi,oi',z1,z2,z3,rfl,e1⟩
    ·subst e1
     refine⟨q,(jt wj ej rfl).1 hj,toJ rfl,?_,⟨fun _ A _=>rfl,fun hr=>(by rw[I]at hr; cases hr),fun _ _ _=>⟨rfl,fun _ h=>(h rfl).elim⟩,fun O=>(by rw[tS hai]at O; cases O)⟩⟩;unfold Yields;rw[wi,wi'];exact⟨rfl,rfl⟩
    ·rcases Kx haj hj (fun d=>(sj.2.2.1 haj htw d).1) with⟨wj',rfl,e2⟩ | ⟨wj',tj,B,zj,U,mj,oj',y1,y2,y3,rfl,e2⟩
     ·have Y:q=N:=e2
      subst Y;refine⟨s.H,?_,⟨fun _ A _=>rfl,fun hr=>(by rw[J]at hr; cases hr),fun _ _ _=>⟨rfl,fun _ h=>(h rfl).elim⟩,fun O=>(by rw[tS haj]at O; cases O)⟩,(jt (s1:=s.put g.dst (.tuple []) s.H) (s:=s) (wi s.H) (ei s.H) rfl).2 hi,toI rfl⟩;unfold Yields;rw[wj]at wj';rw[wj'];exact⟨rfl,rfl⟩
     ·have Y:q=N.set B (.vQ U 1 [fv mj zj]):=e2
      have y2':N[B]?=some (.vQ U 0 []):=y2;have hne:B≠idi:=by
       intro e;subst e;rw[e1,dN (bA z2)]at y2';simp at y2'
      have y2s:s.H[B]?=some (.vQ U 0 []):=by rw[e1,dh (Ne.symm hne)]at y2'; exact y2'
      have wjs:dq ah s.fr g=some true:=by rw[<-wj]; exact wj'
      have hjj:∀A,kept W j A->A≠B:=by
       intro A hA e;subst e;have h:=sj.1 J A hA;have h':q[A]?=N[A]?:=h;rw[Y,dN (bA y2'),y2']at h';simp at h'
      have hii:∀A,kept W i A->A≠idi:=by
       intro A hA e;subst e;have h:=si.1 I A hA;rw[e1,dN (bA z2),z2]at h;simp at h
      have hcomm:q=(s.H.set B (.vQ U 1 [fv mj zj])).set idi (.vQ ki 1 [fv mi zi]):=by rw[Y,e1,Z9 _ _ (Ne.symm hne)]
      refine⟨s.H.set B (.vQ U 1 [fv mj zj]),Ky wjs oj' y1 y2s y3 mj,⟨fun _ A hA=>dh (Ne.symm (hjj A hA)),fun hr=>(by rw[J]at hr; cases hr),fun _ _ _=>⟨ai,fun id hne=>?_⟩,fun O=>(by rw[tS haj]at O; cases O)⟩,?_,
       ⟨fun _ A hA=>?_,fun hr=>(by rw[I]at hr; cases hr),fun _ _ _=>⟨?_,fun id hne=>?_⟩,fun O=>(by rw[tS hai]at O; cases O)⟩⟩
      ·have e:id=B:=Pj fun e=>hne (dh (Ne.symm e))
       subst e;refine(sj.2.2.1 haj htw wj').2 id ?_;show q[id]?≠N[id]?
       rw[Y,dN (bA y2'),y2'];simp
      ·rw[hcomm]
       refine Ky (s:=s.put g.dst (.ptr B 1 U 0 0) (s.H.set B (.vQ U 1 [fv mj zj]))) (by rw[wi]; exact wi') oi' z1 ?_ z3 mi;show (s.H.set B _)[idi]?=_
       rw[dh hne];exact z2
      ·show q[A]?=(s.H.set B _)[A]?
       rw[hcomm,dh (Ne.symm (hii A hA))]
      ·show q.length=(s.H.set B _).length
       rw[hcomm];simp
      ·have e:id=idi:=Pj fun e=>hne (by
        show q[id]?=(s.H.set B _)[id]?
        rw[hcomm,dh (Ne.symm e)])
       subst e;refine(si.2.2.1 hai htw wi').2 id ?_;rw[e1,dN (bA z2),z2];simp
   ·-- a call,and an allocation in a place that it does not touch
    have hih:vP ah=true:=by
     unfold vP;rw[hca];simp
    rcases Kx haj hj (fun d=>(sj.2.2.1 haj hih d).1)with⟨wj',rfl,e2⟩|⟨wj',tj,B,zj,U,mj,oj',y1,y2,y3,rfl,e2⟩
    ·have Y:q=N:=e2
     subst Y;refine⟨s.H,?_,⟨fun _ A _=>rfl,fun hr=>(by rw[J]at hr; cases hr),fun _ _ _=>⟨rfl,fun _ h=>(h rfl).elim⟩,fun O=>(by rw[tS haj]at O; cases O)⟩,(jt (s1:=s.put g.dst (.tuple []) s.H) (s:=s) (wi s.H) (ei s.H) rfl).2 hi,toI rfl⟩;unfold Yields;rw[wj]at wj';rw[wj'];exact⟨rfl,rfl⟩
    ·have Y:q=N.set B (.vQ U 1 [fv mj zj]):=e2
     have y2':N[B]?=some (.vQ U 0 []):=y2;obtain⟨e,he,hej,hid⟩:=(sj.2.2.1 haj hih wj').2 B (by
      show q[B]?≠N[B]?
      rw[Y,dN (bA y2'),y2'];simp)
     have hk:=hap e he hej B hid;have y2s:s.H[B]?=some (.vQ U 0 []):=by rw[<-si.1 I B hk]; exact y2'
     have wjs:dq ah s.fr g=some true:=by rw[<-wj]; exact wj'
     have hjj:∀A,kept W j A->A≠B:=by
      intro A hA e;subst e;have h:=sj.1 J A hA;have h':q[A]?=N[A]?:=h;rw[Y,dN (bA y2'),y2']at h';simp at h'
     have hfill:Fb W i s.H [(B,.vQ U 1 [fv mj zj])]:=by
      intro p hp;rw[List.mem_singleton.1 hp];exact⟨hk,U,_,y2s,rfl⟩
     have hcall:Yields P pf ah F ⟨s.fr,s.H.set B (.vQ U 1 [fv mj zj])⟩ v q/\(dq ah s.fr F=some true->∀σ,Fb W i (s.H.set B (.vQ U 1 [fv mj zj])) σ->Yields P pf ah F ⟨s.fr,r7 σ (s.H.set B (.vQ U 1 [fv mj zj]))⟩ v (r7 σ q)):=by
      cases d:dq ah s.fr F with
      |none=>
       unfold Yields at hi;rw[d]at hi;exact hi.elim
      |some b=>
       cases b with
       |false=>
        refine⟨?_,fun h=>by cases h⟩;unfold Yields at hi|-;rw[d]at hi;rw[show dq ah (St.mk s.fr (s.H.set B (.vQ U 1 [fv mj zj]))).fr F=some false from d];refine⟨hi.1,?_⟩;show q=s.H.set B _
        rw[Y,hi.2]
       |true=>
        have h4:=si.2.2.2 hvi hca I d;refine⟨?_,fun _ σ hσ=>?_⟩
        ·have:=h4 _ hfill
         rw[Y];exact this
        ·have:=h4 ((B,.vQ U 1 [fv mj zj])::σ) (by
          intro p hp;rcases List.mem_cons.1 hp with rfl|hp
          ·exact hfill _ dG
          ·obtain⟨a2,k,r,a3,a4⟩:=hσ p hp
           refine⟨a2,k,r,?_,a4⟩;have hne:p.1≠B:=fun e=>by
            rw[e,dN (bA y2s)]at a3;simp at a3
           rwa [dh (Ne.symm hne)]at a3)
         rw[Y];exact this
     refine⟨s.H.set B (.vQ U 1 [fv mj zj]),Ky wjs oj' y1 y2s y3 mj,⟨fun _ A hA=>dh (Ne.symm (hjj A hA)),fun hr=>(by rw[J]at hr; cases hr),fun _ _ _=>⟨ai,fun id hne=>?_⟩,fun O=>(by rw[tS haj]at O; cases O)⟩,fri (H1:=s.H.set B (.vQ U 1 [fv mj zj])) hcall.1,
      ⟨fun _ A hA=>?_,fun hr=>(by rw[I]at hr; cases hr),fun ha=>(by rw[tS ha]at hvi; cases hvi),fun _ _ _ hwa σ hσ=>fri (H1:=s.H.set B (.vQ U 1 [fv mj zj])) (hcall.2 (by rw[wi]at hwa; exact hwa) σ hσ)⟩⟩
     ·have e:id=B:=Pj fun e=>hne (dh (Ne.symm e))
      subst e;exact⟨_,he,hej,hid⟩
     ·show q[A]?=(s.H.set B _)[A]?
      have h1:N[A]?=s.H[A]?:=si.1 I A hA;by_cases e:A=B
      ·subst e
       rw[Y,dN (bA y2'),dN (bA y2s)]
      ·rw[Y,dh (Ne.symm e),dh (Ne.symm e),h1]
def Bl(P:ak)(pf:bH->Bool)(ah:Array aN)(R:my)(W:lv)(i:Nat)(K:St->Prop)(s:St):Prop:=
 match ah[i]? with
 |none=>K s
 |some o=>∃v H',Yields P pf ah o s v H'/\Step P pf ah R W i o s v H'/\K (s.put o.dst v H')
def Bm(P:ak)(pf:bH->Bool)(ah:Array aN)(R:my)(W:lv)(s':St):Nat->Array Bool->St->Prop
 |0,d,s=>o_ .any ah d=[]/\s=s'
 |g+1,d,s=>(o_ .any ah d=[]->s=s')/\∀i∈o_ .any ah d,Bl P pf ah R W i (Bm P pf ah R W s' g (d.setIfInBounds i true)) s
theorem Kz{R:my}{W:lv}{s':St}:∀(d:Nat) (q:Array Bool) (s:St),Bm P pf ah R W s' d q s->yp P pf ah s' d q s
 |0,_,_,h=>h
 |d+1,q,s,h=>by
  refine⟨h.1,fun i hi=>?_⟩;have g:=h.2 i hi;unfold Bl at g;unfold yo;cases A:ah[i]? with
  |none=>rw[A]at g; exact Kz d _ _ g
  |some o=>
   rw[A]at g;obtain⟨v,H',B,_,F⟩:=g;exact⟨v,H',B,Kz d _ _ F⟩
theorem ab4(hi:ah[i]?=some q):∀(F:Nat) (d:Array Bool) (s:St) (v:AV) (H':List ay),vL ah d ->
  (∀j A,ah[j]?=some A->j≠i->d.getD j true=false->waits ah ah.size j i=false->q.apart ah A=true/\A.apart ah q=true/\Kw pf ah R W i q j A) ->
  i∈o_ .any ah d->Yields P pf ah q s v H'->Step P pf ah R W i q s v H'->Bm P pf ah R W s' F (d.setIfInBounds i true) (s.put q.dst v H')->Bm P pf ah R W s' (F+1) d s:=by
 intro F
 induction F with
 |zero=>
  intro d s v H' _ _ hr J I H;refine⟨fun h=>(by rw[h]at hr; cases hr),fun j B=>?_⟩;by_cases g:j=i
  ·subst g
   unfold Bl;simp only[hi];exact⟨v,H',J,I,H⟩
  ·have:=ready_mono B g
   rw[H.1]at this;cases this
 |succ F ih=>
  intro d s v H' Y O hr J I H;refine⟨fun h=>(by rw[h]at hr; cases hr),fun j B=>?_⟩;by_cases g:j=i
  ·subst g
   unfold Bl;simp only[hi];exact⟨v,H',J,I,H⟩
  ·have N:=H.2 j (ready_mono B g)
   obtain⟨U,A,hoj,hall⟩:=mem_ready.1 B;unfold Bl at N|-;simp only[hoj]at N|-;obtain⟨u,Hj,hyj,hsj,hrest⟩:=N;have hnw:waits ah ah.size j i=false:=by
    cases hw:waits ah ah.size j i with
    |false=>rfl
    |true=>
     have:=Kr Y _ _ _ (Ks B) hw;rw[QG hr]at this;cases this
   obtain⟨a1,a2,a3⟩:=O j A hoj g U hnw;obtain⟨M,q1,q2,q3,q4⟩:=ab3 a1 a2 a3 J I hyj hsj;refine⟨u,M,q1,q2,?_⟩;refine ih (d.setIfInBounds j true) (s.put A.dst u M) v Hj (EW Y B) ?_ (ready_mono hr (Ne.symm g)) q3 q4 ?_
   ·intro k ok hk hki hun hno
    refine O k ok hk hki ?_ hno;by_cases hjk:j=k
    ·subst hjk; exact U
    ·rw[getD_set_ne true hjk]at hun; exact hun
   ·rw[atC _ _ g]
    have:=QF s q.dst A.dst v u H' Hj M (Pd a1).2.1;rw[<-this];exact hrest
def yr(P:ak)(pf:bH->Bool)(ah:Array aN)(R:my)(W:lv):List aN->Nat->St->St->Prop
 |[],_,s,s'=>s=s'
 |o::l,j,s,s'=>∃v H',Yields P pf ah o s v H'/\Step P pf ah R W j o s v H'/\yr P pf ah R W l (j+1) (s.put o.dst v H') s'
def KA(pf:bH->Bool)(x y:aN):Bool:=
 rX pf x y||((match ef pf x.op,ef pf y.op with
  |.read,.write=>true
  |.write,.read=>true
  |_,_=>false)||((gC x.op&&gC y.op)||(match ef pf x.op with
  |.write=>pD x.op&&gC y.op
  |_=>false)))
theorem ab5(hi:ah[i]?=some x)(d:ah[j]?=some y)(g:i<j)(q:waits ah ah.size j i=false)(A:gC x.op=true)(B:gC y.op=true):Kv ah=true:=by
 unfold Kv;refine qo.2 ⟨j,qp.2 (fS.1 d).1,qo.2 ⟨i,qp.2 g,?_⟩⟩;rw[hi,d];simp[A,B,q]
theorem ab6(hi:ah[i]?=some x)(d:ah[j]?=some y)(g:i<j)(q:waits ah ah.size j i=false)(A:pD x.op=true)(B:gC y.op=true):tR ah=true:=by
 unfold tR;refine qo.2 ⟨j,qp.2 (fS.1 d).1,qo.2 ⟨i,qp.2 g,?_⟩⟩;rw[hi,d];simp[A,B,q]
def yt(pf:bH->Bool)(ah:Array aN):Bool:=
  atB ah &&
  (jh ah.size).all fun j=>(match ah[j]? with
    |some d=>(d.after.toList.all fun e => !Pb .any e||e.on<j) &&
      ((jh j).all fun i=>match ah[i]? with
        |some g=>waits ah ah.size j i||(g.apart ah d&&d.apart ah g&&KA pf g d)
        |none=>true)
    |none=>true)
def yu(ah:Array aN)(R:my)(W:lv):Prop:=(∀i id,(i,id)∈R->∀e∈W,(i<e.1->waits ah ah.size e.1 i=false->id∉e.2.1/\id<e.2.2)/\(e.1<i->waits ah ah.size i e.1=false->id∉e.2.1/\id<e.2.2)) /\
 ∀e∈W,∀d∈W,e.1<d.1->waits ah ah.size d.1 e.1=false->∀id∈d.2.1,id∉e.2.1/\id<e.2.2
theorem ab7(F:yu ah R W)(hi:ah[i]?=some x)(d:ah[j]?=some y)(g:i<j)(A:waits ah ah.size j i=false)(hc:KA pf x y=true):Kw pf ah R W i x j y:=by
 unfold KA at hc;simp only[lQ]at hc;rcases hc with hc|hc|hc|hc
 ·exact .inl hc
 ·split at hc
  ·rename_i B I
   refine .inr (.inl ⟨B,I,fun id q e he d=>?_⟩);subst d;exact(F.1 i id q e he).1 g A
  ·rename_i B I
   refine .inr (.inr (.inl ⟨B,I,fun id q e he d=>?_⟩));subst d;exact(F.1 j id q e he).2 g A
  ·cases hc
 ·simp only[aR]at hc
  refine .inr (.inr (.inr (.inl ⟨hc.1,hc.2,?_⟩)));unfold vP;rw[ab5 hi d g A hc.1 hc.2];rfl
 ·split at hc
  ·rename_i B
   simp only[aR]at hc;refine .inr (.inr (.inr (.inr ⟨B,hc.1,hc.2,ab6 hi d g A hc.1 hc.2,fun e he J id q O M N=>?_⟩)));subst J N;exact F.2 O M e he g A id q
  ·cases hc
theorem QQ{R:my}{W:lv}{s':St}(hB:yt pf ah=true)(hF:yu ah R W):∀(l:List aN) (k:Nat) (d:Array Bool) (s:St),l=ah.toList.drop k->vL ah d->d.size=ah.size ->
  (∀j,j<ah.size->(d.getD j true=false↔k<=j))->yr P pf ah R W l k s s'->Bm P pf ah R W s' l.length d s
 |[],k,d,s,J,_,O,A,h=>by
  simp only[yr]at h;refine⟨?_,h⟩;apply atD.2;intro j B;obtain⟨g,o,ho,_⟩:=mem_ready.1 B;have I:j<ah.size:=(fS.1 ho).1;have:=(A j I).1 g;have hlen:(ah.toList.drop k).length=0:=by rw[<-J]; rfl
  simp at hlen;omega
 |o::l,k,d,s,J,U,O,A,h=>by
  obtain⟨v,H',hy,hst,hrest⟩:=h;have g:ah[k]?=some o:=by
   have:(ah.toList.drop k)[0]?=some o:=by rw[<-J]; rfl
   simpa using this
  have I:k<ah.size:=(fS.1 g).1;simp only[yt,aR,eX,qp]at hB;obtain⟨_,M⟩:=hB;have hlistedlt:∀j,j<k->d.getD j false=true:=by
   intro j B;have hn:¬ (d.getD j true=false):=fun e=>by have:=(A j ab).1 e; omega
   have:j<d.size:=ab;simp[this]at hn|-;exact hn
  have N:k∈o_ .any ah d:=by
   refine mem_ready.2 ⟨(A k I).2 (bl _),o,g,fun e he hb=>?_⟩;have:=M k I;rw[g]at this;simp only[aR,eX]at this;have q:=this.1 e (by simpa using he);simp only[hb,Pe,jR,dT]at q;exact hlistedlt e.on q
  refine ab4 g l.length d s v H' U ?_ N hy hst ?_
  ·intro j oj B hjk hun Y
   have F:j<ah.size:=(fS.1 B).1;have hkj:k<=j:=(A j F).1 hun;have:=M j F;rw[B]at this;simp only[aR,eX,qp]at this;have q:=this.2 k ab;rw[g]at q;simp only[Y,jR,aR]at q;exact⟨q.1.1,q.1.2,ab7 hF g B ab Y q.2⟩
  ·refine QQ (by simp only[yt,aR,eX,qp]; exact⟨‹_›,M⟩) hF l (k+1) _ _ ?_ (EW U N) (by simpa using O) ?_ hrest
   ·rw[<-xM,<-J]; rfl
   ·intro j F
    by_cases e:k=j
    ·subst e
     have:k<d.size:=ab;simp[this]
    ·rw[getD_set_ne true e,A j F]
     omega
theorem ab8(hm:P.follows .mixedOrders=true)(B:yt pf ah=true)(F:yu ah R W)(hs:bM s E a)
  (h:yr P pf ah R W ah.toList 0 s s') (I:∀d w',hG E s' d w'->Q .normal d w'):∀q:Option Nat,(Code.region id ah true).wpIn (fz q) 0 P Q a E.w:=by
 intro q;have A:bM s { E with w:={ E.w with drawn:=E.w.drawn+1 } } a:=⟨hs.H,gJ (af.jn (Ext.drawn E.w _)) _ hs.fr,x8 hs.heap (af.jn (Ext.drawn E.w _)) hs.defers,hs.heap.ext (Ext.drawn E.w _)⟩
 refine wpIn_region_any hm (EU (pf:=pf) _ _ s { E with w:={ E.w with drawn:=E.w.drawn+1 } } a A ?_ (fun d w' hc=>I d w' (hG.after (af.jn (Ext.drawn E.w _)) hc)) q);have:=Kz _ _ _ (QQ (P:=P) (s':=s') B F ah.toList 0 (pe ah.size false) s ai (by
  intro j g;exfalso;rcases mh j ah.size with h'|h'
  ·simp[h']at g
  ·simp[Pf (xs:=pe ah.size false) (by simpa using h')]at g) ai (by intro j g; simp[g]) h)
 simpa using this
end Go.AL
