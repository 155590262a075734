/-
 What is proved here: every operation that the logic knows,put together,with calls; what an operation leaves. No program in sight; no condition.
-/
import Derived.Test.YtiljbnkkhbennaaGreatDoorMA
set_option linter.all false
open Array renaming ext'→fO,getElem?_eq_some_iff→gV,toList_append→yV,getElem?_eq_none→Kq,setIfInBounds_comm→alY,replicate→pn
open Bool renaming and_eq_true→az,or_eq_true→vp,not_true→yY,false_or→mH
open Classical renaming byContradiction→al0
open Decidable renaming byContradiction→De
open Function renaming comp_def→VQ
open Go.Builtin renaming len_→VP
open Go.Call renaming operands→vo
open Go.Op renaming operands→fF
open Go.Oper renaming wpIn→qM,semAt_eq→pj,apart_spec→Kp
open Go.Region renaming wanted→Kn,binds→Ko,noSelect→alX,ready→lM
open Go.Result renaming andThen_ok→b_
open Go.Sem renaming run_bind→bY,run_pure→fN
open Go.Value.slice renaming injEq→kQ
open List renaming length_cons→cn,getElem?_append_left→cT,getElem?_set_self→bC,getElem?_set_ne→aZ,all_eq_true→dB,drop_drop→qI,map_map→mF,replicate→cd,mem_cons_self→cU,nodup_cons→lL,set_comm→nV,range→dI,map_congr_left→sC,any_eq_true→iQ,eq_nil_iff_forall_not_mem→alZ,mem_range→fG,set_append_left→Ks
open Nat renaming le_refl→aD,lt_of_lt_of_le→dP,lt_or_ge→kg
open Option renaming map_some→eg
open Option.some renaming injEq→aY,inj→gY
namespace Go.AL
open Go
variable [Dr]
def mX(x:Operand):Bool:=x matches .const _
def Eb:AV→AV→Option AV
 |.lit (.int k a),.lit (.int _ b)=>some (.lit (.int k (if b>a then b else a)))
 |_,_=>none
def Ec:AV→AV→Option AV
 |.lit (.int k a),.lit (.int _ b)=>some (.lit (.int k (if b<a then b else a)))
 |_,_=>none
def s9(f:AV→AV→Option AV):AV→List AV→Option AV
 |x,[]=>some x
 | x,y::l=>match f x y with
  |some z=>s9 f z l
  |none=>none
def Xp:List AV→Option AV
 | []=>none
 |x::rest=>s9 Eb x rest
def Xq:List AV→Option AV
 | []=>none
 |x::rest=>s9 Ec x rest
def zO(k:SK)(x:AV):Option AV :=
 match k,x with
 |.str,.lit (.string s)=>some (.int s.size)
 |.slice _ _ _,.lit (.string _)=>none
 | .slice _ _ _,x=>match zn x with
  |some n=>some (.int n)
  |none=>none
 |_,_=>none
def Ed(P:Program)(b:Builtin)(tys:List TypeId)(args:List AV):Option AV :=
 match b with
 | .len=>match tys[0]?,args[0]? with
  |some t,some x=>zO (cg P t) x
  |_,_=>none
 |.max=>Xp args
 |.min=>Xq args
 | .cap=>match tys,args with
  | t::_,.lit (.slice none 0 0)::_=>match cg P t with
   |.slice _ _ _=>some (.int 0)
   |_=>none
  |_,_=>none
 |_=>none
def Ee(r:Operand→AV)(fn:Fn)(first caps:Array Operand):Option AV :=
 match fn with
 |.func f=>if first.toList.isEmpty then some (.clo f (caps.toList.map r)) else none
 |_=>none
def Ef(P:Program)(r:Operand→AV)(c:Call):Option AV :=
 match c.callee with
 |.builtin b=>Ed P b c.argTypes.toList (c.args.toList.map r)
 |_=>none
def iC(P:Program)(r:Operand→AV):Op→Option AV
 |.move x | .assign x=>some (r x)
 | .pick c a b=>match r c with
  |.lit (.bool t)=>some (bif t then r a else r b)
  |_=>none
 | .extract t i=>match r t with
  |.tuple vs=>vs[i]?
  |_=>none
 | .field t x f=>match sL P t f with
  |some k=>DL k (r x)
  |none=>none
 | .fieldAddr t x f=>match sL P t f with
  |some k=>DA k (r x)
  |none=>none
 |.indexAddr t x i=>kn (cg P t) (r x) (r i)
 |.index t x i=>pF (cg P t) (r x) (r i)
 |.binOp op t x y _=>hZ P op t (mX x||mX y) (r x) (r y)
 |.unOp op _ x=>sT op (r x)
 |.convert s d x=>sU P s d (r x)
 |.build t parts=>DN P t (parts.toList.map fun p=>(p.1,r p.2))
 |.buildSlice t n parts=>sZ P t n (parts.toList.map fun p=>(p.1,r p.2))
 |.slice t x lo hi mx=>lS P t (r x) (lo.map r) (hi.map r) (mx.map r)
 |.makeFunc fn first caps=>Ee r fn first caps
 | .nilCheck x=>match r x with
  |.ptr id ae k row col=>some (.ptr id ae k row col)
  |.cptr cells=>some (.cptr cells)
  |.clo f caps=>some (.clo f caps)
  |_=>none
 | .makeInterface t _=>match P.underlying t with
  |some (.interface _)=>none
  |some _=>some .ifc
  |none=>none
 |.call c=>Ef P r c
 |_=>none
theorem rk{E:Env}{r:Operand→AV}{ρ:Operand→Value}(h:∀ x,rel E (r x) (ρ x)):∀(l:List Operand),af E (l.map r) (l.map ρ)
 | []=>by simp[af]
 |x::l=>by simp only[List.map_cons,af]; exact⟨h x,rk h l⟩
theorem Eg{E:Env}{r:Operand→AV}{ρ:Operand→Value}(h:∀ x,rel E (r x) (ρ x))(o:Option Operand):pD E (o.map r) (o.map ρ):=by
 cases o with
 |none=>simp[pD]
 |some x=>simpa[pD]using h x
def gK(E:Env)(v:AV)(u:Value)(w':World):Prop:=Ext E.w w'∧rel { E with w:=w' } v u
theorem gK.same{E:Env}{v:AV}{u:Value}(h:rel E v u):gK E v u E.w:=⟨Ext.refl _,h⟩
theorem kY{P:Program}{s:Sem Value}{w w':World}{u:Value}(h:s.run P w=.ok u w'):(do pure (Next.value (← s)):Sem Next).run P w=.ok (.value u) w':=by
 simp[h]
theorem Eh{P:Program}{E:Env}{f:AV→AV→Option AV}{g:Value→Value→Sem Value}
  (q:∀ x y c d z,f x y=some z→rel E x c→rel E y d→∃ u,(g c d).run P E.w=.ok u E.w∧rel E z u) :
  ∀(rest:List AV) (x:AV) (c:Value) (cs:List Value) (v:AV),rel E x c→af E rest cs→s9 f x rest=some v →
   ∃ u,(cs.foldlM g c).run P E.w=.ok u E.w∧rel E v u
 | [],x,c,cs,v,k,hr,h=>by
  cases cs with
  |nil=>simp[s9]at h; subst h; exact⟨c,rfl,k⟩
  |cons _ _=>simp[af]at hr
 | y::rest,x,c,cs,v,k,hr,h=>by
  cases cs with
  |nil=>simp[af]at hr
  | cons d cs =>
   simp only[af]at hr;simp only[s9]at h;split at h
   ·rename_i z B
    obtain⟨u,g1,g2⟩:=q x y c d z B k hr.1;obtain⟨I,g3,g4⟩:=Eh q rest z u cs v g2 hr.2 h;exact⟨I,by simp only[List.foldlM_cons,bY,g1,b_]; exact g3,g4⟩
   ·cases h
theorem Xr{P:Program}{E:Env}(x y:AV)(c d:Value)(z:AV)(h:Eb x y=some z)(k:rel E x c)(q:rel E y d) :
  ∃ u,(Builtin.max2 c d).run P E.w=.ok u E.w∧rel E z u:=by
 unfold Eb at h;split at h
 ·cases h
  simp only[rel]at k q;subst k; subst q;exact⟨_,rfl,by simp[rel]⟩
 ·cases h
theorem Xs{P:Program}{E:Env}(x y:AV)(c d:Value)(z:AV)(h:Ec x y=some z)(k:rel E x c)(q:rel E y d) :
  ∃ u,(Builtin.min2 c d).run P E.w=.ok u E.w∧rel E z u:=by
 unfold Ec at h;split at h
 ·cases h
  simp only[rel]at k q;subst k; subst q;exact⟨_,rfl,by simp[rel]⟩
 ·cases h
theorem Xt{P:Program}{E:Env}{b:Builtin}{tys:Array TypeId}{ty:TypeId}{consts:Array Bool}{args:List AV}{cargs:Array Value}{v:AV}
  (h:Ed P b tys.toList args=some v) (hr:af E args cargs.toList):∃ u,(builtin b tys ty consts cargs).run P E.w=.ok (.value u) E.w∧rel E v u:=by
 cases b<;>simp only[Ed]at h<;>try cases h
 case len =>
  split at h
  case h_2=>cases h
  rename_i t x J O;obtain⟨c,M,d⟩:=oe hr O;have q:tys[0]? = some t:=by simpa using J
  have B:cargs[0]? = some c:=by simpa using M
  unfold zO at h;split at h
  ·rename_i s hk
   cases h;simp only[rel]at d;subst d;refine⟨goInt s.size,?_,by simp[rel,goInt]⟩;simp[builtin,VP,q,B,Sem.bu (qV hk)]
  ·cases h
  ·rename_i e sz bT hk N
   split at h
   ·rename_i n I
    cases h;obtain⟨hu,_⟩:=hG hk;rcases Wh I d with⟨s,rfl,_⟩|⟨base,cap,rfl⟩
    ·exfalso
     unfold zn at I;split at I
     ·rename_i s'
      exact N s' rfl
     all_goals first
      |(simp[rel,eF]at d; done)
      |cases I
    ·refine ⟨goInt n, ?_, by simp [rel, goInt]⟩
     simp[builtin,VP,q,B,Sem.bu hu]
   ·cases h
  ·cases h
 case max =>
  cases args with
  |nil=>cases h
  | cons x rest =>
   cases k:cargs.toList with
   |nil=>rw[k]at hr; simp[af]at hr
   | cons c cs =>
    rw[k]at hr;simp only[af]at hr;obtain⟨u,g1,g2⟩:=Eh (P:=P) Xr rest x c cs v hr.1 hr.2 h;refine⟨u,?_,g2⟩;simp[builtin,Builtin.max_,k,g1]
 case min =>
  cases args with
  |nil=>cases h
  | cons x rest =>
   cases k:cargs.toList with
   |nil=>rw[k]at hr; simp[af]at hr
   | cons c cs =>
    rw[k]at hr;simp only[af]at hr;obtain⟨u,g1,g2⟩:=Eh (P:=P) Xs rest x c cs v hr.1 hr.2 h;refine⟨u,?_,g2⟩;simp[builtin,Builtin.min_,k,g1]
 case cap =>
  split at h
  case h_2=>cases h
  rename_i t U as J;obtain⟨c,M,d⟩:=oe (i:=0) hr rfl;have q:tys[0]? = some t:=by
   have:tys.toList[0]? = some t:=by rw[J]; rfl
   simpa using this
  have B:cargs[0]? = some c:=by simpa using M
  simp only[rel]at d;subst d;split at h
  ·rename_i e sz bT hk
   cases h;obtain⟨hu,_⟩:=hG hk;refine⟨goInt 0,?_,by simp[rel,goInt]⟩;simp[builtin,Builtin.cap_,q,B,Sem.bu hu]
  ·cases h
theorem Xu{P:Program}{E:Env}(HE:aq E){r:Operand→AV}{ρ:Operand→Value}(hr:∀ x,rel E (r x) (ρ x)){o:Oper}{v:AV}(h:iC P r o.op=some v) :
  ∃ u w',(execOp ρ o).run P E.w=.ok (.value u) w'∧gK E v u w':=by
 obtain⟨dst,op,type,pos,after,guard⟩:=o;have same:∀{s:Sem Value},(∃ u,s.run P E.w=.ok u E.w∧rel E v u)→∃ u w',(do pure (Next.value (← s)):Sem Next).run P E.w=.ok (.value u) w'∧gK E v u w':=by
  rintro s ⟨u,g1,g2⟩;exact⟨u,E.w,kY g1,gK.same g2⟩
 cases op<;>simp only[iC]at h<;>try cases h
 case move x=>exact⟨ρ x,E.w,rfl,gK.same (hr x)⟩
 case assign x=>exact⟨ρ x,E.w,rfl,gK.same (hr x)⟩
 case pick c a b =>
  split at h
  ·rename_i t J
   cases h;have B:=hr c;rw[J]at B;simp only[rel]at B;refine⟨if t then ρ a else ρ b,E.w,?_,?_⟩
   ·simp[execOp,B,asBool]
   ·cases t
    ·exact gK.same (hr b)
    ·exact gK.same (hr a)
  ·cases h
 case build t parts =>
  obtain⟨u,g1,g2⟩:=Ww (E:=E) (cparts:=parts.toList.map fun p=>(p.1,ρ p.2)) h (by simp) (by
   simp only[mF];have:=rk hr (parts.toList.map (·.2));simpa[mF,VQ]using this)
  have e:(parts.toList.map fun p=>(p.1,ρ p.2)).toArray=parts.map fun(i,x)=>(i,ρ x):=by
   apply fO; simp
  rw[e]at g1;exact same ⟨u,g1,g2⟩
 case buildSlice t n parts =>
  obtain⟨u,w',g1,g2,g3⟩:=WO HE (cparts:=parts.toList.map fun p=>(p.1,ρ p.2)) h (by simp) (by
   simp only[mF];have:=rk hr (parts.toList.map (·.2));simpa[mF,VQ]using this)
  have e:(parts.toList.map fun p=>(p.1,ρ p.2)).toArray=parts.map fun(i,x)=>(i,ρ x):=by
   apply fO; simp
  rw[e]at g1;exact⟨u,w',kY g1,g2,g3⟩
 case nilCheck x =>
  have q:=hr x;split at h
  ·rename_i id ae k row col he
   cases h;rw[he]at q;have I:=q;simp only[rel]at I;obtain⟨⟨b,o,B⟩,_⟩:=I;exact⟨ρ x,E.w,by simp[execOp,B],gK.same q⟩
  ·rename_i cells he
   cases h;rw[he]at q;have I:=q;simp only[rel]at I;obtain⟨_,b,o,B,_⟩:=I;exact⟨ρ x,E.w,by simp[execOp,B],gK.same q⟩
  ·rename_i f caps he
   cases h;rw[he]at q;have I:=q;simp only[rel]at I;obtain⟨cs,B,_⟩:=I;exact⟨ρ x,E.w,by simp[execOp,B],gK.same q⟩
  ·cases h
 case binOp op t x y _ =>
  refine same (Wr (x:=x) (y:=y) (fun hk=>?_) h (hr x) (hr y));cases x<;>cases y<;>first|rfl|exact hk
 case unOp op _ x=>exact same (Ws h (hr x))
 case convert s d x=>exact same (Wt h (hr x))
 case makeInterface t x =>
  split at h
  ·cases h
  ·rename_i d M hu
   cases h;refine same ⟨.iface t (ρ x),?_,by simp only[rel]; exact⟨_,_,rfl⟩⟩;simp only[Instr.makeInterface,bY,Sem.bu hu,b_];cases d<;>first|rfl|(exact(M _ hu).elim)|(exact(M _ rfl).elim)
  ·cases h
 case makeFunc fn first caps =>
  cases fn<;>simp only[Ee]at h<;>try cases h
  rename_i f;split at h
  ·rename_i O
   cases h;refine⟨.func (.func f) (first.map ρ) (caps.map ρ),E.w,rfl,gK.same ?_⟩;simp only[rel];refine⟨caps.map ρ,?_,by simpa using rk hr caps.toList⟩;have:first=#[]:=by
    apply fO;simpa using O
   simp[this]
  ·cases h
 case slice t x lo hi mx=>exact same (Wn h (hr x) (Eg hr lo) (Eg hr hi) (Eg hr mx))
 case fieldAddr t x f =>
  split at h
  ·rename_i k hk; exact same (Wj hk h (hr x))
  ·cases h
 case field t x f =>
  split at h
  ·rename_i k hk; exact same (Wv hk h (hr x))
  ·cases h
 case indexAddr t x i=>exact same (Wk HE h (hr x) (hr i))
 case index t x i=>exact same (Wu h (hr x) (hr i))
 case extract t i =>
  split at h
  ·rename_i vs J
   have q:=hr t;rw[J]at q;simp only[rel]at q;obtain⟨cs,B,U⟩:=q;obtain⟨u,g1,g2⟩:=oe U h;refine same ⟨u,?_,g2⟩;have N:cs[i]? = some u:=by simpa using g1
   simp[Instr.extract,B,N]
  ·cases h
 case call c =>
  obtain⟨callee,args,argTypes⟩:=c;cases callee<;>simp only[Ef]at h<;>try cases h
  rename_i b;obtain⟨u,g1,g2⟩:=Xt (P:=P) (E:=E) (b:=b) (tys:=argTypes) (ty:=type) (consts:=args.map fun | .const _=>true|_=>false) (cargs:=args.map ρ) h
   (by simpa using rk hr args.toList)
  exact⟨u,E.w,by simp only[execOp,resolve,bY,fN,b_,invoke]; exact g1,gK.same g2⟩
def zP(P:Program)(r:Operand→AV)(H:List ad)(c:Call):Option (AV × List ad) :=
 match c.callee with
 | .builtin .append=>match c.args.toList,c.argTypes.toList with
  | [s,x],[t,xt]=>match ra P t xt (r s) (r x) H with
   |some y=>some y
   |none=>sV P t xt (r s) (r x) H
  |_,_=>none
 | .builtin .clear=>match c.args.toList,c.argTypes.toList with
  | [x],[t]=>match vM P t (r x) H with
   |some H'=>some (.tuple [],H')
   |none=>none
  |_,_=>none
 | .builtin .delete=>match c.args.toList,c.argTypes.toList with
  | [x,k],t::_=>match vL P t (r x) (r k) H with
   |some H'=>some (.tuple [],H')
   |none=>none
  |_,_=>none
 |_=>none
def dt(P:Program)(r:Operand→AV)(H:List ad):Op→Option (AV × List ad)
 |.alloc t=>qY P t H
 |.box _ x=>zG (r x) H
 | .store t a x=>match sX P t (r a) (r x) H with
  |some H'=>some (.undef,H')
  |none=>none
 |.makeSlice t l c=>vH P t (r l) (r c) H
 |.buildSlice t n parts=>vN P t n (parts.toList.map fun p=>(p.1,r p.2)) H
 |.range t x=>zI P t (r x) H
 |.next it isString=>zJ (r it) isString H
 |.makeMap _ none=>some (.map H.length,H++[.map [] 0])
 | .mapUpdate t m k v=>match mW P t (r m) (r k) (r v) H with
  |some H'=>some (.undef,H')
  | none=>match rb P t (r m) (r k) (r v) H with
   |some H'=>some (.undef,H')
   | none=>match vR P t (r m) (r k) (r v) H with
    |some H'=>some (.undef,H')
    |none=>none
 | .insert t m k v=>match mW P t (r m) (r k) (r v) H with
  |some H'=>some (.undef,H')
  |none=>none
 | .lookup t m k false=>match gu P t (r m) (r k) false H with
  |some v=>some (v,H)
  |none=>vP P t (r m) (r k) H
 | .mapEntry t m k=>match iW P t (r m) (r k) H with
  |some y=>some y
  |none=>jS P t (r m) (r k) H
 | .entryStore _ m s x=>match kX (r m) (r s) (r x) H with
  |some H'=>some (.undef,H')
  | none=>match lW (r m) (r s) (r x) H with
   |some H'=>some (.undef,H')
   |none=>none
 |.call c=>zP P r H c
 |_=>none
theorem cZ.of_le{E:Env}{w':World}{H':List ad}(h1:aq { w:=w',H:=H',loc:=E.loc,X:=E.X })(d:E.le { w:=w',H:=H',loc:=E.loc,X:=E.X })(u:Value) :
  cZ E .undef H' u w':=⟨E.loc,E.X.r,by simp[rel],h1,d⟩
theorem gK.toOp{E:Env}(HE:aq E){v:AV}{u:Value}{w':World}(h:gK E v u w'):cZ E v E.H u w' :=
 ⟨E.loc,E.X.r,h.2,HE.ext h.1,Env.jQ h.1⟩
theorem Xv{P:Program}{E:Env}(HE:aq E){r:Operand→AV}{ρ:Operand→Value}(hr:∀ x,rel E (r x) (ρ x)){o:Oper}{v:AV}{H':List ad}
  (h:dt P r E.H o.op=some (v,H')) :
  ∃ n u w',(execOp ρ o).run P E.w=.ok n w'∧(n=.value u∨n=.skip∧u=undef)∧cZ E v H' u w':=by
 obtain⟨dst,op,type,pos,after,guard⟩:=o;have same:∀{s:Sem Value},(∃ u w',s.run P E.w=.ok u w'∧cZ E v H' u w') →
   ∃ n u w',(do pure (Next.value (← s)):Sem Next).run P E.w=.ok n w'∧(n=.value u∨n=.skip∧u=undef)∧cZ E v H' u w':=by
  rintro s ⟨u,w',g1,g2⟩;exact⟨_,u,w',kY g1,.inl rfl,g2⟩
 cases op<;>simp only[dt]at h<;>try cases h
 case alloc t=>exact same (WG HE h)
 case box t x=>exact same (WL HE h (hr x))
 case store t a x =>
  split at h
  ·rename_i H1 d
   cases h;obtain⟨w',g1,g2,g3⟩:=Lc HE d (hr a) (hr x);exact⟨.skip,undef,w',by simp[execOp,g1],.inr ⟨rfl,rfl⟩,cZ.of_le g2 g3 _⟩
  ·cases h
 case makeSlice t l c=>exact same (WN HE h (hr l) (hr c))
 case buildSlice t n parts =>
  obtain⟨u,w',g1,g2⟩:=W2 HE (cparts:=parts.toList.map fun p=>(p.1,ρ p.2)) h (by simp) (by
   simp only[mF];have:=rk hr (parts.toList.map (·.2));simpa[mF,VQ]using this)
  have e:(parts.toList.map fun p=>(p.1,ρ p.2)).toArray=parts.map fun(i,x)=>(i,ρ x):=by
   apply fO; simp
  rw[e]at g1;exact same ⟨u,w',g1,g2⟩
 case range t x=>exact same (WR HE h (hr x))
 case next it isString=>exact same (WS HE h (hr it))
 case makeMap t res =>
  cases res with
  |some _=>cases h
  | none =>
   cases h;exact same ⟨_,_,by simp[Instr.makeMap,newObj]; rfl,WU HE⟩
 case mapUpdate t m k x =>
  split at h
  ·rename_i H1 d
   cases h;obtain⟨w',g1,g2,g3⟩:=Lu HE d (hr m) (hr k) (hr x);exact⟨.skip,undef,w',by simp[execOp,g1],.inr ⟨rfl,rfl⟩,cZ.of_le g2 g3 _⟩
  ·split at h
   ·rename_i H1 d
    cases h;obtain⟨w',g1,g2⟩:=W8 HE d (hr m) (hr k) (hr x);exact⟨.skip,undef,w',by simp[execOp,g1],.inr ⟨rfl,rfl⟩,g2 _⟩
   ·split at h
    ·rename_i H1 d
     cases h;obtain⟨w',g1,g2,g3⟩:=Xl HE d (hr m) (hr k) (hr x);exact⟨.skip,undef,w',by simp[execOp,g1],.inr ⟨rfl,rfl⟩,cZ.of_le g2 g3 _⟩
    ·cases h
 case lookup t m k ok =>
  cases ok with
  |true=>cases h
  | false =>
   simp only[]at h;split at h
   ·rename_i v1 U
    cases h;obtain⟨u,g1,g2⟩:=Lp HE U (hr m) (hr k);exact same ⟨u,_,g1,gK.toOp HE ⟨Ext.refl _,g2⟩⟩
   ·exact same (W7 HE h (hr m) (hr k))
 case mapEntry t m k =>
  split at h
  ·rename_i y B
   cases h;exact same (Xc HE B (hr m) (hr k))
  ·exact same (Xm HE h (hr m) (hr k))
 case entryStore t m s x =>
  split at h
  ·rename_i H1 d
   cases h;obtain⟨w',g1,g2⟩:=Xe (P:=P) (t:=t) HE d (hr m) (hr s) (hr x);exact⟨.skip,undef,w',by simp[execOp,g1],.inr ⟨rfl,rfl⟩,g2 _⟩
  ·split at h
   ·rename_i H1 d
    cases h;obtain⟨w',g1,g2⟩:=Xo (P:=P) (t:=t) HE d (hr m) (hr s) (hr x);exact⟨.skip,undef,w',by simp[execOp,g1],.inr ⟨rfl,rfl⟩,g2 _⟩
   ·cases h
 case insert t m k x =>
  split at h
  ·rename_i H1 d
   cases h;obtain⟨w',g1,g2,g3⟩:=Lu HE d (hr m) (hr k) (hr x);exact⟨.skip,undef,w',by simp[execOp,g1],.inr ⟨rfl,rfl⟩,cZ.of_le g2 g3 _⟩
  ·cases h
 case call c =>
  obtain⟨callee,args,argTypes⟩:=c;unfold zP at h;split at h
  ·rename_i q
   simp only[]at q;subst q;simp only[]at h;split at h
   case h_2=>cases h
   rename_i s x t xt J M;have I:args=#[s,x]:=by apply fO; simpa using J
   have N:argTypes=#[t,xt]:=by apply fO; simpa using M
   subst I;subst N;split at h
   ·rename_i y B
    cases h;obtain⟨u,w',g1,g2⟩:=W1 (P:=P) (ty:=type) HE B (hr s) (hr x);refine⟨.value u,u,w',?_,.inl rfl,g2⟩;simp[execOp,resolve,invoke,builtin,g1]
   ·obtain ⟨u, w', g1, g2⟩ := WC (P := P) (ty := type) HE h (hr s) (hr x)
    refine⟨.value u,u,w',?_,.inl rfl,g2⟩;simp[execOp,resolve,invoke,builtin,g1]
  ·rename_i q
   simp only[]at q;subst q;simp only[]at h;split at h
   case h_2=>cases h
   rename_i x t J M;have I:args=#[x]:=by apply fO; simpa using J
   have N:argTypes=#[t]:=by apply fO; simpa using M
   subst I;subst N;split at h
   ·rename_i H1 B
    cases h;obtain⟨w',g1,g2,g3⟩:=WZ (P:=P) (ty:=type) (tys:=#[t]) (cs:=#[ρ x]) HE B rfl rfl (hr x);refine⟨.value (.tuple #[]),.tuple #[],w',?_,.inl rfl,E.loc,E.X.r,by simp[rel,af],g2,g3⟩;simp[execOp,resolve,invoke,builtin,g1]
   ·cases h
  ·rename_i q
   simp only[]at q;subst q;simp only[]at h;split at h
   case h_2=>cases h
   rename_i x k t V J M;have I:args=#[x,k]:=by apply fO; simpa using J
   subst I;split at h
   ·rename_i H1 B
    cases h;have O:argTypes[0]? = some t:=by
     have:argTypes.toList[0]? = some t:=by rw[M]; rfl
     simpa using this
    obtain⟨w',g1,g2,g3⟩:=WX (P:=P) (ty:=type) (tys:=argTypes) (cs:=#[ρ x,ρ k]) HE B O rfl rfl (hr x) (hr k);refine⟨.value (.tuple #[]),.tuple #[],w',?_,.inl rfl,E.loc,E.X.r,by simp[rel,af],g2,g3⟩;simp[execOp,resolve,invoke,builtin,g1]
   ·cases h
  ·cases h
def vS(P:Program)(f:FuncId)(args:List AV)(H:List ad)(Q:AV→List ad→Prop):Prop :=
 ∀(E:Env) (cargs:Array Value),E.H=H→aq E→af E args cargs.toList →
  Calls P f cargs E.w fun e w'=>∃ c v H',e=.returned c∧Q v H'∧cZ E v H' c w'
def cV(P:Program)(f:FuncId)(args:List AV)(v:AV):Prop:=∀ H,vS P f args H fun d H'=>d=v∧H'=H
theorem vS.mono{P:Program}{f:FuncId}{args:List AV}{H:List ad}{Q d:AV→List ad→Prop}(h:vS P f args H Q)(k:∀ v H',Q v H'→d v H'):vS P f args H d :=
 fun E cargs h1 B I=>(h E cargs h1 B I).mono fun _ _ ⟨c,v,H',e,q,r⟩=>⟨c,v,H',e,k v H' q,r⟩
def fw(P:Program)(f:FuncId):Bool :=
 match P.funcs[f]? with
 |some fn => !(fn.name == "runtime.NumGoroutine")&&fn.body.isSome
 |none=>false
theorem Ei{P:Program}{f:FuncId}(h:fw P f=true)(args:Array Value)(w:World):(callFunc f args).run P w=.ok (.enter f args) w:=by
 unfold fw at h;split at h
 ·rename_i fn d
  simp only[az,Bool.not_eq_true']at h;have h1:fn.name ≠ "runtime.NumGoroutine" := by simpa using h.1
  have k:fn.body≠none:=fun e=>by rw[e]at h; simp at h
  simp[callFunc,d,h1,k]
 ·cases h
def Ej(r:Operand→AV)(c:Call):Option (FuncId × List AV) :=
 match c.callee with
 | .value g=>match r g with
  |.clo f caps=>some (f,c.args.toList.map r++caps)
  |_=>none
 |_=>none
def iX(r:Operand→AV):Op→Option (FuncId × List AV)
 |.call c=>Ej r c
 |_=>none
theorem LL{P:Program}{E:Env}{r:Operand→AV}{ρ:Operand→Value}(hr:∀ x,rel E (r x) (ρ x)){o:Oper}{f:FuncId}{args:List AV}
  (h:iX r o.op=some (f,args)) (hb:fw P f=true):∃ cargs:Array Value,(execOp ρ o).run P E.w=.ok (.enter f cargs) E.w∧af E args cargs.toList:=by
 obtain⟨dst,op,type,pos,after,guard⟩:=o;cases op<;>simp only[iX]at h<;>try cases h
 rename_i c;obtain⟨callee,as,argTypes⟩:=c;cases callee<;>simp only[Ej]at h<;>try cases h
 rename_i g;split at h
 case h_2=>cases h
 rename_i B caps hg;cases h;have d:=hr g;rw[hg]at d;simp only[rel]at d;obtain⟨cs,k,q⟩:=d;refine⟨as.map ρ++cs,?_,?_⟩
 ·simp[execOp,resolve,k,Deferred.ofValue,invoke,Ei hb]
 ·simp only [yV, Array.toList_map]
  exact kW (rk hr as.toList) q
end Go.AL

namespace Go.AL
open Go
variable [Dr]
inductive Xw where
 |pure|read|write
 deriving DecidableEq
def Xx(pf:FuncId→Bool)(c:Call):Bool :=
 match c.argTypes.toList with
 | [t]=>pf (t+1000000)
 |_=>false
def cW(pf:FuncId→Bool):Op→Xw
 |.load ..=>.read
 |.lookup t _ _ _=>if pf (t+1500000) then .write else .read
 |.buildSlice t n _=>if pf (t+100000*n+2000000) then .write else .pure
 |.alloc .. | .box .. | .store .. | .makeSlice .. | .mapUpdate .. | .insert .. | .makeMap .. | .mapEntry .. | .entryStore .. | .range .. | .next .. | .entry ..=>.write
 |.go .. | .defer .. | .panic .. | .send .. | .recv .. | .select .. | .makeChan .. | .ready .. | .waits ..=>.write
 | .call c=>match c.callee with
  | .builtin .len=>match Xx pf c with
   |true=>.read
   |false=>.pure
  |.builtin .max | .builtin .min | .builtin .cap=>.pure
  |.value (.func f)=>if pf f then .pure else .write
  |_=>.write
 |_=>.pure
def pI(P:Program)(r:Operand→AV)(H:List ad)(c:Call):Option AV :=
 match c.callee,c.args.toList,c.argTypes.toList with
 | .builtin .len,[a],[t]=>match dx P t,r a with
  | some _,.map id=>match H[id]? with
   |some (.map es _)=>some (.int es.length)
   |_=>none
  |_,_=>none
 |_,_,_=>none
theorem Xy{P:Program}{E:Env}(HE:aq E){r:Operand→AV}{ρ:Operand→Value}(hr:∀ x,rel E (r x) (ρ x)){o:Oper}{c:Call}{v:AV}(ho:o.op=.call c)(h:pI P r E.H c=some v) :
  ∃ u,(execOp ρ o).run P E.w=.ok (.value u) E.w∧rel E v u:=by
 obtain⟨dst,op,type,pos,after,guard⟩:=o;subst ho;obtain⟨callee,args,argTypes⟩:=c;unfold pI at h;split at h
 case h_2=>cases h
 rename_i a t k d q;simp only[]at k d q;subst k;have I:args=#[a]:=by apply fO; simpa using d
 have J:argTypes=#[t]:=by apply fO; simpa using q
 subst I;subst J;split at h
 case h_2=>cases h
 rename_i p id M hid;split at h
 case h_2=>cases h
 rename_i es cl hH;cases h;have B:=hr a;rw[hid]at B;obtain⟨b,n,ms,N,h1,O,U⟩:=qZ HE hH B;obtain⟨kt,et⟩:=p;have V:=(eG.1 U).1;have W:(getObj b).run P E.w=.ok (.map ms cl) E.w:=by simp[getObj,Sem.run,O]
 refine⟨goInt ms.size,?_,by simp[rel,goInt,V]⟩;simp only[execOp,resolve,bY,fN,b_,invoke];simp[builtin,VP,Sem.bu (fR M),N,W]
def fi(P:Program)(r:Operand→AV)(H:List ad):Op→Option AV
 |.load t a=>g_ P t (r a) H
 | .lookup t m k ok=>match gu P t (r m) (r k) ok H with
  |some v=>some v
  |none=>kr P t (r m) (r k) ok H
 |.call c=>pI P r H c
 |_=>none
theorem Xz{P:Program}{E:Env}(HE:aq E){r:Operand→AV}{ρ:Operand→Value}(hr:∀ x,rel E (r x) (ρ x)){o:Oper}{v:AV}(h:fi P r E.H o.op=some v) :
  ∃ u,(execOp ρ o).run P E.w=.ok (.value u) E.w∧rel E v u:=by
 obtain⟨dst,op,type,pos,after,guard⟩:=o;cases op<;>simp only[fi]at h<;>try cases h
 case load t a =>
  obtain⟨u,g1,g2⟩:=KO HE h (hr a);exact⟨u,kY g1,g2⟩
 case lookup t m k ok =>
  split at h
  ·rename_i v1 h1
   cases h;obtain⟨u,g1,g2⟩:=Lp HE h1 (hr m) (hr k);exact⟨u,kY g1,g2⟩
  ·obtain ⟨u, g1, g2⟩ := Xj HE h (hr m) (hr k)
   exact⟨u,kY g1,g2⟩
 case call c=>exact Xy HE hr rfl h
def dC(P:Program)(f:FuncId)(args:List AV)(H:List ad)(v:AV)(H':List ad):Prop:=vS P f args H fun v1 H1=>v1=v∧H1=H'
def bR(ops:Array Oper)(fr:List AV)(o:Oper):Option Bool :=
 match o.guard with
 |none=>some true
 | some (j,want)=>match (ops[j]?).bind (·.dst) with
  | some t=>match fr[t]? with
   |some (.lit (.bool b))=>some (b==want)
   |some (.tuple [])=>some false
   |_=>none
  |none=>none
def XA(H:List ad)(v v1:AV)(H1:List ad):Prop :=
 ∃(id ae:Nat) (ks:List Kd) (rows:List (List G)),v=.vec ks.length id ae 0 rows.length∧H[id]? = some (.vec ks.length ae (rows.map (aH ks)))∧v1=.listF ks rows∧H1=H.set id .dead
theorem LM{E:Env}(HE:aq E){id ae:Nat}{ks:List Kd}{rows:List (List G)} (hid:E.H[id]? = some (.vec ks.length ae (rows.map (aH ks)))) {c:Value} (hr:rel E (.vec ks.length id ae 0 rows.length) c) :
  rel { w:=E.w,H:=E.H.set id .dead,loc:=E.loc.set id none,X:=E.X } (.listF ks rows) c:=by
 have hle:=Env.sK HE id;have ho:=HE.obj id _ hid;rw[jx];simp only[rel]at hr⊢;obtain⟨⟨base,cap,rfl,J,_⟩,_,q⟩:=hr;obtain⟨U,M⟩:=q ⟨_,hid,rfl⟩;have B:ft (rows.map (aH ks)):=by
  intro r hr;obtain⟨g,_,rfl⟩:=List.mem_map.1 hr;exact gb ks g
 refine⟨B,base,cap,by simp,by simpa using J,?_⟩;simp only[aN]at ho;rcases ho with⟨h1,I⟩|⟨b,mm,h1,I,q,_,N⟩
 ·exact .inl I
 ·obtain ⟨g1, o, g2, g3⟩ := M b mm h1
  by_cases hm:rows=[]
  ·subst hm; exact .inl rfl
  ·right
   have:0<rows.length:=by cases rows with|nil=>exact(hm rfl).elim|cons _ _=>simp
   simp at q;have ho:=g2 (by omega);simp at ho;subst ho;simp only[kQ]at g3;refine⟨b,0,g3.1,⟨(HE.lt id b mm h1).1,?_,(HE.lt id b mm h1).2⟩,lQ hle.toC _ B rfl N⟩;rintro(⟨j,O,d⟩|⟨l,k,O,d⟩)
   case inr=>exact HE.cY _ _ _ _ _ _ h1 d
   simp only[List.getElem?_set]at d;split at d
   ·split at d<;>cases d
   ·rename_i aA
    exact aA (HE.inj _ _ _ _ _ h1 d)
def s_(P:Program)(r:Operand→AV)(H:List ad)(v:AV)(H':List ad):Op→Prop
 |.store t a x=>∃ v1 H1,XA H (r x) v1 H1∧sX P t (r a) v1 H1=some H'∧v=.undef
 |_=>False
theorem XB{P:Program}{r r':Operand→AV}{H:List ad}{v:AV}{H':List ad}(o:Op)(h:∀ x∈o.operands,r x=r' x):s_ P r H v H' o=s_ P r' H v H' o:=by
 cases o<;>try rfl
 rename_i t a x;simp only[s_];rw[h a (by simp[fF]),h x (by simp[fF])]
theorem XC{P:Program}{E:Env}(HE:aq E){r:Operand→AV}{ρ:Operand→Value}(hr:∀ x,rel E (r x) (ρ x)){o:Oper}{v:AV}{H':List ad}(h:s_ P r E.H v H' o.op) :
  ∃ w',(execOp ρ o).run P E.w=.ok .skip w'∧cZ E v H' undef w':=by
 obtain⟨dst,op,type,pos,after,guard⟩:=o;cases op<;>try exact h.elim
 rename_i t a x;obtain⟨v1,H1,⟨id,ae,ks,rows,h1,d,rfl,rfl⟩,q,rfl⟩:=h;have k:=hr x;rw[h1]at k;have hle:=Env.sK HE id;obtain⟨w',g1,g2,g3⟩:=Lc (E:={ w:=E.w,H:=E.H.set id .dead,loc:=E.loc.set id none,X:=E.X }) (aq.drop HE id fun o ho=>by rw[d]at ho; cases ho; rfl) q (bI hle _ (hr a)) (LM HE d k);have g1:(Instr.storeAt t (ρ a) (ρ x)).run P E.w=.ok () w':=g1;exact⟨w',by simp[execOp,g1],E.loc.set id none,E.X.r,by simp[rel],g2,hle.trans g3⟩
def Yields(P:Program)(pf:FuncId→Bool)(ops:Array Oper)(o:Oper)(s:St)(v:AV)(H':List ad):Prop :=
 match bR ops s.fr o with
 |none=>False
 |some false=>v=.tuple []∧H'=s.H
 | some true=>match cW pf o.op with
  |.pure=>H'=s.H∧(iC P s.eval o.op=some v∨∃ f args,iX s.eval o.op=some (f,args)∧fw P f=true∧cV P f args v)
  |.read=>H'=s.H∧fi P s.eval s.H o.op=some v
  |.write=>(dt P s.eval s.H o.op=some (v,H')∨∃ f args,iX s.eval o.op=some (f,args)∧fw P f=true∧dC P f args s.H v H')∨(((∃ t id m,o.op=.alloc t∧pG P t id m s.H=some (v,H'))∨∃ t id,o.op=.makeMap t none∧q_ id s.H=some (v,H'))∨s_ P s.eval s.H v H' o.op)
def jT(fr:List AV)(dst:Option Tmp)(v:AV):List AV :=
 match dst with
 |some d=>fr.set d v
 |none=>fr
def St.put(s:St)(dst:Option Tmp)(v:AV)(H':List ad):St:=⟨jT s.fr dst v,H'⟩
theorem zQ{E:Env}:∀{as:List AV} {vs:List Value} {a:AV} {v:Value} (d:Nat),af E as vs→rel E a v→af E (as.set d a) (vs.set d v)
 | [],[],_,_,_,_,_=>by simp[af]
 | [],_::_,_,_,_,h,_=>by simp[af]at h
 |_::_,[],_,_,_,h,_=>by simp[af]at h
 |_::as,_::vs,a,v,0,h,k=>by simp only[af]at h; simp only[List.set_cons_zero,af]; exact⟨k,h.2⟩
 |_::as,_::vs,a,v,d+1,h,k=>by simp only[af]at h; simp only[List.set_cons_succ,af]; exact⟨h.1,zQ d h.2 k⟩
theorem LN{E E':Env}{s:St}{a:Act}(h:af E s.fr a.tmps.toList)(hle:E.le E')(dst:Option Tmp){v:AV}{u:Value}(k:rel E' v u) :
  af E' (jT s.fr dst v) (a.put dst u).tmps.toList:=by
 have h':=dK hle _ h;cases dst with
 |none=>exact h'
 | some d =>
  simp only[jT,Act.put,Array.toList_setIfInBounds];exact zQ d h' k
def fz(r:Option Nat):Fence:={ Fence.wide with round:=r }
theorem LO{r:Option Nat}{n:Nat}{P:Program}{f:FuncId}{args:Array Value}{w:World}{R:Ending→World→Prop}(h:Calls P f args w R):CallsIn (fz r) n P f args w R:=(callsIn_wide (n:=n)).2 h
theorem put_defers(a:Act)(dst:Option Tmp)(v:Value):(a.put dst v).defers=a.defers:=by cases dst<;>rfl
theorem LP{ops:Array Oper}{s:St}{E:Env}{a:Act}(h:bQ s E a){o:Oper}{b:Bool}(hw:bR ops s.fr o=some b) :
  Kn o (yielded ops a.tmps)=b:=by
 unfold bR at hw;unfold Kn;cases hg:o.guard with
 |none=>rw[hg]at hw; simpa using hw
 | some q =>
  obtain⟨j,want⟩:=q;rw[hg]at hw;simp only[]at hw⊢;split at hw
  case h_2=>cases hw
  rename_i t k;split at hw
  ·rename_i B hb
   cases hw;obtain⟨u,g1,g2⟩:=oe h.fr hb;simp only[rel]at g2;subst g2;have d:a.tmps[t]? = some (.bool B):=by simpa using g1
   simp[yielded,k,d]
  ·rename_i hb
   cases hw;obtain⟨u,g1,g2⟩:=oe h.fr hb;simp only[rel]at g2;obtain⟨cs,rfl,_⟩:=g2;have d:a.tmps[t]? = some (.tuple cs):=by simpa using g1
   simp[yielded,k,d]
  ·cases hw
def fx(E:Env)(s':St)(k:Act)(w':World):Prop :=
 ∃ d r',bQ s' { w:=w',H:=s'.H,loc:=d,X:=E.X.re r' } k∧E.le { w:=w',H:=s'.H,loc:=d,X:=E.X.re r' }
theorem Ek{P:Program}{pf:FuncId→Bool}{ops:Array Oper}{s:St}{E:Env}{a:Act}(k:bQ s E a){i:Nat}{o:Oper}(hi:ops[i]? = some o){v:AV}{H':List ad}
  (d:Yields P pf ops o s v H') {K:Act→World→Prop} {Q:Exit→Act→World→Prop} (V:∀ O w',fx E (s.put o.dst v H') O w'→K O w') (ro:Option Nat):wpOpIn (fz ro) 0 P ops Q i K a E.w:=by
 have I:=k.eval;have hH:=k.H;have fin:∀{u:Value} {w':World},cZ E v H' u w'→K (a.put o.dst u) w':=by
  rintro u w' ⟨U,r',h1,J,B⟩;exact V _ _ ⟨U,r',⟨rfl,LN k.fr B o.dst h1,by rw[put_defers]; exact zm k.heap B k.defers,J⟩,B⟩
 have pure':H'=s.H→∀{u:Value} {w':World},gK E v u w'→cZ E v H' u w':=by
  intro e u w' M;have:=M.toOp k.heap;rw[hH,←e]at this;exact this
 have N:(fz ro).depth.isSome=true→1≤0:=fun h=>by cases h
 unfold wpOpIn;simp only[hi];unfold Yields at d;split at d
 ·cases d
 ·rename_i hw
  rw[LP k hw];simp only[Bool.false_eq_true,if_false];obtain⟨rfl,e⟩:=d;refine⟨fun _ _=>trivial,fin ?_⟩;rw[e,←hH];exact⟨E.loc,E.X.r,by simp only[rel]; exact⟨#[],rfl,by simp[af]⟩,k.heap,Env.le.refl E⟩
 ·rename_i hw
  rw[LP k hw];simp only[if_true];split at d
  ·obtain ⟨e, d⟩ := d
   rcases d with d|⟨f,args,h1,J,B⟩
   ·have q : ∀ c, o.op ≠ .defer c := fun c e => by rw [e] at d; cases d
    obtain⟨u,w',g1,g2⟩:=Xu k.heap I d;unfold qM;rw[pj _ _ _ q,g1];exact⟨fun _ _=>trivial,fin (pure' e g2)⟩
   ·have q : ∀ c, o.op ≠ .defer c := fun c e => by rw [e] at h1; cases h1
    obtain⟨cargs,g1,g2⟩:=LL I h1 J;unfold qM;rw[pj _ _ _ q,g1];refine⟨fun _ _=>trivial,N,LO ((B s.H E cargs hH k.heap g2).mono ?_)⟩;rintro _ w' ⟨c,W,H1,rfl,⟨rfl,rfl⟩,M⟩;exact fin (by rw[e]; exact M)
  ·obtain ⟨e, d⟩ := d
   rw[←hH]at d;have q:∀ c,o.op≠.defer c:=fun c e=>by rw[e]at d; cases d
   obtain⟨u,g1,g2⟩:=Xz k.heap I d;unfold qM;rw[pj _ _ _ q,g1];exact⟨fun _ _=>trivial,fin (pure' e (gK.same g2))⟩
  ·rcases d with (d | ⟨f, args, h1, J, B⟩) | (⟨t, id, m, ho, d⟩ | ⟨t, id, ho, d⟩) | d
   ·have q : ∀ c, o.op ≠ .defer c := fun c e => by rw [e] at d; cases d
    rw[←hH]at d;obtain⟨n,u,w',g1,g2,g3⟩:=Xv k.heap I d;unfold qM;rw[pj _ _ _ q,g1];rcases g2 with rfl|⟨rfl,rfl⟩
    ·exact⟨fun _ _=>trivial,fin g3⟩
    ·exact⟨fun _ _=>trivial,fin g3⟩
   ·have q : ∀ c, o.op ≠ .defer c := fun c e => by rw [e] at h1; cases h1
    obtain⟨cargs,g1,g2⟩:=LL I h1 J;unfold qM;rw[pj _ _ _ q,g1];refine⟨fun _ _=>trivial,N,LO ((B E cargs hH k.heap g2).mono ?_)⟩;rintro _ w' ⟨c,W,H1,rfl,⟨rfl,rfl⟩,M⟩;exact fin M
   ·rw [← hH] at d
    obtain⟨u,w',g1,g2⟩:=WK k.heap d;unfold qM;obtain⟨dst,op,type,pos,after,guard⟩:=o;simp only[]at ho;subst ho;have g3:(execOp a.eval ⟨dst,.alloc t,type,pos,after,guard⟩).run P E.w=.ok (.value u) w':=kY g1;rw[pj _ _ _ (fun c e=>by cases e),g3];exact⟨fun _ _=>trivial,fin g2⟩
   ·rw [← hH] at d
    obtain⟨u,w',g1,g2⟩:=WW (P:=P) (t:=t) k.heap d;unfold qM;obtain⟨dst,op,type,pos,after,guard⟩:=o;simp only[]at ho;subst ho;have g3:(execOp a.eval ⟨dst,.makeMap t none,type,pos,after,guard⟩).run P E.w=.ok (.value u) w':=kY g1;rw[pj _ _ _ (fun c e=>by cases e),g3];exact⟨fun _ _=>trivial,fin g2⟩
   ·have q : ∀ c, o.op ≠ .defer c := fun c e => by rw [e] at d; exact d
    rw[←hH]at d;obtain⟨w',g1,g2⟩:=XC k.heap I d;unfold qM;rw[pj _ _ _ q,g1];exact⟨fun _ _=>trivial,fin g2⟩
def gg(P:Program)(pf:FuncId→Bool)(ops:Array Oper):List Oper→St→St→Prop
 | [],s,s'=>s'=s
 |o::rest,s,s'=>∃ v H',Yields P pf ops o s v H'∧gg P pf ops rest (s.put o.dst v H') s'
theorem fx.after{E E':Env}{s':St}{d:Act}{w':World}(h:E.le E')(h':fx E' s' d w'):fx E s' d w':=by
 obtain⟨k,r',q,B⟩:=h';refine⟨k,r',?_,?_⟩
 ·rw[←XS.KD h.X]; exact q
 ·rw[←XS.KD h.X]; exact h.trans B
theorem fx.refl{s:St}{E:Env}{a:Act}(h:bQ s E a):fx E s a E.w:=by
 obtain⟨w,H,loc,X⟩:=E;have:=h.H;simp only at this;subst this;exact⟨loc,X.r,h,Env.le.refl _⟩
theorem zR{P:Program}{pf:FuncId→Bool}{ops:Array Oper}{Q:Exit→Act→World→Prop}:∀(l:List Oper) (k:Nat) (s s':St) (E:Env) (a:Act),
  l=ops.toList.drop k→gg P pf ops l s s'→bQ s E a→(∀ d w',fx E s' d w'→Q .normal d w')→∀ ro:Option Nat,wpOpsIn (fz ro) 0 P ops Q (List.range' k l.length) a E.w
 | [],k,s,s',E,a,_,h,q,B,ro=>by
  simp only[gg]at h;subst h;exact B _ _ (fx.refl q)
 | o::l,k,s,s',E,a,I,h,q,B,ro=>by
  obtain⟨v,H',O,J⟩:=h;simp only[cn,List.range'_succ];rw[wpOpsIn_cons];have hk:ops[k]? = some o:=by
   have:(ops.toList.drop k)[0]? = some o:=by rw[←I]; rfl
   simpa using this
  refine Ek q hk O (fun d w' U=>?_) ro;obtain⟨M,r',h1,V⟩:=U;refine zR l (k+1) _ s' { w:=w',H:=H',loc:=M,X:=E.X.re r' } d ?_ J h1 (fun a2 W N=>B a2 W ?_) ro
  ·rw[←qI,←I]; rfl
  ·exact fx.after V N
def waits(ops:Array Oper):Nat→Nat→Nat→Bool
 |0,_,_=>false
 | n+1,j,i=>match ops[j]? with
  |some o=>o.after.toList.any fun e=>Ko .any e&&(e.on==i||waits ops n e.on i)
  |none=>false
def eL:Op→Bool
 |.alloc _=>true
 |.makeMap _ none=>true
 |_=>false
def ow(pf:FuncId→Bool)(x y:Oper):Bool :=
 match cW pf x.op,cW pf y.op with
 |.pure,_|_,.pure | .read,.read=>true
 |.read,.write=>eL y.op
 |_,_=>false
def ta(pf:FuncId→Bool)(ops:Array Oper):Bool :=
  alX ops &&
  (dI ops.size).all fun j=>(match ops[j]? with
    | some d=>(d.after.toList.all fun e => !Ko .any e||e.on<j) &&
      ((dI j).all fun i => match ops[i]? with
        |some k=>waits ops ops.size j i||(k.apart ops d&&d.apart ops k&&ow pf k d)
        |none=>true)
    |none=>true)
def tb(P:Program)(pf:FuncId→Bool)(ops:Array Oper)(i:Nat)(K:St→Prop)(s:St):Prop :=
 match ops[i]? with
 |none=>K s
 |some o=>∃ v H',Yields P pf ops o s v H'∧K (s.put o.dst v H')
def tc(P:Program)(pf:FuncId→Bool)(ops:Array Oper)(s':St):Nat→Array Bool→St→Prop
 |0,listed,s=>lM .any ops listed=[]∧s=s'
 |fuel+1,listed,s=>(lM .any ops listed=[]→s=s')∧∀ i∈lM .any ops listed,tb P pf ops i (tc P pf ops s' fuel (listed.setIfInBounds i true)) s
theorem zS{P:Program}{pf:FuncId→Bool}{ops:Array Oper}{s':St}{Q:Exit→Act→World→Prop}:∀(fuel:Nat) (listed:Array Bool) (s:St) (E:Env) (a:Act),
  bQ s E a→tc P pf ops s' fuel listed s→(∀ q w',fx E s' q w'→Q .normal q w')→∀ ro:Option Nat,wpAnyIn (fz ro) 0 P .any ops Q fuel listed a E.w
 |0,_,s,E,a,d,h,k,_=>⟨h.1,k _ _ (h.2▸fx.refl d)⟩
 | fuel+1,listed,s,E,a,d,h,k,ro=>by
  refine⟨fun h0=>k _ _ (h.1 h0▸fx.refl d),fun i hi=>?_⟩;have h1:=h.2 i hi;unfold tb at h1;cases ho:ops[i]? with
  | none =>
   rw[ho]at h1;unfold wpOpIn;simp only[ho];exact zS fuel _ s E a d h1 k ro
  | some o =>
   rw[ho]at h1;obtain⟨v,H',J,M⟩:=h1;refine Ek d ho J (fun q w' N=>?_) ro;obtain⟨B,r',g1,g2⟩:=N;exact zS fuel _ _ { w:=w',H:=H',loc:=B,X:=E.X.re r' } q g1 M (fun a2 O I=>k a2 O (fx.after g2 I)) ro
theorem XD{ops:Array Oper}{o:Oper}{t:Tmp}(h:Operand.tmp t∈o.op.operands):t∈o.looksAt ops :=
 List.mem_append_left _ (List.mem_filterMap.2 ⟨.tmp t,by simpa using h,rfl⟩)
theorem XE{fr:List AV}{d t:Nat}{v:AV}(h:d≠t):(fr.set d v).getD t .undef=fr.getD t .undef:=by
 simp[List.getD_eq_getElem?_getD,aZ h]
theorem eval_put{ops:Array Oper}{s:St}{o:Oper}{dst:Option Tmp}{v:AV}{H':List ad}(h:∀ d,dst=some d→d∉o.looksAt ops){x:Operand}(k:x∈o.op.operands) :
  (s.put dst v H').eval x=s.eval x:=by
 cases dst with
 |none=>cases x<;>rfl
 | some d =>
  cases x with
  | tmp t =>
   have aA:d≠t:=fun e=>h d rfl (e▸XD k);simp only[St.eval,St.put,jT];exact XE aA
  |_=>rfl
theorem zT{ops:Array Oper}{fr:List AV}{o:Oper}{dst:Option Tmp}{v:AV}(h:∀ d,dst=some d→d∉o.looksAt ops) :
  bR ops (jT fr dst v) o=bR ops fr o:=by
 cases dst with
 |none=>rfl
 | some d =>
  unfold bR;cases hg:o.guard with
  |none=>rfl
  | some k =>
   obtain⟨g,want⟩:=k;simp only[];cases q:(ops[g]?).bind (·.dst)with
   |none=>rfl
   | some t =>
    have aA:d≠t:=fun e=>h d rfl (by subst e; simp[Oper.looksAt,hg,q]);simp only[jT,aZ aA]
theorem XF(fr:List AV){x y:Option Tmp}(v u:AV)(h:∀ d,x=some d→y≠some d):jT (jT fr x v) y u=jT (jT fr y u) x v:=by
 cases x with
 |none=>rfl
 | some d =>
  cases y with
  |none=>rfl
  | some e =>
   have aA:d≠e:=fun he=>h d rfl (he▸rfl);simp only[jT];rw[nV _ _ aA]
theorem LQ{P:Program}{r r':Operand→AV}(o:Op)(h:∀ x∈o.operands,r x=r' x):iC P r o=iC P r' o:=by
 cases o<;>simp only[iC]<;>simp only[fF]at h
 case build t ps =>
  have:(ps.toList.map fun p=>(p.1,r p.2))=ps.toList.map fun p=>(p.1,r' p.2):=sC fun p d=>by
   rw[h p.2 (by simp; exact⟨p.1,by simpa using d⟩)]
  rw[this]
 case buildSlice t n ps =>
  have:(ps.toList.map fun p=>(p.1,r p.2))=ps.toList.map fun p=>(p.1,r' p.2):=sC fun p d=>by
   rw[h p.2 (by simp; exact⟨p.1,by simpa using d⟩)]
  rw[this]
 case makeFunc fn first captured =>
  unfold Ee;cases fn<;>try rfl
  have:(captured.toList.map r)=captured.toList.map r':=sC fun x k=>h x (by simp; right; simpa using k);simp only[this]
 case call c =>
  obtain⟨callee,args,argTypes⟩:=c;unfold Ef;cases callee<;>try rfl
  have:(args.toList.map r)=args.toList.map r':=sC fun x k=>h x (by simp[vo]; simpa using k);simp only[this]
 case slice t x lo hi mx=>cases lo<;>cases hi<;>cases mx<;>simp_all
 all_goals (first|rfl|(simp_all; done))
theorem LR{P:Program}{r r':Operand→AV}{H:List ad}(o:Op)(h:∀ x∈o.operands,r x=r' x):fi P r H o=fi P r' H o:=by
 cases o<;>simp only[fi]<;>simp only[fF]at h
 case call c =>
  obtain⟨callee,args,argTypes⟩:=c;unfold pI;cases callee<;>try rfl
  split
  ·rename_i a t d ha k
   have hm:a∈args:=by
    have:a∈args.toList:=by rw[show args.toList=[a] from ha]; simp
    simpa using this
   have:r a=r' a:=h a (by simp[vo]; simpa using hm);simp only[this,d,ha,k]
  ·rfl
 all_goals (first|rfl|(simp_all; done))
theorem LS{P:Program}{r r':Operand→AV}{H:List ad}(o:Op)(h:∀ x∈o.operands,r x=r' x):dt P r H o=dt P r' H o:=by
  cases o<;>simp only[dt]<;>simp only[fF]at h
  case buildSlice t n ps =>
    have:(ps.toList.map fun p=>(p.1,r p.2))=ps.toList.map fun p=>(p.1,r' p.2):=sC fun p B=>by
      rw[h p.2 (by simp; exact⟨p.1,by simpa using B⟩)]
    rw[this]
  case call c =>
    obtain⟨callee,args,argTypes⟩:=c;unfold zP;cases callee<;>try rfl
    rename_i b;have d:∀ x,x∈args.toList→r x=r' x:=fun x I=>h x (by simp[vo]; simpa using I);cases b<;>try rfl
    all_goals simp only[]
    all_goals split
    all_goals first
      |rfl
      | (rename_i s x t xt ha q
         rw[d s (by rw[ha]; simp),d x (by rw[ha]; simp)])
      | (rename_i x t ha q
         rw[d x (by rw[ha]; simp)])
      | (rename_i x k t J ha q
         rw[d x (by rw[ha]; simp),d k (by rw[ha]; simp)])
  case makeMap t res=>cases res<;>rfl
  case lookup t m k ok =>
    cases ok with
    |true=>rfl
    |false=>simp only[h m (by simp),h k (by simp)]
  case mapEntry t m k=>simp only[h m (by simp),h k (by simp)]
  case entryStore t m s x=>simp only[h m (by simp),h s (by simp),h x (by simp)]
  all_goals (first|rfl|(simp_all; done))
theorem LU{r r':Operand→AV}(o:Op)(h:∀ x∈o.operands,r x=r' x):iX r o=iX r' o:=by
 cases o<;>simp only[iX]<;>simp only[fF]at h
 rename_i c;obtain⟨callee,args,argTypes⟩:=c;unfold Ej;cases callee<;>try rfl
 rename_i g;have d:r g=r' g:=h g (by simp[vo]);have k:(args.toList.map r)=args.toList.map r':=sC fun x q=>h x (by simp[vo]; right; simpa using q);simp only[d,k]
end Go.AL

namespace Go.AL
open Go
variable [Dr]
variable {P:Program} {pf:FuncId→Bool} {ops:Array Oper}
theorem fS{o:Oper}{s s1:St}{v:AV}{H':List ad}(hw:bR ops s1.fr o=bR ops s.fr o)(hr:∀ x∈o.op.operands,s1.eval x=s.eval x)(hH:s1.H=s.H) :
  Yields P pf ops o s1 v H'↔Yields P pf ops o s v H':=by
 unfold Yields;rw[hw,hH,LQ o.op hr,LR o.op hr,LS o.op hr,LU o.op hr,XB o.op hr]
theorem vT{o:Oper}{s:St}{v:AV}{H':List ad}(d:cW pf o.op=.pure)(h:Yields P pf ops o s v H'):H'=s.H∧∀ H2,Yields P pf ops o ⟨s.fr,H2⟩ v H2:=by
 have key:∀ H2:List ad,∀ x∈o.op.operands,St.eval ⟨s.fr,H2⟩ x=s.eval x:=fun H2 x _=>by cases x<;>rfl
 unfold Yields at h;cases hw:bR ops s.fr o with
 |none=>rw[hw]at h; exact h.elim
 | some b =>
  rw[hw]at h;cases b with
  | false =>
   refine⟨h.2,fun H2=>?_⟩;unfold Yields;rw[show bR ops (St.mk s.fr H2).fr o=some false from hw];exact⟨h.1,rfl⟩
  | true =>
   simp only[d]at h;refine⟨h.1,fun H2=>?_⟩;unfold Yields;rw[show bR ops (St.mk s.fr H2).fr o=some true from hw];simp only[d];refine⟨trivial,?_⟩;rw[LQ o.op (key H2),LU o.op (key H2)];exact h.2
theorem rm{o:Oper}{s:St}{v:AV}{H':List ad}(d:cW pf o.op=.read)(h:Yields P pf ops o s v H'):H'=s.H:=by
 unfold Yields at h;simp only[d]at h;split at h
 ·cases h
 ·exact h.2
 ·exact h.1
theorem XG{r:Operand→AV}{H:List ad}{x:ad}{v:AV}:∀{op:Op},fi P r H op=some v→fi P r (H++[x]) op=some v:=by
 have get:∀{i:Nat} {y:ad},H[i]? = some y→(H++[x])[i]? = some y:=by
  intro i y h;rw[cT (List.getElem?_eq_some_iff.1 h).1];exact h
 intro op h;cases op<;>simp only[fi]at h⊢<;>try cases h
 case load t a =>
  unfold g_ at h⊢;split at h
  ·rename_i n agg I
   split at h
   ·exact h
   ·rename_i id ae w row col ha
    cases hi:H[id]? with
    |none=>rw[hi]at h; cases h
    |some y=>rw[hi]at h; rw[get hi]; exact h
   ·cases h
  ·cases h
 case lookup t m k ok =>
  split at h
  ·rename_i v1 h1
   cases h;have d:gu P t (r m) (r k) ok (H++[x])=some v:=by
    unfold gu at h1⊢;split at h1
    ·rename_i J M id hm B
     cases hi:H[id]? with
     |none=>rw[hi]at h1; cases h1
     |some y=>rw[hi]at h1; rw[get hi]; exact h1
    ·cases h1
   rw[d]
  ·obtain ⟨d, q⟩ := LH (H2 := H ++ [x]) (fun i l es ms cl hi => get hi) h
   rw[q,d]
 case call c =>
  unfold pI at h⊢;split at h
  ·split at h
   ·rename_i id _ _
    cases hi:H[id]? with
    |none=>rw[hi]at h; cases h
    |some y=>rw[hi]at h; rw[get hi]; exact h
   ·cases h
  ·cases h
theorem XH{r:Operand→AV}{H:List ad}{id:Nat}{x y:ad}{v:AV}(hid:H[id]? = some y)(d:(∃ k,y=.vec k 0 [])∨y=.eo):∀{op:Op},fi P r H op=some v→fi P r (H.set id x) op=some v:=by
 have get:∀{i:Nat},i≠id→(H.set id x)[i]? = H[i]? := fun h=>aZ (Ne.symm h);intro op h;cases op<;>simp only[fi]at h⊢<;>try cases h
 case load t a =>
  unfold g_ at h⊢;split at h
  ·rename_i n agg J
   split at h
   ·exact h
   ·rename_i i ae w row col ha
    by_cases e:i=id
    ·subst e
     rw[hid]at h;rcases d with⟨k,rfl⟩|rfl<;>simp at h
    ·rw [get e]
     exact h
   ·cases h
  ·cases h
 case lookup t m k ok =>
  split at h
  ·rename_i v1 h1
   cases h;have q:gu P t (r m) (r k) ok (H.set id x)=some v:=by
    unfold gu at h1⊢;split at h1
    ·rename_i M N i hm I
     by_cases e:i=id
     ·subst e
      rw[hid]at h1;rcases d with⟨k,rfl⟩|rfl<;>simp at h1
     ·rw [get e]
      exact h1
    ·cases h1
   rw[q]
  ·obtain ⟨q,B⟩:=LH (H2:=H.set id x) (fun i l es ms cl hi=>by
    have e:i≠id:=fun e=>by
     rw[e,hid]at hi;rcases d with⟨k,rfl⟩|rfl<;>cases hi
    rw[get e];exact hi) h
   rw[B,q]
 case call c =>
  unfold pI at h⊢;split at h
  ·split at h
   ·rename_i i _ _
    by_cases e:i=id
    ·subst e
     rw[hid]at h;rcases d with⟨k,rfl⟩|rfl<;>simp at h
    ·rw [get e]
     exact h
   ·cases h
  ·cases h
theorem LV{P:Program}{t:TypeId}{id:Nat}{m:List (Option (List Kd))}{H H':List ad}{v:AV}(h:pG P t id m H=some (v,H')) :
  ∃ z k,eJ P t=some z∧H[id]? = some (.vec k 0 [])∧k=z.length∧v=.ptr id 1 k 0 0∧H'=H.set id (.vec k 1 [er m z]):=by
 unfold pG at h;split at h
 ·rename_i z k d hid
  split at h
  ·rename_i hk
   cases h;exact⟨z,k,d,hid,hk,rfl,rfl⟩
  ·cases h
 ·cases h
theorem LW{P:Program}{t:TypeId}{id:Nat}{H:List ad}{z:List Value}{k:Nat} (m:List (Option (List Kd))) (d:eJ P t=some z) (hid:H[id]? = some (.vec k 0 [])) (hk:k=z.length) :
  pG P t id m H=some (.ptr id 1 k 0 0,H.set id (.vec k 1 [er m z])):=by
 unfold pG;rw[d,hid];simp only[];rw[if_pos hk]
theorem LX{I B:Oper}{s:St}{v u:AV}{V q:List ad}(h1:I.apart ops B=true)(_h2:B.apart ops I=true)(J:ow pf I B=true)
  (hi:Yields P pf ops I s v V) (W:Yields P pf ops B (s.put I.dst v V) u q) :
  ∃ Hj1,Yields P pf ops B s u Hj1∧Yields P pf ops I (s.put B.dst u Hj1) v q:=by
 obtain⟨a1,a2,a3⟩:=Kp h1;have wj:bR ops (s.put I.dst v V).fr B=bR ops s.fr B:=zT a1;have wi:∀ H2,bR ops (s.put B.dst u H2).fr I=bR ops s.fr I:=fun H2=>zT a3;have ej:∀ x∈B.op.operands,(s.put I.dst v V).eval x=s.eval x:=fun x M=>eval_put a1 M;have ei:∀ H2,∀ x∈I.op.operands,(s.put B.dst u H2).eval x=s.eval x:=fun H2 x M=>eval_put a3 M;unfold ow at J;split at J
 ·-- I only computes
  rename_i O;obtain⟨N,g1⟩:=vT O hi;subst N;refine⟨q,(fS wj ej rfl).1 W,?_⟩;exact(fS (s1:=s.put B.dst u q) (s:=⟨s.fr,q⟩) (wi q) (fun x M=>by rw[ei q x M]; cases x<;>rfl) rfl).2 (g1 q)
 ·-- B only computes
  rename_i U _;obtain⟨N,g1⟩:=vT U W;have e1':q=V:=N;subst e1';refine⟨s.H,?_,?_⟩
  ·have := g1 s.H
   exact(fS (s1:=⟨(s.put I.dst v q).fr,s.H⟩) (s:=s) wj (fun x M=>by
    have:=ej x M;cases x<;>exact this) rfl).1 this
  ·exact(fS (s1:=s.put B.dst u s.H) (s:=s) (wi s.H) (ei s.H) rfl).2 hi
 ·rename_i O U
  have N:=rm O hi;subst N;have e2:=rm U W;have e2':q=s.H:=e2;subst e2';exact⟨s.H,(fS wj ej rfl).1 W,(fS (s1:=s.put B.dst u s.H) (s:=s) (wi s.H) (ei s.H) rfl).2 hi⟩
 ·rename_i O U
  have N:=rm O hi;subst N;have d:=(fS wj ej rfl).1 W;refine⟨q,d,?_⟩;have hpush:q=s.H∨(∃ x,q=s.H++[x])∨∃ id y x,s.H[id]? = some y∧((∃ k,y=.vec k 0 [])∨y=.eo)∧q=s.H.set id x:=by
   unfold Yields at d;simp only[U]at d;split at d
   ·exact d.elim
   ·exact .inl d.2
   ·rcases d with (d | ⟨f, args, h1, _⟩) | (⟨t, id, m, ho, hv⟩ | ⟨t, id, ho, hv⟩) | hst
    ·unfold eL at J
     split at J
     ·rename_i t ho
      rw[ho]at d;simp only[dt,qY]at d;split at d
      ·split at d
       ·cases d; exact .inr (.inl ⟨_,rfl⟩)
       ·cases d
      ·split at d
       ·cases d; exact .inr (.inl ⟨_,rfl⟩)
       ·cases d
     ·rename_i t ho
      rw[ho]at d;simp only[dt]at d;cases d;exact .inr (.inl ⟨_,rfl⟩)
     ·cases J
    ·unfold eL at J
     split at J
     ·rename_i t ho
      rw[ho]at h1;cases h1
     ·rename_i t ho
      rw[ho]at h1;cases h1
     ·cases J
    ·obtain ⟨z, k, _, h2, _, _, h3⟩ := LV hv
     exact .inr (.inr ⟨id,_,_,h2,.inl ⟨k,rfl⟩,h3⟩)
    ·obtain ⟨h1, _, h3⟩ := D3 hv
     exact .inr (.inr ⟨id,_,_,h1,.inr rfl,h3⟩)
    ·unfold eL at J
     split at J
     ·rename_i t ho
      rw[ho]at hst;exact hst.elim
     ·rename_i t ho
      rw[ho]at hst;exact hst.elim
     ·cases J
  refine(fS (s1:=s.put B.dst u q) (s:=⟨s.fr,q⟩) (wi q) (fun x M=>by rw[ei q x M]; cases x<;>rfl) rfl).2 ?_;have key:∀ H2:List ad,St.eval ⟨s.fr,H2⟩=s.eval:=fun H2=>by funext x; cases x<;>rfl
  unfold Yields at hi⊢;simp only[O]at hi⊢;cases hw:bR ops s.fr I with
  |none=>rw[hw]at hi; exact hi.elim
  | some b =>
   rw[hw]at hi;cases b with
   |false=>exact⟨hi.1,by simp⟩
   | true =>
    refine⟨by simp,?_⟩;rw[key];rcases hpush with rfl|⟨x,rfl⟩|⟨id,y,x,hid,hy,rfl⟩
    ·exact hi.2
    ·exact XG hi.2
    ·exact XH hid hy hi.2
 ·cases J
def El(ops:Array Oper)(listed:Array Bool)(j:Nat):Prop :=
 ∀ o,ops[j]? = some o→∀ e∈o.after,Ko .any e=true→listed.getD e.on false=true
def rq(ops:Array Oper)(listed:Array Bool):Prop:=∀ j,listed.getD j false=true→El ops listed j
theorem Em{listed:Array Bool}(d:rq ops listed):∀(n j i:Nat),El ops listed j→waits ops n j i=true→listed.getD i false=true
 |0,_,_,_,h=>by simp[waits]at h
 | n+1,j,i,q,h=>by
  unfold waits at h;split at h
  ·rename_i o ho
   rw[iQ]at h;obtain⟨e,he,hb⟩:=h;simp only[az,vp,beq_iff_eq]at hb;have k:=q o ho e (by simpa using he) hb.1;rcases hb.2 with rfl|hw
   ·exact k
   ·exact Em d n e.on i (d _ k) hw
  ·cases h
theorem En{listed:Array Bool}{j:Nat}(h:j∈lM .any ops listed):El ops listed j:=by
 obtain⟨_,o,ho,k⟩:=mem_ready.1 h;intro o' d;rw[ho]at d;cases d;exact k
theorem zU{listed:Array Bool}(q:rq ops listed){j:Nat}(B:j∈lM .any ops listed):rq ops (listed.setIfInBounds j true):=by
 intro k hk o ho e he hb;by_cases d:j=k
 ·subst d
  exact getD_set_true (En B o ho e he hb)
 ·have:listed.getD k false=true:=by
   have h:=hk;simp[Array.getElem?_setIfInBounds_ne d]at h;simpa using h
  exact getD_set_true (q k this o ho e he hb)
theorem LY(s:St)(x y:Option Tmp)(v u:AV)(H1 H2 k:List ad)(h:∀ d,x=some d→y≠some d):(s.put x v H1).put y u H2=(s.put y u k).put x v H2:=by
 simp only[St.put,XF s.fr v u h]
theorem LZ{listed:Array Bool}{i:Nat}(h:i∈lM .any ops listed):listed.getD i false=false:=by
 obtain⟨h0,_⟩:=mem_ready.1 h;rcases kg i listed.size with h'|h'
 ·simp[h']at h0⊢; exact h0
 ·simp[Kq h']at h0
theorem XI{s':St}{i:Nat}{B:Oper}(hi:ops[i]? = some B):∀(fuel:Nat) (listed:Array Bool) (s:St) (v:AV) (H':List ad),rq ops listed →
  (∀ j q,ops[j]? = some q→j≠i→listed.getD j true=false→waits ops ops.size j i=false→B.apart ops q=true∧q.apart ops B=true∧ow pf B q=true) →
  i∈lM .any ops listed→Yields P pf ops B s v H'→tc P pf ops s' fuel (listed.setIfInBounds i true) (s.put B.dst v H')→tc P pf ops s' (fuel+1) listed s:=by
 intro fuel
 induction fuel with
 | zero =>
  intro listed s v H' _ _ hr J H;refine⟨fun h=>(by rw[h]at hr; cases hr),fun j I=>?_⟩;by_cases d:j=i
  ·subst d
   unfold tb;simp only[hi];exact⟨v,H',J,H⟩
  ·have := ready_mono I d
   rw[H.1]at this;cases this
 | succ fuel ih =>
  intro listed s v H' U N hr J H;refine⟨fun h=>(by rw[h]at hr; cases hr),fun j I=>?_⟩;by_cases d:j=i
  ·subst d
   unfold tb;simp only[hi];exact⟨v,H',J,H⟩
  ·have h1 := H.2 j (ready_mono I d)
   obtain⟨O,q,V,hall⟩:=mem_ready.1 I;unfold tb at h1⊢;simp only[V]at h1⊢;obtain⟨u,Hj,hyj,hrest⟩:=h1;have hnw:waits ops ops.size j i=false:=by
    cases hw:waits ops ops.size j i with
    |false=>rfl
    | true =>
     have:=Em U _ _ _ (En I) hw;rw[LZ hr]at this;cases this
   obtain⟨a1,a2,a3⟩:=N j q V d O hnw;obtain⟨M,q1,q2⟩:=LX a1 a2 a3 J hyj;refine⟨u,M,q1,?_⟩;refine ih (listed.setIfInBounds j true) (s.put q.dst u M) v Hj (zU U I) ?_ (ready_mono hr (Ne.symm d)) q2 ?_
   ·intro k ok hk hki W hno
    refine N k ok hk hki ?_ hno;by_cases hjk:j=k
    ·subst hjk; exact O
    ·rw[getD_set_ne true hjk]at W; exact W
   ·rw [alY _ _ d]
    have:=LY s B.dst q.dst v u H' Hj M (Kp a1).2.1;rw[←this];exact hrest
theorem L1{s':St}(U:ta pf ops=true):∀(l:List Oper) (k:Nat) (listed:Array Bool) (s:St),l=ops.toList.drop k→rq ops listed→listed.size=ops.size →
  (∀ j,j<ops.size→(listed.getD j true=false↔k≤j))→gg P pf ops l s s'→tc P pf ops s' l.length listed s
 | [],k,listed,s,I,_,N,hk,h=>by
  simp only[gg]at h;refine⟨?_,h.symm⟩;apply alZ.2;intro j d;obtain⟨h0,o,ho,_⟩:=mem_ready.1 d;have B:j<ops.size:=(gV.1 ho).1;have:=(hk j B).1 h0;have hlen:(ops.toList.drop k).length=0:=by rw[←I]; rfl
  simp at hlen;omega
 | o::l,k,listed,s,I,O,N,hk,h=>by
  obtain⟨v,H',hy,W⟩:=h;have h0:ops[k]? = some o:=by
   have:(ops.toList.drop k)[0]? = some o:=by rw[←I]; rfl
   simpa using this
  have B:k<ops.size:=(gV.1 h0).1;simp only[ta,az,dB,fG]at U;obtain⟨_,J⟩:=U;have V:∀ j,j<k→listed.getD j false=true:=by
   intro j d;have hn:¬ (listed.getD j true=false):=fun e=>by have:=(hk j (by omega)).1 e; omega
   have:j<listed.size:=by omega
   simp[this]at hn⊢;exact hn
  have M:k∈lM .any ops listed:=by
   refine mem_ready.2 ⟨(hk k B).2 (aD _),o,h0,fun e he hb=>?_⟩;have:=J k B;rw[h0]at this;simp only[az,dB]at this;have h1:=this.1 e (by simpa using he);simp only[hb,yY,mH,decide_eq_true_eq]at h1;exact V e.on h1
  refine XI h0 l.length listed s v H' O ?_ M hy ?_
  ·intro j oj d hjk hun hnw
   have q:j<ops.size:=(gV.1 d).1;have hkj:k≤j:=(hk j q).1 hun;have:=J j q;rw[d]at this;simp only[az,dB,fG]at this;have h1:=this.2 k (by omega);rw[h0]at h1;simp only[hnw,mH,az]at h1;exact⟨h1.1.1,h1.1.2,h1.2⟩
  ·refine L1 (by simp only [ta, az, dB, fG]; exact ⟨‹_›, J⟩) l (k + 1) _ _ ?_ (zU O M) (by simpa using N) ?_ W
   ·rw[←qI,←I]; rfl
   ·intro j q
    by_cases e:k=j
    ·subst e
     have:k<listed.size:=by omega
     simp[this]
    ·rw [getD_set_ne true e, hk j q]
     omega
theorem XJ{id:Nat}{s s':St}{E:Env}{a:Act}{Q:Exit→Act→World→Prop}(hm:P.follows .mixedOrders=true)(I:ta pf ops=true)(d:bQ s E a)
  (h:gg P pf ops ops.toList s s') (J:∀ k w',fx E s' k w'→Q .normal k w'):∀ ro:Option Nat,(Code.region id ops true).wpIn (fz ro) 0 P Q a E.w:=by
 intro ro;have B:bQ s { E with w:={ E.w with drawn:=E.w.drawn+1 } } a:=⟨d.H,dK (Env.jQ (Ext.drawn E.w _)) _ d.fr,zm d.heap (Env.jQ (Ext.drawn E.w _)) d.defers,d.heap.ext (Ext.drawn E.w _)⟩
 refine wpIn_region_any hm (zS (pf:=pf) _ _ s { E with w:={ E.w with drawn:=E.w.drawn+1 } } a B ?_ (fun k w' M=>J k w' (fx.after (Env.jQ (Ext.drawn E.w _)) M)) ro);have:=L1 (P:=P) (s':=s') I ops.toList 0 (pn ops.size false) s (by simp) (by
  intro j q;exfalso;rcases kg j ops.size with h'|h'
  ·simp[h']at q
  ·simp[Kq (xs:=pn ops.size false) (by simpa using h')]at q) (by simp) (by intro j q; simp[q]) h
 simpa using this
theorem L2{id:Nat}{s s':St}{E:Env}{a:Act}{Q:Exit→Act→World→Prop}(k:bQ s E a)
  (h:gg P pf ops ops.toList s s') (q:∀ d w',fx E s' d w'→Q .normal d w'):∀ ro:Option Nat,(Code.region id ops false).wpIn (fz ro) 0 P Q a E.w:=by
 intro ro;refine wpIn_region ?_;have:=zR (Q:=Q) ops.toList 0 s s' E a (by simp) h k q ro;rw[List.range_eq_range'];simpa using this
end Go.AL

namespace Go.AL
open Go
variable [Dr]
inductive bO where
 |normal
 |exit (id:Nat)
 |ret
 deriving DecidableEq
def bO.toExit:bO→Exit
 |.normal=>.normal
 |.exit id=>.exit id
 |.ret=>.ret
structure Env.dL (m:Nat) (E E':Env):Prop where
 past:∀ id,id<m→E.past id 0→E'.past id 0
 size:E.w.heap.size≤E'.w.heap.size
 same:∀ b,b<E.w.heap.size→¬ E.own b→E'.w.heap[b]? = E.w.heap[b]?
 own:∀ b,b<E.w.heap.size→¬ E.own b→¬ E'.own b
 live:∀ id,id<m→E.past id 0→E'.live id 0→E.live id 0∧E'.loc[id]? = E.loc[id]?
 X:∀ b,b<E.w.heap.size→(E'.X b↔E.X b)∧(E'.X.z b↔E.X.z b)
 rl:∀ l h,h<(E.X.r l).length→h<(E'.X.r l).length∧∀ q,(E'.X.r l)[h]? = some (some q)→(E.X.r l)[h]? = some (some q)
 env:ep E.w E'.w
 grow:∀ id,id<m→∀ l o,E.H[id]? = some o→o.dy=some l→E'.live id 0→(∃ t,E'.X.r l=E.X.r l++t)∧∃ o',E'.H[id]? = some o'∧o'.dy=some l
theorem Env.le.toM{m:Nat}{E E':Env}(h:E.le E'):E.dL m E':=⟨fun id _ d=>h.past id 0 d,h.size,h.same,h.own,fun id _ d k=>h.live id 0 d k,fun b _=>by rw[show E'.X.x=E.X.x from h.X.1,show E'.X.z=E.X.z from h.X.2]; exact⟨Iff.rfl,Iff.rfl⟩,h.rl,h.env,fun id _ l o h1 q B=>h.grow id l o h1 q B⟩
def zV(H:List ad):Prop:=∀ o∈H,o.aG = some 0
theorem Env.dL.full{m:Nat}{E E':Env}(h:E.dL m E')(hX:E'.X.x=E.X.x∧E'.X.z=E.X.z)(hm:E.H.length≤m)(q:zV E.H):E.le E':=by
 have key:∀ id ae,E.past id ae→id<m∧ae=0:=by
  rintro id ae ⟨o,ho,B⟩;have h1:=aK ho;have k:=B.2 0 (q o (List.mem_of_getElem? ho));exact⟨by omega,by omega⟩
 refine⟨fun id ae d=>?_,h.size,h.same,h.own,fun id ae d I=>?_,hX,h.rl,h.env,fun id l o h1 k J=>h.grow id (dP (aK h1) hm) l o h1 k J⟩
 ·obtain ⟨h1, rfl⟩ := key id ae d
  exact h.past id h1 d
 ·obtain ⟨h1, rfl⟩ := key id ae d
  exact h.live id h1 d I
theorem Env.dL.trans{m:Nat}{E E' M:Env}(h:E.dL m E')(h':E'.dL m M):E.dL m M where
 past:=fun id hi k=>h'.past id hi (h.past id hi k)
 size:=Nat.le_trans h.size h'.size
 same:=fun b hb ho=>by rw[h'.same b (dP hb h.size) (h.own b hb ho),h.same b hb ho]
 own:=fun b hb ho=>h'.own b (dP hb h.size) (h.own b hb ho)
 live:=fun id hi hid V=>by
  obtain⟨B,a2⟩:=h'.live id hi (h.past id hi hid) V;obtain⟨b1,I⟩:=h.live id hi hid B;exact⟨b1,by rw[a2,I]⟩
 X:=fun b hb=>by
  have h1:=h'.X b (dP hb h.size);have d:=h.X b hb;exact⟨h1.1.trans d.1,h1.2.trans d.2⟩
 rl:=fun l i hi=>by
  obtain⟨B,a2⟩:=h.rl l i hi;obtain⟨b1,I⟩:=h'.rl l i B;exact⟨b1,fun q W=>a2 q (I q W)⟩
 env:=h.env.trans h'.env
 grow:=fun id hi l o h1 d J=>by
  have k:E.past id 0:=⟨o,h1,ad.Dn d,fun v J=>Nat.zero_le _⟩
  obtain⟨N,_⟩:=h'.live id hi (h.past id hi k) J;obtain⟨⟨t,ht⟩,o',g1,g2⟩:=h.grow id hi l o h1 d N;obtain⟨⟨t',O⟩,U,g3,g4⟩:=h'.grow id hi l o' g1 g2 J;exact⟨⟨t++t',by rw[O,ht,List.append_assoc]⟩,U,g3,g4⟩
def dE(m:Nat)(E:Env)(s':St)(k:Act)(w':World):Prop :=
 ∃ d X',bQ s' { w:=w',H:=s'.H,loc:=d,X:=X' } k∧E.dL m { w:=w',H:=s'.H,loc:=d,X:=X' }
theorem fx.toM{m:Nat}{E:Env}{s':St}{a:Act}{w:World}(h:fx E s' a w):dE m E s' a w:=let ⟨loc,r,h1,d⟩:=h; ⟨loc,E.X.re r,h1,d.toM⟩
theorem dE.after{m:Nat}{E E':Env}{s':St}{d:Act}{w':World}(h:E.dL m E')(h':dE m E' s' d w'):dE m E s' d w':=by
 obtain⟨k,X',h1,q⟩:=h';exact⟨k,X',h1,h.trans q⟩
theorem dE.refl{m:Nat}{s:St}{E:Env}{a:Act}(h:bQ s E a):dE m E s a E.w:=(fx.refl h).toM
def fy:Code→Bool
 |.seq a b=>fy a&&fy b
 |.cond _ a b=>fy a&&fy b
 |.block _ c=>fy c
 |.loop c=>fy c
 |.scope c=>fy c
 |.rangeFunc ..=>false
 |_=>true
def fj(ro:Option Nat)(c:Code):Prop:=ro=none∨fy c=true
theorem fj.seq1{ro:Option Nat}{a b:Code}(h:fj ro (.seq a b)):fj ro a:=h.imp id fun h=>by
 have h:(fy a&&fy b)=true:=h;exact(az _ _▸h).1
theorem fj.Eo{ro:Option Nat}{a b:Code}(h:fj ro (.seq a b)):fj ro b:=h.imp id fun h=>by
 have h:(fy a&&fy b)=true:=h;exact(az _ _▸h).2
theorem fj.cond{ro:Option Nat}{o:Operand}{a b:Code}(t:Bool)(h:fj ro (.cond o a b)):fj ro (if t then a else b):=h.imp id fun h=>by
 have h:(fy a&&fy b)=true:=h;cases t
 ·exact(az _ _▸h).2
 ·exact(az _ _▸h).1
theorem fj.block{ro:Option Nat}{i:Nat}{a:Code}(h:fj ro (.block i a)):fj ro a:=h
theorem fj.loop{ro:Option Nat}{a:Code}(h:fj ro (.loop a)):fj ro a:=h
theorem Ep(c:Code):fj none c:=.inl rfl
def cI(P:Program)(m:Nat)(c:Code)(s:St)(x:bO)(s':St):Prop :=
 ∀(ro:Option Nat),fj ro c→∀(E:Env) (a:Act),bQ s E a→c.wpIn (fz ro) 0 P (fun e d k=>e=x.toExit∧dE m E s' d k) a E.w
def bl(m:Nat)(s s':St):Prop:=∀(E:Env) (a:Act),bQ s E a→dE m E s' a E.w
theorem bl.refl{m:Nat}(s:St):bl m s s:=fun _ _ h=>dE.refl h
theorem bl.trans{m:Nat}{s s1 s2:St}(h:bl m s s1)(h':bl m s1 s2):bl m s s2:=fun E a d=>by
 obtain⟨loc,X,h1,k⟩:=h E a d;exact dE.after k (h' _ a h1)
theorem dE.weaken{m:Nat}{E:Env}{s s':St}{a:Act}{w:World}(h:dE m E s a w)(hle:bl m s s'):dE m E s' a w:=by
 obtain⟨loc,X,h1,d⟩:=h;exact dE.after d (hle _ a h1)
section rules
variable {P:Program} {m:Nat} {s s' s1:St} {x:bO}
theorem td{c:Code}(hle:bl m s s1)(h:cI P m c s1 x s'):cI P m c s x s':=fun ro ho E a d=>by
 obtain⟨loc,X,h1,k⟩:=hle E a d;exact wpIn_mono (h ro ho { w:=E.w,H:=s1.H,loc:=loc,X:=X } a h1) fun e I J ⟨q,B⟩=>⟨q,dE.after k B⟩
theorem te{c:Code}(h:cI P m c s x s1)(hle:bl m s1 s'):cI P m c s x s':=fun ro ho E a d =>
 wpIn_mono (h ro ho E a d) fun _ _ _ ⟨k,q⟩=>⟨k,q.weaken hle⟩
theorem XK:cI P m .skip s .normal s:=fun _ _ _ _ d=>wpIn_skip ⟨rfl,dE.refl d⟩
theorem XL:cI P m .ret s .ret s:=fun _ _ _ _ d=>wpIn_ret ⟨rfl,dE.refl d⟩
theorem XM{id:Nat}:cI P m (.exit id) s (.exit id) s:=fun _ _ _ _ d=>wpIn_exit ⟨rfl,dE.refl d⟩
theorem XN{pf:FuncId→Bool}{id:Nat}{ops:Array Oper}{draw:Bool}(hm:P.follows .mixedOrders=true)(q:draw=true→ta pf ops=true)(h:gg P pf ops ops.toList s s') :
  cI P m (.region id ops draw) s .normal s':=fun ro ho E a k=>by
 cases draw with
 |false=>exact L2 k h (fun B w' d=>⟨rfl,d.toM⟩) ro
 |true=>exact XJ hm (q rfl) k h (fun B w' d=>⟨rfl,d.toM⟩) ro
theorem tf{c d:Code}(h:cI P m c s .normal s1)(h':cI P m d s1 x s'):cI P m (.seq c d) s x s':=fun ro ho E a k =>
 wpIn_seq (wpIn_mono (h ro ho.seq1 E a k) fun e q U ⟨B,I⟩=>by
  subst B;obtain⟨loc,X,J,M⟩:=I;exact wpIn_mono (h' ro ho.Eo _ q J) fun _ _ _ ⟨N,O⟩=>⟨N,dE.after M O⟩)
theorem L3{c d:Code}(h:cI P m c s x s')(q:x≠.normal):cI P m (.seq c d) s x s':=fun ro ho E a B =>
 wpIn_seq (wpIn_mono (h ro ho.seq1 E a B) fun e J M ⟨I,k⟩=>by
  subst I;cases x with
  |normal=>exact(q rfl).elim
  |exit id=>exact⟨rfl,k⟩
  |ret=>exact⟨rfl,k⟩)
theorem L4{o:Operand}{c d:Code}{b:Bool}(hb:s.eval o=.lit (.bool b))(h:cI P m (if b then c else d) s x s'):cI P m (.cond o c d) s x s':=fun ro ho E a k=>by
 have:=k.eval o;rw[hb]at this;simp only[rel]at this;exact wpIn_cond this (h ro (ho.cond b) E a k)
def bO.inBlock(id:Nat):bO→bO
 |.exit i=>if i=id then .normal else .exit i
 |x=>x
theorem Er{id:Nat}{c:Code}(h:cI P m c s x s'):cI P m (.block id c) s (x.inBlock id) s':=fun ro ho E a k =>
 wpIn_block (wpIn_mono (h ro ho E a k) fun e B I ⟨q,d⟩=>by
  subst q;cases x with
  |normal=>exact⟨rfl,d⟩
  | exit i =>
   simp only[bO.toExit,Exit.inBlock,bO.inBlock];split
   ·exact⟨rfl,d⟩
   ·exact⟨rfl,d⟩
  |ret=>exact⟨rfl,d⟩)
def tg(P:Program)(m:Nat)(c:Code):Nat→St→bO→St→Prop
 |0,s,x,s'=>x≠.normal∧cI P m c s x s'
 |n+1,s,x,s'=>∃ s1,cI P m c s .normal s1∧tg P m c n s1 x s'
def kZ(P:Program)(m:Nat)(c:Code)(s:St)(x:bO)(s':St):Prop:=∃ n,tg P m c n s x s'
theorem kZ.stop{c:Code}(h:cI P m c s x s')(d:x≠.normal):kZ P m c s x s':=⟨0,d,h⟩
theorem kZ.next{c:Code}(h:cI P m c s .normal s1)(h':kZ P m c s1 x s'):kZ P m c s x s':=let ⟨n,hn⟩:=h'; ⟨n+1,s1,h,hn⟩
theorem kZ.pre{c:Code}(hle:bl m s s1)(h:kZ P m c s1 x s'):kZ P m c s x s':=by
 obtain⟨n,hn⟩:=h;cases n with
 |zero=>exact⟨0,hn.1,td hle hn.2⟩
 | succ n =>
  obtain⟨s2,h1,d⟩:=hn;exact⟨n+1,s2,td hle h1,d⟩
theorem L5{c:Code}(h:kZ P m c s x s'):cI P m (.loop c) s x s':=fun ro ho E a hs b k cs V hb hr=>by
 obtain⟨n,hn⟩:=h;have key:∀(n:Nat) (s1:St) (d:Env) (a:Act),bQ s1 d a→E.dL m d→tg P m c n s1 x s' →
   ∃ e B w',(e=x.toExit∧dE m E s' B w')∧ArrivesIn (Machine.fenced P (fz ro)) P (lone (b.atR a (.code c::.inLoop c::k)) cs d.w) b k cs e B w':=by
  intro n
  induction n with
  | zero =>
   intro s1 d a N hle J;obtain⟨hx,M⟩:=J;obtain⟨e,O,W,⟨I,h4⟩,q⟩:=M ro ho.loop d a N b (.inLoop c::k) cs V hb hr;refine⟨e,O,W,⟨I,dE.after hle h4⟩,?_⟩;subst I;exact .pass (x:=.inLoop c) rfl (fun _ _=>.inl (by cases x<;>simp_all[bO.toExit])) q
  | succ n ih =>
   intro s1 d a N hle J;obtain⟨s2,M,hrest⟩:=J;obtain⟨e,O,W,⟨I,loc,X,h5,h6⟩,q⟩:=M ro ho.loop d a N b (.inLoop c::k) cs V hb hr;subst I;obtain⟨e2,a2,w2,U,harr2⟩:=ih s2 _ O h5 (hle.trans h6) hrest;exact⟨e2,a2,w2,U,.of_steps (StepsIn.trans q (.one (fenced_calm hb hr rfl) stepR_inLoop)) harr2⟩
 obtain⟨e,B,w',U,q⟩:=key n s E a hs (Env.le.refl E).toM hn;exact⟨e,B,w',U,.of_steps (.one (fenced_calm hb hr rfl) stepR_loop) q⟩
end rules
def zW(P:Program)(s:St):ResultVar→Option AV
 |.tmp t=>some (s.fr.getD t .undef)
 |.cell a t=>g_ P t (s.fr.getD a .undef) s.H
def gL(P:Program)(s:St):List ResultVar→Option (List AV)
 | []=>some []
 | r::rs=>match zW P s r,gL P s rs with
  |some v,some vs=>some (v::vs)
  |_,_=>none
def c9:List AV→AV
 | [v]=>v
 |vs=>.tuple vs
def Es(tmps:Array Value):ResultVar→Sem Value
 |.tmp t=>pure (tmps.getD t undef)
 |.cell a t=>do loadVar t (← asAddr (tmps.getD a undef))
theorem XO{P:Program}{s:St}{E:Env}{a:Act}(k:bQ s E a){r:ResultVar}{v:AV}(h:zW P s r=some v) :
  ∃ u,(Es a.tmps r).run P E.w=.ok u E.w∧rel E v u:=by
 cases r with
 | tmp t =>
  simp only[zW,aY]at h;subst h;exact⟨_,rfl,k.eval (.tmp t)⟩
 | cell x t =>
  simp only[zW]at h;rw[←k.H]at h;have d:=k.eval (.tmp x);simp only[St.eval,Act.eval]at d;obtain⟨u,g1,g2⟩:=KO k.heap h d;refine⟨u,?_,g2⟩;have B:∃ b o,a.tmps.getD x undef=.pointer (some ⟨b,o,none⟩):=by
   unfold g_ at h;split at h
   case h_2=>cases h
   split at h
   ·rename_i q
    rw[q]at d;simp only[rel]at d;obtain⟨_,b,o,e,_⟩:=d;exact⟨b,o,e⟩
   ·rename_i q
    rw[q]at d;simp only[rel]at d;obtain⟨⟨b,o,e⟩,_⟩:=d;exact⟨b,o,e⟩
   ·cases h
  obtain⟨b,o,e⟩:=B;show (do loadVar t (← asAddr (a.tmps.getD x undef)):Sem Value).run P E.w=.ok u E.w
  rw[e]at g1⊢;simpa[Instr.loadAt,Instr.sureAddr,asAddr]using g1
theorem zX{P:Program}{s:St}{E:Env}{a:Act}(d:bQ s E a):∀(rs:List ResultVar) (vs:List AV),gL P s rs=some vs →
  ∃ us:List Value,(rs.mapM (Es a.tmps)).run P E.w=.ok us E.w∧af E vs us
 | [],vs,h=>by simp[gL]at h; subst h; exact⟨[],rfl,by simp[af]⟩
 | r::rs,vs,h=>by
  simp only[gL]at h;split at h
  case h_2=>cases h
  rename_i v k h1 q;cases h;obtain⟨u,g1,g2⟩:=XO d h1;obtain⟨us,g3,g4⟩:=zX d rs k q;refine⟨u::us,?_,by simp only[af]; exact⟨g2,g4⟩⟩;simp only[List.mapM_cons,bY];rw[g1];simp only[b_];rw[g3];rfl
theorem zY(fn:Func)(tmps:Array Value):results fn tmps=(do let vs ← fn.results.mapM (Es tmps); pure (if h:vs.size=1 then vs[0] else .tuple vs)):=by
 unfold results;congr 1
theorem XP{P:Program}{fn:Func}{s:St}{E:Env}{a:Act}(k:bQ s E a){vs:List AV}(h:gL P s fn.results.toList=some vs) :
  ∃ u,(results fn a.tmps).run P E.w=.ok u E.w∧rel E (c9 vs) u:=by
 obtain⟨us,g1,g2⟩:=zX k fn.results.toList vs h;refine⟨if h:us.toArray.size=1 then us.toArray[0] else .tuple us.toArray,?_,?_⟩
 ·rw [zY]
  simp only[bY];rw[Array.mapM_eq_mapM_toList,Sem.run_map,g1];rfl
 ·have d := gG g2
  cases us with
  | nil =>
   cases vs with
   |nil=>simp[c9,rel,af]
   |cons _ _=>simp at d
  | cons u us =>
   cases us with
   | nil =>
    cases vs with
    |nil=>simp at d
    | cons v vs =>
     cases vs with
     |nil=>simp only[af]at g2; simpa[c9]using g2.1
     |cons _ _=>simp at d
   | cons q us =>
    cases vs with
    |nil=>simp at d
    | cons v vs =>
     cases vs with
     |nil=>simp at d
     | cons v2 vs =>
      simp only[c9,rel];exact⟨(u::q::us).toArray,by simp,g2⟩
def iY(args:List AV)(n:Nat):List AV:=args++cd (n-args.length) .undef
theorem vU{E:Env}:∀(vs:List Value),af E (cd vs.length .undef) vs
 | []=>by simp[af]
 |_::vs=>by simp only[cn,List.replicate_succ,af,rel]; exact⟨trivial,vU vs⟩
structure ia (E E':Env):Prop where
 H:E'.H=E.H
 loc:E'.loc=E.loc
 size:E.w.heap.size≤E'.w.heap.size
 same:∀ b,b<E.w.heap.size→¬ E.X b→¬ E'.X b∧E'.w.heap[b]? = E.w.heap[b]?
 X:∀ b,E'.X b→b<E'.w.heap.size
 r:E'.X.r=E.X.r
theorem ia.own{E E':Env}(h:ia E E')(b:Nat):E'.own b↔E.own b:=by unfold Env.own Env.sat; rw[h.loc,h.r]
theorem ia.toC{E E':Env}(h:ia E E'):E.bH E' :=
 ⟨fun b hb=>⟨⟨dP hb.1 h.size,fun ho=>hb.2.1 ((h.own b).1 ho),(h.same b hb.1 hb.2.2).1⟩,(h.same b hb.1 hb.2.2).2⟩⟩
mutual
theorem vV{E E':Env}(h:ia E E'):∀(a:AV) {c:Value},rel E a c→rel E' a c
 |.undef,_,_=>by simp[rel]
 |.lit v,c,hr=>by simpa only[rel]using hr
 |.nils,c,hr=>by simpa only[rel]using hr
 |.list k rows,c,hr=>dZ h.toC _ (by simp[AV.closed]) hr
 |.listF ks rows,c,hr=>dZ h.toC _ (by simp[AV.closed]) hr
 | .agg cells,c,hr=>by
  simp only[rel]at hr⊢;obtain⟨cs,e,h1,d⟩:=hr;exact⟨cs,e,h1,ox h cells d⟩
 | .tuple cells,c,hr=>by
  simp only[rel]at hr⊢;obtain⟨cs,e,d⟩:=hr;exact⟨cs,e,ox h cells d⟩
 |.cptr cells,c,hr=>dZ h.toC _ (by simp[AV.closed]) hr
 | .ptr id ae k row col,c,hr=>by
  simp only[rel,Env.past,Env.live,h.H,h.loc]at hr⊢;exact hr
 | .vec k id ae off n,c,hr=>by
  simp only[rel,Env.past,Env.live,h.H,h.loc]at hr⊢;exact hr
 | .map id,c,hr=>by
  simp only[rel,Env.past,Env.live,h.H,h.loc]at hr⊢;exact hr
 | .clo f caps,c,hr=>by
  simp only[rel]at hr⊢;obtain⟨cs,e,d⟩:=hr;exact⟨cs,e,ox h caps d⟩
 |.ifc,c,hr=>by simpa only[rel]using hr
 |.emptyS n,c,hr=>by simpa only[rel]using hr
 | .sub id l j,c,hr=>by
  simp only[rel,Env.past,Env.live,Env.KE,h.H,h.r]at hr⊢;exact hr
theorem ox{E E':Env}(h:ia E E'):∀(as:List AV) {vs:List Value},af E as vs→af E' as vs
 | [],[],_=>by simp[af]
 | [],_::_,hr=>by simp[af]at hr
 |_::_,[],hr=>by simp[af]at hr
 | a::as,v::vs,hr=>by
  simp only[af]at hr⊢;exact⟨vV h a hr.1,ox h as hr.2⟩
end
theorem aq.cR{E E':Env}(H:aq E)(h:ia E E'):aq E' where
 fH:=H.fH.bH h.toC
 len:=by rw[h.loc,h.H]; exact H.len
 inj:=by rw[h.loc]; exact H.inj
 lt:=fun i b m hi=>by
  rw[h.loc]at hi;have:=H.lt i b m hi;exact⟨dP this.1 h.size,(h.same b this.1 this.2).1⟩
 X:=h.X
 obj:=fun i o hi=>by
  rw[h.H]at hi;exact kT (fun a _ hr=>vV h a hr) (by rw[h.loc]) (fun b n hb=>(h.same b (H.lt i b n hb).1 (H.lt i b n hb).2).2) (fun l _=>⟨by rw[h.r],fun k g m hk=>(h.same g (H.ct l k g m hk).1 (H.ct l k g m hk).2).2⟩) (H.obj i o hi)
 e9:=by rw[h.r]; exact H.e9
 cY:=by rw[h.r,h.loc]; exact H.cY
 ct:=fun l k b m hk=>by
  rw[h.r]at hk;have:=H.ct l k b m hk;exact⟨dP this.1 h.size,(h.same b this.1 this.2).1⟩
 uniq:=by rw[h.H]; exact H.uniq
 gH:=by rw[h.H,h.r]; exact H.gH
theorem bQ.cR{s:St}{E E':Env}{a:Act}(d:bQ s E a)(h:ia E E'){l:List Deferred}(hm:jR E'.w E'.X l):bQ s E' { a with defers:=l } :=
 ⟨by rw[h.H]; exact d.H,ox h _ d.fr,hm,d.heap.cR h⟩
theorem L6{P:Program}{fn:Func}{tmps:Array Value}{R:Ending→World→Prop}:∀(l:List Deferred) (w:World) (X:XS),jR w X l →
  (∀ w',w'.heap.size=w.heap.size→(∀ b,w'.heap[b]? ≠ w.heap[b]? → X b∧X.z b)→ep w w'→∃ v,(results fn tmps).run P w'=.ok v w'∧R (.returned v) w')→LeavesInM (fz none) 0 P fn tmps R l .returning w
 | [],w,X,_,h=>h w rfl (fun b hb=>(hb rfl).elim) (ep.refl w)
 | d::l,w,X,hm,h=>by
  obtain⟨D,e,h1,J,M⟩:=hm.2 d cU;subst e;have V:D<w.heap.size:=(gV.1 h1).1;have k:∀ b,b≠D→(w.putObj D (.deferred none)).heap[b]? = w.heap[b]? := fun b hb=>World.putObj_heap_other hb;have I:(w.putObj D (.deferred none)).heap.size=w.heap.size:=by simp[World.putObj]
  refine⟨by simp,.inl ⟨D,_,rfl,run_takeDeferred h1,L6 l _ X ⟨(lL.1 hm.1).2,fun d' q=>?_⟩ fun w' g1 g2 g3=>h w' (by rw[g1,I]) (fun b hb=>?_) (ep.trans ⟨rfl,rfl,rfl,by first|exact fun _=>aD _|exact fun _=>Nat.le_add_right _ _⟩ g3)⟩⟩
  ·obtain ⟨B, e', N, O, U⟩ := hm.2 d' (List.mem_cons_of_mem _ q)
   refine⟨B,e',?_,O,U⟩;rw[k B (fun e=>(lL.1 hm.1).1 (by rw[←e,←e']; exact q))];exact N
  ·by_cases e : b = D
   ·subst e
    exact⟨J,M⟩
   ·refine g2 b ?_
    rw[k b e];exact hb
theorem Et{P:Program}{f:FuncId}{fn:Func}{c:Code}{args:Array Value}{w:World}{R:Ending→World→Prop}(q:P.funcs[f]? = some fn)(hb:fn.body=some c)
  (h : c.wpIn (fz none) 0 P (fun e k d => (e = .normal ∨ e = .ret) ∧ ∃ X, jR d X k.defers ∧ ∀ w', w'.heap.size = d.heap.size → (∀ b, w'.heap[b]? ≠ d.heap[b]? → X b ∧ X.z b) → ep d w' → ∃ v, (results fn k.tmps).run P w' = .ok v w' ∧ R (.returned v) w')
   { tmps:=args++pn (fn.ntmps-args.size) undef,defers:=[] } w):Calls P f args w R:=by
 refine(callsIn_wide (n:=0)).1 (callsIn_of_wp_marks (F:=fz none) q hb trivial (wpIn_mono h fun e k d B=>?_));obtain⟨he,X,h1,I⟩:=B;have:=L6 (P:=P) (fn:=fn) (tmps:=k.tmps) (R:=R) k.defers d X h1 I;rcases he with rfl|rfl
 ·exact this
 ·exact this
theorem Eu{m:Nat}{E:Env}{s':St}{k:List (Option (Nat × Nat))}{X':XS}{q:Act}{d w':World}(HE:aq E)(M:bQ s' { w:=d,H:=s'.H,loc:=k,X:=X' } q)
  (hle:({ E with X:=⟨E.X.x,fun _=>False,E.X.r⟩ }:Env).dL m { w:=d,H:=s'.H,loc:=k,X:=X' }) (h1:w'.heap.size=d.heap.size) (B:∀ b,w'.heap[b]? ≠ d.heap[b]? → X' b∧X'.z b) (N:ep d w') :
  bQ s' { w:=w',H:=s'.H,loc:=k,X:=E.X.re X'.r } { q with defers:=[] }∧E.dL m { w:=w',H:=s'.H,loc:=k,X:=E.X.re X'.r }:=by
 have J:∀ b,b<E.w.heap.size→w'.heap[b]? = d.heap[b]? := fun b hb=>al0 fun aA=>((hle.X b hb).2.1 (B b aA).2).elim;have O:E.w.heap.size≤d.heap.size:=hle.size;have cR:ia { w:=d,H:=s'.H,loc:=k,X:=X' } { w:=w',H:=s'.H,loc:=k,X:=E.X.re X'.r } :=
  ⟨rfl, rfl, by show d.heap.size ≤ w'.heap.size; omega, fun b hb I => ⟨fun he => I ((hle.X b (HE.X b he)).1.2 he), al0 fun aA => I (B b aA).1⟩, fun b hb => by
   have:=HE.X b hb;show b<w'.heap.size
   omega,rfl⟩
 refine⟨M.cR cR (qU _ _),⟨hle.past,by show E.w.heap.size≤w'.heap.size; omega,fun b hb ho=>?_,hle.own,hle.live,fun b _=>⟨Iff.rfl,Iff.rfl⟩,hle.rl,hle.env.trans N,hle.grow⟩⟩;show w'.heap[b]? = E.w.heap[b]?
 rw[J b hb];exact hle.same b hb ho
theorem th{E:Env}(HE:aq E):ia E { E with X:=⟨E.X.x,fun _=>False,E.X.r⟩ }:=⟨rfl,rfl,aD _,fun b _ d=>⟨d,rfl⟩,HE.X,rfl⟩
theorem L7{P:Program}{f:FuncId}{fn:Func}{c:Code}{args:List AV}{H:List ad}{x:bO}{s':St}{vs:List AV}
  (N:P.funcs[f]? = some fn) (hb:fn.body=some c) (O:cI P H.length c ⟨iY args fn.ntmps,H⟩ x s') (U:x=.normal∨x=.ret) (hr:gL P s' fn.results.toList=some vs) (M:zV H) :
  dC P f args H (c9 vs) s'.H:=by
 intro E cargs hH HE q;refine Et N hb ?_;have B:=th HE;have q:=ox B _ q;have I:bQ ⟨iY args fn.ntmps,H⟩ { E with X:=⟨E.X.x,fun _=>False,E.X.r⟩ } { tmps:=cargs++pn (fn.ntmps-cargs.size) undef,defers:=[] }:=by
  refine⟨hH,?_,qU _ _,HE.cR B⟩;simp only[iY,yV,Array.toList_replicate];refine kW q ?_;have:=gG q;have e:args.length=cargs.size:=by simpa using this
  rw[e];have:=vU (E:={ E with X:=⟨E.X.x,fun _=>False,E.X.r⟩ }) (cd (fn.ntmps-cargs.size) undef);simpa using this
 refine wpIn_mono (O none (Ep _) { E with X:=⟨E.X.x,fun _=>False,E.X.r⟩ } _ I) fun e a1 w1 ⟨V,J,X',d,k⟩=>?_;refine⟨by subst V; rcases U with rfl|rfl; exact .inl rfl; exact .inr rfl,X',d.defers,fun w' W k2 k3=>?_⟩;obtain⟨d,k⟩:=Eu HE d k W k2 k3;obtain⟨u,g1,g2⟩:=XP d hr;have k:=k.full ⟨rfl,rfl⟩ (by rw[hH]; exact aD _) (by rw[hH]; exact M);exact⟨u,g1,u,c9 vs,s'.H,rfl,⟨rfl,rfl⟩,J,X'.r,g2,d.heap,k⟩
theorem XQ{P:Program}{f:FuncId}{args:List AV}{v:AV}{H1:List ad}(h:dC P f args [] v H1)(ha:AV.br args=true)(U:v.closed=true):cV P f args v:=by
 intro H E cargs hH HE M
 let E0:Env:={ w:=E.w,H:=[],loc:=[],X:=(E.X.or E.own).re dY }
 have B:∀ b,¬ E0.own b:=by rintro b (⟨id,c,hid⟩|⟨l,k,c,hk⟩); simp[E0]at hid; simp[E0,dY]at hk
 have hC:E.bH E0:=⟨fun b hb=>⟨⟨hb.1,B b,fun d=>d.elim hb.2.2 hb.2.1⟩,rfl⟩⟩
 have O:aq E0:=by
  refine⟨rfl,?_,?_,?_,?_,HE.fH.bH hC,fun l k l' k' b m n hk=>by simp[E0,dY]at hk,fun i b m l k n hi=>by simp[E0]at hi,fun l k b m hk=>by simp[E0,dY]at hk,fun i j o o' l hi=>by simp[E0]at hi,fun l _ k q hk=>by simp[E0,dY]at hk⟩
  ·intro i j b m n hi; simp[E0]at hi
  ·intro i b m hi; simp[E0]at hi
  ·rintro b (d | ho)
   ·exact HE.X b d
   ·exact(HE.zk ho).1
  ·intro i o hi; simp[E0]at hi
 refine(h E0 cargs rfl O (pz hC args ha M)).mono ?_;rintro _ w' ⟨c,J,H',rfl,⟨rfl,rfl⟩,N,r',g1,g2,g3⟩;have I:Ext E.w w':=⟨g3.size,fun b hb=>g3.same b hb (B b),g3.env⟩
 refine⟨c,J,H,rfl,⟨rfl,rfl⟩,E.loc,E.X.r,?_,?_,?_⟩
 ·rw [← hH]
  exact dZ (E:={ w:=w',H:=H',loc:=N,X:=E0.X.re r' }) (E':={ w:=w',H:=E.H,loc:=E.loc,X:=E.X })
   ⟨fun b hb=>⟨⟨hb.1,fun ho=>hb.2.2 (Or.inr ho),fun d=>hb.2.2 (Or.inl d)⟩,rfl⟩⟩ J U g1
 ·rw[←hH]; exact HE.ext I
 ·rw[←hH]; exact Env.jQ I
end Go.AL

namespace Go.AL
open Go
variable [Dr]
variable {P:Program} {pf:FuncId→Bool} {ops:Array Oper}
def lX(r:Operand→AV):Op→Option Nat
 | .load _ a=>match r a with
  |.ptr id _ _ _ _=>some id
  |_=>none
 | .lookup _ m _ _=>match r m with
  |.map id=>some id
  |.sub id _ _=>some id
  |_=>none
 | .call c=>match c.args.toList with
  | [a]=>match r a with
   |.map id=>some id
   |_=>none
  |_=>none
 |_=>none
theorem L8{r:Operand→AV}{H H2:List ad}:∀{op:Op},(∀ id,lX r op=some id→H2[id]? = H[id]?)→fi P r H2 op=fi P r H op:=by
 intro op h;cases op<;>simp only[fi]
 case load t a =>
  simp only[lX]at h;unfold g_;cases ha:r a with
  | ptr id ae w row col =>
   rw[ha]at h;have:=h id rfl;simp only[this]
  |_=>rfl
 case lookup t m k ok =>
  simp only[lX]at h;have d:kr P t (r m) (r k) ok H2=kr P t (r m) (r k) ok H:=Xk (fun id e=>by rw[e]at h; exact h id rfl) (fun id l j e=>by rw[e]at h; exact h id rfl);rw[d];have h1:gu P t (r m) (r k) ok H2=gu P t (r m) (r k) ok H:=by
   unfold gu;cases dx P t with
   |none=>rfl
   | some p =>
    obtain⟨q,B⟩:=p;cases hm:r m with
    | map id =>
     rw[hm]at h;have:=h id rfl;simp only[this]
    |_=>rfl
  rw[h1]
 case call c =>
  simp only[lX]at h;unfold pI;split
  ·rename_i a t I ha J
   rw[ha]at h;simp only[]at h;cases dx P t with
   |none=>rfl
   | some p =>
    cases hm:r a with
    | map id =>
     rw[hm]at h;have:=h id rfl;simp only[this]
    |_=>rfl
  ·rfl
theorem L9{r r':Operand→AV}(o:Op)(h:∀ x∈o.operands,r x=r' x):lX r o=lX r' o:=by
 cases o<;>simp only[lX]
 case load t a =>
  simp only[fF]at h;rw[h a (by simp)]
 case lookup t m k ok =>
  simp only[fF]at h;rw[h m (by simp)]
 case call c =>
  split
  ·rename_i a ha
   have:a∈(Op.call c).operands:=by
    show a∈c.operands
    have h1:a∈c.args:=by
     have:a∈c.args.toList:=by rw[ha]; simp
     simpa using this
    simp[vo,h1]
   rw[h a this]
  ·rfl
abbrev iZ:=List (Nat × List Nat × Nat)
abbrev jU:=List (Nat × Nat)
def kept(W:iZ)(j A:Nat):Prop:=∀ e∈W,e.1=j→A∉e.2.1∧A<e.2.2
def Ev(ops:Array Oper):Bool :=
 (dI ops.size).any fun j => (dI j).any fun i => match ops[i]?, ops[j]? with
  |some x,some y=>eL x.op&&eL y.op && !waits ops ops.size j i
  |_,_=>false
def k8:Op→Bool
 | .call c=>match c.callee with
  |.value (.func _)=>true
  |_=>false
 |_=>false
def isVar:Op→Bool
 |.alloc _=>true
 |_=>false
theorem tn{op:Op}(h:isVar op=true):eL op=true:=by
 unfold isVar at h;split at h
 ·rfl
 ·cases h
def pJ(ops:Array Oper):Bool :=
 (dI ops.size).any fun j => (dI j).any fun i => match ops[i]?, ops[j]? with
  |some x,some y=>k8 x.op&&isVar y.op && !waits ops ops.size j i
  |_,_=>false
def jz:Op→Bool
 |.mapEntry ..=>true
 |.entryStore ..=>true
 |_=>false
def Ew(ops:Array Oper):Bool :=
 (dI ops.size).any fun j => (dI j).any fun i => match ops[i]?, ops[j]? with
  |some x,some y=>eL x.op&&jz y.op && !waits ops ops.size j i
  |_,_=>false
def oy(ops:Array Oper):Bool:=(Ev ops||pJ ops)||Ew ops
theorem L_{pf:FuncId→Bool}{op:Op}(h:jz op=true):cW pf op=.write:=by
 unfold jz at h;split at h
 ·rfl
 ·rfl
 ·cases h
theorem XR{op:Op}(h:jz op=true):eL op=false:=by
 unfold jz at h;split at h
 ·rfl
 ·rfl
 ·cases h
theorem XT{op:Op}(h:jz op=true):k8 op=false:=by
 unfold jz at h;split at h
 ·rfl
 ·rfl
 ·cases h
theorem oz{pf:FuncId→Bool}{op:Op}(h:eL op=true):cW pf op=.write:=by
 unfold eL at h;split at h
 ·rfl
 ·rfl
 ·cases h
theorem zZ{pf:FuncId→Bool}{op:Op}{X:Prop}(h:cW pf op≠.write):eL op=true→X:=fun ha=>(h (oz ha)).elim
theorem mY{op:Op}(h:eL op=true):k8 op=false:=by
 unfold eL at h;split at h
 ·rfl
 ·rfl
 ·cases h
def oA(σ:List (Nat × ad))(H:List ad):List ad:=σ.foldl (fun H p=>H.set p.1 p.2) H
def z_(W:iZ)(j:Nat)(H:List ad)(σ:List (Nat × ad)):Prop:=∀ p∈σ,kept W j p.1∧∃ k r,H[p.1]? = some (.vec k 0 [])∧p.2=.vec k 1 r
def Step(P:Program)(pf:FuncId→Bool)(ops:Array Oper)(R:jU)(W:iZ)(j:Nat)(o:Oper)(s:St)(v:AV)(H':List ad):Prop :=
 (cW pf o.op = .write → ∀ A, kept W j A → H'[A]? = s.H[A]?) ∧ (cW pf o.op = .read → bR ops s.fr o = some true → ∀ id, lX s.eval o.op = some id → (j, id) ∈ R) ∧
  (eL o.op=true→oy ops=true→bR ops s.fr o=some true→H'.length=s.H.length∧∀ id,H'[id]? ≠ s.H[id]? → ∃ e∈W,e.1=j∧id∈e.2.1) ∧
  (k8 o.op=true→pJ ops=true→cW pf o.op=.write→bR ops s.fr o=some true→∀ σ,z_ W j s.H σ→Yields P pf ops o ⟨s.fr,oA σ s.H⟩ v (oA σ H'))
def L'(R:jU)(W:iZ)(i j:Nat):Prop:=∀ id,(i,id)∈R→kept W j id
def Ex(pf:FuncId→Bool)(ops:Array Oper)(R:jU)(W:iZ)(i:Nat)(x:Oper)(j:Nat)(y:Oper):Prop :=
 ow pf x y=true∨(cW pf x.op=.read∧cW pf y.op=.write∧L' R W i j)∨(cW pf x.op=.write∧cW pf y.op=.read∧L' R W j i)∨(eL x.op=true∧eL y.op=true∧oy ops=true) ∨
  (cW pf x.op=.write∧k8 x.op=true∧isVar y.op=true∧pJ ops=true∧∀ e∈W,e.1=j→∀ id∈e.2.1,kept W i id) ∨
  (eL x.op=true∧jz y.op=true∧oy ops=true∧∀ e∈W,e.1=i→∀ id∈e.2.1,kept W j id)
theorem Ma{o:Oper}{s:St}{v:AV}{H':List ad}(ho:isVar o.op=true)(h:Yields P pf ops o s v H')(q:bR ops s.fr o=some true→H'.length=s.H.length) :
  (bR ops s.fr o = some false ∧ v = .tuple [] ∧ H' = s.H) ∨
   (bR ops s.fr o=some true∧∃ t id z k m,o.op=.alloc t∧eJ P t=some z∧s.H[id]? = some (.vec k 0 [])∧k=z.length∧v=.ptr id 1 k 0 0∧H'=s.H.set id (.vec k 1 [er m z])):=by
 unfold Yields at h;cases hw:bR ops s.fr o with
 |none=>rw[hw]at h; exact h.elim
 | some b =>
  rw[hw]at h;cases b with
  |false=>exact .inl ⟨rfl,h.1,h.2⟩
  | true =>
   right;refine⟨rfl,?_⟩;simp only[oz (tn ho)]at h;have q:=q hw;rcases h with(h|⟨f,args,h1,_⟩)|(⟨t,id,m,d,I⟩|⟨t,id,d,I⟩)|B
   ·unfold isVar at ho
    split at ho
    ·rename_i t d
     rw[d]at h;simp only[dt,qY]at h;split at h
     ·split at h
      ·cases h
       simp at q
      ·cases h
     ·split at h
      ·cases h
       simp at q
      ·cases h
    ·cases ho
   ·unfold isVar at ho
    split at ho
    ·rename_i t d
     rw[d]at h1;cases h1
    ·cases ho
   ·obtain ⟨z, k, h1, J, M, N, O⟩ := LV I
    exact⟨t,id,z,k,m,d,h1,J,M,N,O⟩
   ·rw [d] at ho
    cases ho
   ·unfold isVar at ho
    split at ho
    ·rename_i t d
     rw[d]at B;exact B.elim
    ·cases ho
def jV(P:Program)(op:Op)(id:Nat)(y:ad)(v:AV)(x:ad):Prop :=
 (∃ t z k m,op=.alloc t∧eJ P t=some z∧k=z.length∧y=.vec k 0 []∧v=.ptr id 1 k 0 0∧x=.vec k 1 [er m z])∨∃ t,op=.makeMap t none∧y=.eo∧v=.map id∧x=.map [] 0
theorem jV.ne{op k:Op}{id q:Nat}{y d x B:ad}{v I:AV}(h:jV P op id y v x)(h':jV P k q d I B):x≠d:=by
 rcases h with⟨_,_,_,_,_,_,_,_,_,rfl⟩|⟨_,_,_,_,rfl⟩<;>rcases h' with⟨_,_,_,_,_,_,_,rfl,_,_⟩|⟨_,_,rfl,_,_⟩<;>intro e<;>cases e
theorem Ey{o:Oper}{s:St}{v:AV}{H':List ad}(ho:eL o.op=true)(h:Yields P pf ops o s v H')(B:bR ops s.fr o=some true→H'.length=s.H.length) :
  (bR ops s.fr o = some false ∧ v = .tuple [] ∧ H' = s.H) ∨
   (bR ops s.fr o=some true∧∃ id y x,jV P o.op id y v x∧s.H[id]? = some y∧H'=s.H.set id x):=by
 cases q:isVar o.op with
 | true =>
  rcases Ma q h B with h|⟨h1,t,id,z,k,m,J,M,O,U,V,W⟩
  ·exact .inl h
  ·exact .inr ⟨h1,id,_,_,.inl ⟨t,z,k,m,J,M,U,rfl,V,rfl⟩,O,W⟩
 | false =>
  have hm:∃ t,o.op=.makeMap t none:=by
   unfold eL at ho;split at ho
   ·rename_i t d
    rw[d]at q;cases q
   ·rename_i t d
    exact⟨t,d⟩
   ·cases ho
  obtain⟨t,d⟩:=hm;unfold Yields at h;cases hw:bR ops s.fr o with
  |none=>rw[hw]at h; exact h.elim
  | some b =>
   rw[hw]at h;cases b with
   |false=>exact .inl ⟨rfl,h.1,h.2⟩
   | true =>
    right;refine⟨rfl,?_⟩;simp only[oz ho]at h;have B:=B hw;rcases h with(h|⟨f,args,h1,_⟩)|(⟨t',id,m,I,q⟩|⟨t',id,I,q⟩)|N
    ·rw [d] at h
     simp only[dt]at h;cases h;simp at B
    ·rw [d] at h1
     cases h1
    ·rw [d] at I
     cases I
    ·obtain ⟨h1, J, M⟩ := D3 q
     exact⟨id,_,_,.inr ⟨t,d,rfl,J,rfl⟩,h1,M⟩
    ·rw [d] at N
     exact N.elim
theorem Mb{o:Oper}{s:St}{t:TypeId}{id k:Nat}{z:List Value}(hw:bR ops s.fr o=some true)(ho:o.op=.alloc t)(d:eJ P t=some z)(hid:s.H[id]? = some (.vec k 0 []))(hk:k=z.length) (m:List (Option (List Kd))) :
  Yields P pf ops o s (.ptr id 1 k 0 0) (s.H.set id (.vec k 1 [er m z])):=by
 unfold Yields;rw[hw,ho];exact .inr (.inl (.inl ⟨t,id,m,rfl,LW m d hid hk⟩))
theorem Ez{o:Oper}{s:St}{id:Nat}{v:AV}{x y:ad}(hw:bR ops s.fr o=some true)(hn:jV P o.op id y v x)(hid:s.H[id]? = some y):Yields P pf ops o s v (s.H.set id x):=by
 rcases hn with⟨t,z,k,m,h1,d,q,rfl,rfl,rfl⟩|⟨t,h1,rfl,rfl,rfl⟩
 ·exact Mb hw h1 d hid q m
 ·unfold Yields
  rw[hw,h1];exact .inr (.inl (.inr ⟨t,id,rfl,Lq hid⟩))
def lY:ad→Bool
 |.aX ..=>false
 |.mm ..=>false
 |_=>true
theorem jV.no{op:Op}{id:Nat}{y x:ad}{v:AV}(h:jV P op id y v x):lY x=true∧lY y=true∧x≠.dead:=by
 rcases h with⟨_,_,_,_,_,_,_,rfl,_,rfl⟩|⟨_,_,rfl,_,rfl⟩
 ·exact⟨rfl,rfl,fun e=>by cases e⟩
 ·exact⟨rfl,rfl,fun e=>by cases e⟩
theorem XU{t:TypeId}{id:Nat}{k:AV}{H:List ad}{x:ad}(h:H[id]? = some x)(d:lY x=true):iW P t (.map id) k H=none∧jS P t (.map id) k H=none:=by
 unfold iW jS;cases dx P t with
 |none=>exact⟨rfl,rfl⟩
 | some p =>
  simp only[h];cases x<;>first|exact⟨rfl,rfl⟩|cases d
theorem XV{t:TypeId}{id a:Nat}{k:AV}{H:List ad}{x:ad}(aA:id≠a)(ha:a<H.length):iW P t (.map id) k (H.set a x)=(iW P t (.map id) k H).map fun p=>(p.1,p.2.set a x):=by
 unfold iW;cases dx P t with
 |none=>rfl
 | some p =>
  simp only[aZ (Ne.symm aA),List.length_set];split
  ·split
   ·split
    ·split
     ·split
      ·simp only [eg]
       rw[Ks _ _ (by simpa using ha),nV _ _ aA]
      ·rfl
     ·simp only [eg]
      rw[Ks _ _ (by simpa using ha),nV _ _ aA]
     ·rfl
    ·rfl
   ·rfl
  ·rfl
theorem XW{t:TypeId}{id a:Nat}{k:AV}{H:List ad}{x:ad}(aA:id≠a):jS P t (.map id) k (H.set a x)=(jS P t (.map id) k H).map fun p=>(p.1,p.2.set a x):=by
 unfold jS;cases dx P t with
 |none=>rfl
 | some p =>
  simp only[aZ (Ne.symm aA)];split
  ·split
   ·split
    ·simp only [eg]
     rw[nV _ _ aA]
    ·rfl
   ·rfl
  ·rfl
theorem XX{t:TypeId}{id a:Nat}{k v:AV}{H H':List ad}(aA:id≠a)(ha:a<H.length)(h:iW P t (.map id) k H=some (v,H')):H'[a]? = H[a]? := by
 unfold iW at h;split at h
 case h_2=>cases h
 rename_i he;cases he;split at h
 case h_2=>cases h
 split at h
 case h_2=>cases h
 split at h
 case h_2=>cases h
 split at h
 ·split at h
  ·cases h
   rw[cT (by simpa using ha),aZ aA]
  ·cases h
 ·cases h
  rw[cT (by simpa using ha),aZ aA]
 ·cases h
theorem XY{t:TypeId}{id a:Nat}{k v:AV}{H H':List ad}(aA:id≠a)(h:jS P t (.map id) k H=some (v,H')):H'[a]? = H[a]? := by
 unfold jS at h;split at h
 case h_2=>cases h
 rename_i he;cases he;split at h
 case h_2=>cases h
 split at h
 case h_2=>cases h
 split at h
 ·cases h
  rw[aZ aA]
 ·cases h
theorem XZ{m s v:AV}{a:Nat}{x y:ad}{H k:List ad}(I:H[a]? = some y)(J:lY x=true∧lY y=true∧x≠.dead)(h:kX m s v (H.set a x)=some k)(hk:k[a]? = some x) :
  ∃ H1,kX m s v H=some H1∧k=H1.set a x∧H1[a]? = some y:=by
 have B:=aK I;unfold kX at h⊢;split at h
 case h_2=>cases h
 rename_i id st w j ae off n;have aA:id≠a:=fun e=>by
  subst e;rw[bC B]at h;obtain⟨h1,_⟩:=J;cases x<;>first|cases h|cases h1
 rw[aZ (Ne.symm aA)]at h;split at h
 case h_2=>cases h
 rename_i l w' es cl U O rows g1 g2;split at h
 case isFalse=>cases h
 rename_i N;split at h
 case h_2=>cases h
 rename_i i hi;split at h
 case h_2=>cases h
 rename_i key q bn hb;split at h
 case h_2=>cases h
 rename_i M;cases h;have d:j≠a:=fun e=>by
  subst e;rw[bC (by simpa using B)]at hk;exact J.2.2 (gY hk).symm
 rw[aZ (Ne.symm d)]at g2;rw[g1,g2];simp only[if_pos N,hi,hb,M];refine⟨_,rfl,?_,?_⟩
 ·rw[nV _ _ (Ne.symm aA),nV _ _ (Ne.symm d)]
 ·rw[aZ d,aZ aA,I]
theorem X5{m s v:AV}{a:Nat}{x y:ad}{H k:List ad}(B:H[a]? = some y)(I:lY x=true∧lY y=true∧x≠.dead)(h:lW m s v (H.set a x)=some k)(hk:k[a]? = some x) :
  ∃ H1,lW m s v H=some H1∧k=H1.set a x∧H1[a]? = some y:=by
 have q:=aK B;unfold lW at h⊢;split at h
 case h_2=>cases h
 rename_i id st j;have aA:id≠a:=fun e=>by
  subst e;rw[bC q]at h;obtain⟨h1,_⟩:=I;cases x<;>first|cases h|cases h1
 rw[aZ (Ne.symm aA)]at h;split at h
 case h_2=>cases h
 rename_i l es ms cl J M g1 g2;split at h
 case h_2=>cases h
 rename_i i hi;split at h
 case h_2=>cases h
 rename_i key bn hb;cases h;have d:j≠a:=fun e=>by
  subst e;rw[bC (by simpa using q)]at hk;exact I.2.2 (gY hk).symm
 rw[aZ (Ne.symm d)]at g2;rw[g1,g2];simp only[hi,hb];refine⟨_,rfl,?_,?_⟩
 ·rw[nV _ _ (Ne.symm aA),nV _ _ (Ne.symm d)]
 ·rw[aZ d,aZ aA,B]
theorem X6{m s v:AV}{a:Nat}{x y:ad}{H:List ad}(d:H[a]? = some y)(k:lY x=true∧lY y=true∧x≠.dead){H2:List ad}(hm:lW m s v H=some H2):kX m s v H=none:=by
 unfold lW at hm;split at hm
 case h_2=>cases hm
 rfl
theorem X8{op:Op}(J:jz op=true){r:Operand→AV}{H M:List ad}{a:Nat}{x y:ad}{u:AV}(d:H[a]? = some y)(q:lY x=true∧lY y=true∧x≠.dead)(h:dt P r (H.set a x) op=some (u,M))(hk:M[a]? = some x) :
  ∃ H1,dt P r H op=some (u,H1)∧M=H1.set a x∧H1[a]? = some y:=by
 have B:=aK d;unfold jz at J;split at J
 ·rename_i t m k
  simp only[dt]at h⊢;cases hm:r m with
  | map id =>
   rw[hm]at h;by_cases aA:id=a
   ·subst aA
    obtain⟨U,V⟩:=XU (P:=P) (t:=t) (k:=r k) (bC (a:=x) B) q.1;rw[U,V]at h;cases h
   ·rw [XV aA B, XW aA] at h
    cases he:iW P t (.map id) (r k) H with
    | some p =>
     rw[he]at h;simp only[eg]at h;obtain⟨p1,N⟩:=p;cases h;exact⟨N,rfl,rfl,by rw[XX aA B he,d]⟩
    | none =>
     rw[he]at h;simp only[Option.map_none]at h;cases I:jS P t (.map id) (r k) H with
     | some p =>
      rw[I]at h;simp only[eg]at h;obtain⟨p1,N⟩:=p;cases h;exact⟨N,rfl,rfl,by rw[XY aA I,d]⟩
     | none =>
      rw[I]at h;cases h
  | _ =>
   rw[hm]at h;unfold iW jS at h;cases O:dx P t with
   |none=>rw[O]at h; cases h
   |some p=>rw[O]at h; cases h
 ·rename_i t m s v
  simp only[dt]at h⊢;cases he:kX (r m) (r s) (r v) (H.set a x)with
  | some H2 =>
   rw[he]at h;cases h;obtain⟨H1,g1,g2,g3⟩:=XZ d q he hk;rw[g1];exact⟨H1,rfl,g2,g3⟩
  | none =>
   rw[he]at h;cases hm:lW (r m) (r s) (r v) (H.set a x)with
   |none=>rw[hm]at h; cases h
   | some H2 =>
    rw[hm]at h;cases h;obtain⟨H1,g1,g2,g3⟩:=X5 d q hm hk;rw[X6 d q g1,g1];exact⟨H1,rfl,g2,g3⟩
 ·cases J
theorem X9{o:Oper}{s:St}{u:AV}{B:List ad}(k:jz o.op=true)(h:Yields P pf ops o s u B)(hw:bR ops s.fr o=some true):dt P s.eval s.H o.op=some (u,B):=by
 unfold Yields at h;simp only[hw,L_ k]at h;rcases h with(h|⟨f,args,h1,_⟩)|(⟨t,id,m,d,_⟩|⟨t,id,d,_⟩)|q
 ·exact h
 ·unfold jz at k
  split at k
  ·rename_i d
   rw[d]at h1;cases h1
  ·rename_i d
   rw[d]at h1;cases h1
  ·cases k
 ·rw [d] at k
  cases k
 ·rw [d] at k
  cases k
 ·unfold jz at k
  split at k
  ·rename_i d
   rw[d]at q;exact q.elim
  ·rename_i d
   rw[d]at q;exact q.elim
  ·cases k
theorem X_{R:jU}{W:iZ}{i j:Nat}{I q:Oper}{s:St}{v u:AV}{O d:List ad}(h1:I.apart ops q=true)(h2:q.apart ops I=true)(hc:Ex pf ops R W i I j q)
  (hi:Yields P pf ops I s v O) (si:Step P pf ops R W i I s v O) (U:Yields P pf ops q (s.put I.dst v O) u d) (sj:Step P pf ops R W j q (s.put I.dst v O) u d) :
  ∃ Hj1,Yields P pf ops q s u Hj1∧Step P pf ops R W j q s u Hj1∧Yields P pf ops I (s.put q.dst u Hj1) v d∧Step P pf ops R W i I (s.put q.dst u Hj1) v d:=by
 obtain⟨a1,a2,a3⟩:=Kp h1;have wj:bR ops (s.put I.dst v O).fr q=bR ops s.fr q:=zT a1;have wi:∀ H2,bR ops (s.put q.dst u H2).fr I=bR ops s.fr I:=fun H2=>zT a3;have ej:∀ x∈q.op.operands,(s.put I.dst v O).eval x=s.eval x:=fun x hx=>eval_put a1 hx;have ei:∀ H2,∀ x∈I.op.operands,(s.put q.dst u H2).eval x=s.eval x:=fun H2 x hx=>eval_put a3 hx;have cj:=L9 q.op ej;have ci:=fun H2=>L9 I.op (ei H2);have evj:=LR (P:=P) (H:=O) q.op ej;have readJ:cW pf q.op=.read→Step P pf ops R W j q s u s.H:=fun hr=>⟨fun hw=>(by rw[hr]at hw; cases hw),fun _ hw id hid=>sj.2.1 hr (by rw[wj]; exact hw) id (by rw[cj]; exact hid),zZ (by rw[hr]; simp),fun _ _ hw=>(by rw[hr]at hw; cases hw)⟩
 have readI:cW pf I.op=.read→∀ H2 H3,Step P pf ops R W i I (s.put q.dst u H2) v H3:=fun hr H2 H3=>⟨fun hw=>(by rw[hr]at hw; cases hw),fun _ hw id hid=>si.2.1 hr (by rw[wi]at hw; exact hw) id (by rw[ci]at hid; exact hid),zZ (by rw[hr]; simp),fun _ _ hw=>(by rw[hr]at hw; cases hw)⟩
 have frj:∀{H2 H3:List ad} {v':AV},Yields P pf ops q ⟨(s.put I.dst v O).fr,H2⟩ v' H3→Yields P pf ops q ⟨s.fr,H2⟩ v' H3:=fun {H2 _ _} h=>(fS (s1:=⟨(s.put I.dst v O).fr,H2⟩) (s:=⟨s.fr,H2⟩) wj (fun x hx=>by
  have:=ej x hx;cases x<;>exact this) rfl).1 h
 have fri:∀{H1 H2 H3:List ad} {v':AV},Yields P pf ops I ⟨s.fr,H2⟩ v' H3→Yields P pf ops I ⟨(s.put q.dst u H1).fr,H2⟩ v' H3:=fun {H1 H2 _ _} h=>(fS (s1:=⟨(s.put q.dst u H1).fr,H2⟩) (s:=⟨s.fr,H2⟩) (wi H1) (fun x hx=>by
  have:=ei H1 x hx;cases x<;>exact this) rfl).2 h
 have toJ:O=s.H→Step P pf ops R W j q s u d:=by
  intro e;subst e;exact⟨fun hw A V=>sj.1 hw A V,fun hr hw id hid=>sj.2.1 hr (by rw[wj]; exact hw) id (by rw[cj]; exact hid),fun ha ht hw=>sj.2.2.1 ha ht (by rw[wj]; exact hw),
   fun N hca hw hwa σ hσ=>frj (sj.2.2.2 N hca hw (by rw[wj]; exact hwa) σ hσ)⟩
 have toI:d=O→Step P pf ops R W i I (s.put q.dst u s.H) v d:=by
  intro e;subst e;exact⟨fun hw A V=>si.1 hw A V,fun hr hw id hid=>si.2.1 hr (by rw[wi]at hw; exact hw) id (by rw[ci]at hid; exact hid),fun ha ht hw=>si.2.2.1 ha ht (by rw[wi]at hw; exact hw),
   fun N hca hw hwa σ hσ=>fri (si.2.2.2 N hca hw (by rw[wi]at hwa; exact hwa) σ hσ)⟩
 have old:ow pf I q=true→∃ Hj1,Yields P pf ops q s u Hj1∧Yields P pf ops I (s.put q.dst u Hj1) v d:=fun hc=>LX h1 h2 hc hi U;cases J:cW pf I.op with
 | pure =>
  obtain⟨e1,g1⟩:=vT J hi;subst e1;refine⟨d,(fS wj ej rfl).1 U,toJ rfl,
   (fS (s1:=s.put q.dst u d) (s:=⟨s.fr,d⟩) (wi d) (fun x hx=>by rw[ei d x hx]; cases x<;>rfl) rfl).2 (g1 d),⟨fun hw=>(by rw[J]at hw; cases hw),fun hr=>(by rw[J]at hr; cases hr),zZ (by rw[J]; simp),fun _ _ hw=>(by rw[J]at hw; cases hw)⟩⟩
 | read =>
  have e1:=rm J hi;subst e1;have hj':=(fS wj ej rfl).1 U;refine⟨d,hj',toJ rfl,?_,readI J _ _⟩;have key:∀ H2:List ad,St.eval ⟨s.fr,H2⟩=s.eval:=fun H2=>by funext x; cases x<;>rfl
  have same:bR ops s.fr I=some true→fi P s.eval d I.op=fi P s.eval s.H I.op:=by
   intro hw;cases M:cW pf q.op with
   | pure =>
    have:=(vT M hj').1;rw[this]
   | read =>
    have:=rm M hj';rw[this]
   | write =>
    rcases hc with hc|⟨_,_,hap⟩|⟨hw',_,_⟩|⟨hw',_,_⟩|⟨hw',_⟩|⟨hw',_⟩
    ·obtain ⟨Hj1, q1, q2⟩ := old hc
     have q3:=(fS (s1:=s.put q.dst u Hj1) (s:=⟨s.fr,Hj1⟩) (wi Hj1) (fun x hx=>by rw[ei Hj1 x hx]; cases x<;>rfl) rfl).1 q2;have e2:d=Hj1:=rm J q3;subst e2;unfold Yields at q3 hi;simp only[J,hw]at q3 hi;rw[key]at q3;rw[q3.2,hi.2]
    ·exact L8 fun id hid=>sj.1 M id (hap id (si.2.1 J hw id hid))
    ·rw [J] at hw'
     cases hw'
    ·rw [oz hw'] at J
     cases J
    ·rw [J] at hw'
     cases hw'
    ·rw [oz hw'] at J
     cases J
  refine(fS (s1:=s.put q.dst u d) (s:=⟨s.fr,d⟩) (wi d) (fun x hx=>by rw[ei d x hx]; cases x<;>rfl) rfl).2 ?_;unfold Yields at hi⊢;simp only[J]at hi⊢;cases hw:bR ops s.fr I with
  |none=>rw[hw]at hi; exact hi.elim
  | some b =>
   rw[hw]at hi;cases b with
   |false=>exact⟨hi.1,by simp⟩
   | true =>
    refine⟨by simp,?_⟩;rw[key,same hw];exact hi.2
 | write =>
  cases M:cW pf q.op with
  | pure =>
   obtain⟨e1,g1⟩:=vT M U;have e1':d=O:=e1;subst e1';refine⟨s.H,?_,⟨fun hw=>(by rw[M]at hw; cases hw),fun hr=>(by rw[M]at hr; cases hr),zZ (by rw[M]; simp),fun _ _ hw=>(by rw[M]at hw; cases hw)⟩,(fS (s1:=s.put q.dst u s.H) (s:=s) (wi s.H) (ei s.H) rfl).2 hi,toI rfl⟩;exact(fS (s1:=⟨(s.put I.dst v d).fr,s.H⟩) (s:=s) wj (fun x hx=>by
    have:=ej x hx;cases x<;>exact this) rfl).1 (g1 s.H)
  | read =>
   have e2:=rm M U;have e2':d=O:=e2;subst e2';refine⟨s.H,?_,readJ M,(fS (s1:=s.put q.dst u s.H) (s:=s) (wi s.H) (ei s.H) rfl).2 hi,toI rfl⟩;have same:bR ops s.fr q=some true→fi P s.eval d q.op=fi P s.eval s.H q.op:=by
    intro hw;rcases hc with hc|⟨hr',_,_⟩|⟨_,_,hap⟩|⟨_,hr',_⟩|⟨_,_,hr',_⟩|⟨_,hr',_⟩
    ·unfold ow at hc
     rw[J,M]at hc;cases hc
    ·rw [J] at hr'
     cases hr'
    ·exact L8 fun id hid=>si.1 J id (hap id (sj.2.1 M (by rw[wj]; exact hw) id (by rw[cj]; exact hid)))
    ·rw [oz hr'] at M
     cases M
    ·rw [oz (tn hr')] at M
     cases M
    ·rw [L_ hr'] at M
     cases M
   unfold Yields at U⊢;simp only[M]at U⊢;rw[wj]at U;cases hw:bR ops s.fr q with
   |none=>rw[hw]at U; exact U.elim
   | some b =>
    rw[hw]at U;cases b with
    |false=>exact⟨U.1,by simp⟩
    | true =>
     refine⟨by simp,?_⟩;rw[←same hw,←evj];exact U.2
  | write =>
   rcases hc with hc|⟨hr',_,_⟩|⟨_,hr',_⟩|⟨hai,haj,htw⟩|⟨_,hvi,haj,hca,hap⟩|⟨hai,hqj,htw,hap⟩
   ·unfold ow at hc
    rw[J,M]at hc;cases hc
   ·rw [J] at hr'
    cases hr'
   ·rw [M] at hr'
    cases hr'
   ·-- two allocations, each in its own place
    have ck:∀{f:Option Bool},f=some true→f=some false→False:=fun h1 h2=>by rw[h1]at h2; cases h2
    rcases Ey hai hi (fun hw=>(si.2.2.1 hai htw hw).1)with⟨wi',rfl,e1⟩|⟨wi',idi,yi,xi,ni,z2,e1⟩
    ·subst e1
     refine⟨d,(fS wj ej rfl).1 U,toJ rfl,?_,⟨fun _ A _=>rfl,fun hr=>(by rw[J]at hr; cases hr),fun _ _ _=>⟨rfl,fun _ h=>(h rfl).elim⟩,fun N=>(by rw[mY hai]at N; cases N)⟩⟩;unfold Yields;rw[wi,wi'];exact⟨rfl,rfl⟩
    ·rcases Ey haj U (fun hw => (sj.2.2.1 haj htw hw).1) with ⟨wj', rfl, e2⟩ | ⟨wj', B, yj, xj, nj, y2, e2⟩
     ·have e2' : d = O := e2
      subst e2';refine⟨s.H,?_,⟨fun _ A _=>rfl,fun hr=>(by rw[M]at hr; cases hr),fun _ _ _=>⟨rfl,fun _ h=>(h rfl).elim⟩,fun N=>(by rw[mY haj]at N; cases N)⟩,(fS (s1:=s.put q.dst (.tuple []) s.H) (s:=s) (wi s.H) (ei s.H) rfl).2 hi,toI rfl⟩;unfold Yields;rw[wj]at wj';rw[wj'];exact⟨rfl,rfl⟩
     ·have e2' : d = O.set B xj := e2
      have y2':O[B]? = some yj:=y2;have aA:B≠idi:=by
       intro e;subst e;rw[e1,bC (aK z2)]at y2';exact jV.ne ni nj (gY y2')
      have y2s:s.H[B]? = some yj:=by rw[e1,aZ (Ne.symm aA)]at y2'; exact y2'
      have wjs:bR ops s.fr q=some true:=by rw[←wj]; exact wj'
      have hjj:∀ A,kept W j A→A≠B:=by
       intro A V e;subst e;have h:=sj.1 M A V;have h':d[A]? = O[A]? := h;rw[e2',bC (aK y2'),y2']at h';exact jV.ne nj nj (gY h')
      have hii:∀ A,kept W i A→A≠idi:=by
       intro A V e;subst e;have h:=si.1 J A V;rw[e1,bC (aK z2),z2]at h;exact jV.ne ni ni (gY h)
      have hcomm:d=(s.H.set B xj).set idi xi:=by rw[e2',e1,nV _ _ (Ne.symm aA)]
      refine⟨s.H.set B xj,Ez wjs nj y2s,⟨fun _ A V=>aZ (Ne.symm (hjj A V)),fun hr=>(by rw[M]at hr; cases hr),fun _ _ _=>⟨by simp,fun id aA=>?_⟩,fun N=>(by rw[mY haj]at N; cases N)⟩,?_,
       ⟨fun _ A V=>?_,fun hr=>(by rw[J]at hr; cases hr),fun _ _ _=>⟨?_,fun id aA=>?_⟩,fun N=>(by rw[mY hai]at N; cases N)⟩⟩
      ·have e : id = B := De fun e => aA (aZ (Ne.symm e))
       subst e;refine(sj.2.2.1 haj htw wj').2 id ?_;show d[id]? ≠ O[id]?
       rw[e2',bC (aK y2'),y2'];exact fun e=>jV.ne nj nj (gY e)
      ·rw [hcomm]
       refine Ez (s:=s.put q.dst u (s.H.set B xj)) (by rw[wi]; exact wi') ni ?_;show (s.H.set B _)[idi]? = _
       rw[aZ aA];exact z2
      ·show d[A]? = (s.H.set B _)[A]?
       rw[hcomm,aZ (Ne.symm (hii A V))]
      ·show d.length = (s.H.set B _).length
       rw[hcomm];simp
      ·have e:id=idi:=De fun e=>aA (by
        show d[id]? = (s.H.set B _)[id]?
        rw[hcomm,aZ (Ne.symm e)])
       subst e;refine(si.2.2.1 hai htw wi').2 id ?_;rw[e1,bC (aK z2),z2];exact fun e=>jV.ne ni ni (gY e)
   ·-- a call, and an allocation in a place that it does not touch
    have hih:oy ops=true:=by
     unfold oy;rw[hca];simp
    rcases Ma haj U (fun hw=>(sj.2.2.1 (tn haj) hih hw).1)with⟨wj',rfl,e2⟩|⟨wj',tj,B,zj,kj,mj,oj',y1,y2,y3,rfl,e2⟩
    ·have e2' : d = O := e2
     subst e2';refine⟨s.H,?_,⟨fun _ A _=>rfl,fun hr=>(by rw[M]at hr; cases hr),fun _ _ _=>⟨rfl,fun _ h=>(h rfl).elim⟩,fun N=>(by rw[mY (tn haj)]at N; cases N)⟩,(fS (s1:=s.put q.dst (.tuple []) s.H) (s:=s) (wi s.H) (ei s.H) rfl).2 hi,toI rfl⟩;unfold Yields;rw[wj]at wj';rw[wj'];exact⟨rfl,rfl⟩
    ·have e2' : d = O.set B (.vec kj 1 [er mj zj]) := e2
     have y2':O[B]? = some (.vec kj 0 []):=y2;obtain⟨e,he,hej,hid⟩:=(sj.2.2.1 (tn haj) hih wj').2 B (by
      show d[B]? ≠ O[B]?
      rw[e2',bC (aK y2'),y2'];simp)
     have hk:=hap e he hej B hid;have y2s:s.H[B]? = some (.vec kj 0 []):=by rw[←si.1 J B hk]; exact y2'
     have wjs:bR ops s.fr q=some true:=by rw[←wj]; exact wj'
     have hjj:∀ A,kept W j A→A≠B:=by
      intro A V e;subst e;have h:=sj.1 M A V;have h':d[A]? = O[A]? := h;rw[e2',bC (aK y2'),y2']at h';simp at h'
     have hfill:z_ W i s.H [(B,.vec kj 1 [er mj zj])]:=by
      intro p hp;rw[List.mem_singleton.1 hp];exact⟨hk,kj,_,y2s,rfl⟩
     have hcall:Yields P pf ops I ⟨s.fr,s.H.set B (.vec kj 1 [er mj zj])⟩ v d∧(bR ops s.fr I=some true→∀ σ,z_ W i (s.H.set B (.vec kj 1 [er mj zj])) σ→Yields P pf ops I ⟨s.fr,oA σ (s.H.set B (.vec kj 1 [er mj zj]))⟩ v (oA σ d)):=by
      cases hw:bR ops s.fr I with
      | none =>
       unfold Yields at hi;rw[hw]at hi;exact hi.elim
      | some b =>
       cases b with
       | false =>
        refine⟨?_,fun h=>by cases h⟩;unfold Yields at hi⊢;rw[hw]at hi;rw[show bR ops (St.mk s.fr (s.H.set B (.vec kj 1 [er mj zj]))).fr I=some false from hw];refine⟨hi.1,?_⟩;show d=s.H.set B _
        rw[e2',hi.2]
       | true =>
        have h4:=si.2.2.2 hvi hca J hw;refine⟨?_,fun _ σ hσ=>?_⟩
        ·have := h4 _ hfill
         rw[e2'];exact this
        ·have:=h4 ((B,.vec kj 1 [er mj zj])::σ) (by
          intro p hp;rcases List.mem_cons.1 hp with rfl|hp
          ·exact hfill _ cU
          ·obtain ⟨a2, k, r, a3, a4⟩ := hσ p hp
           refine⟨a2,k,r,?_,a4⟩;have aA:p.1≠B:=fun e=>by
            rw[e,bC (aK y2s)]at a3;simp at a3
           rwa [aZ (Ne.symm aA)]at a3)
         rw[e2'];exact this
     refine⟨s.H.set B (.vec kj 1 [er mj zj]),Mb wjs oj' y1 y2s y3 mj,⟨fun _ A V=>aZ (Ne.symm (hjj A V)),fun hr=>(by rw[M]at hr; cases hr),fun _ _ _=>⟨by simp,fun id aA=>?_⟩,fun N=>(by rw[mY (tn haj)]at N; cases N)⟩,fri (H1:=s.H.set B (.vec kj 1 [er mj zj])) hcall.1,
      ⟨fun _ A V=>?_,fun hr=>(by rw[J]at hr; cases hr),fun ha=>(by rw[mY ha]at hvi; cases hvi),fun _ _ _ hwa σ hσ=>fri (H1:=s.H.set B (.vec kj 1 [er mj zj])) (hcall.2 (by rw[wi]at hwa; exact hwa) σ hσ)⟩⟩
     ·have e : id = B := De fun e => aA (aZ (Ne.symm e))
      subst e;exact⟨_,he,hej,hid⟩
     ·show d[A]? = (s.H.set B _)[A]?
      have h1:O[A]? = s.H[A]? := si.1 J A V;by_cases e:A=B
      ·subst e
       rw[e2',bC (aK y2'),bC (aK y2s)]
      ·rw[e2',aZ (Ne.symm e),aZ (Ne.symm e),h1]
   ·-- an allocation in its place, and an operation that does not touch it
    rcases Ey hai hi (fun hw=>(si.2.2.1 hai htw hw).1)with⟨wi',rfl,e1⟩|⟨wi',idi,yi,xi,ni,z2,e1⟩
    ·subst e1
     refine⟨d,(fS wj ej rfl).1 U,toJ rfl,?_,⟨fun _ A _=>rfl,fun hr=>(by rw[J]at hr; cases hr),fun _ _ _=>⟨rfl,fun _ h=>(h rfl).elim⟩,fun N=>(by rw[mY hai]at N; cases N)⟩⟩;unfold Yields;rw[wi,wi'];exact⟨rfl,rfl⟩
    ·have hii:∀ A,kept W i A→A≠idi:=by
      intro A V e;subst e;have h:=si.1 J A V;rw[e1,bC (aK z2),z2]at h;exact jV.ne ni ni (gY h)
     obtain⟨e,he,hei,hid⟩:=(si.2.2.1 hai htw wi').2 idi (by
      rw[e1,bC (aK z2),z2];exact fun e=>jV.ne ni ni (gY e))
     have hk:kept W j idi:=hap e he hei idi hid;have hHi:O[idi]? = some xi:=by rw[e1,bC (aK z2)]
     have hjk:d[idi]? = some xi:=by rw[sj.1 M idi hk]; exact hHi
     have hback:∃ H1,Yields P pf ops q s u H1∧d=H1.set idi xi∧H1[idi]? = some yi:=by
      cases hw:bR ops s.fr q with
      | none =>
       unfold Yields at U;rw[wj,hw]at U;exact U.elim
      | some b =>
       cases b with
       | false =>
        unfold Yields at U;rw[wj,hw]at U;refine⟨s.H,?_,?_,z2⟩
        ·unfold Yields
         rw[hw];exact⟨U.1,rfl⟩
        ·rw [U.2]
         exact e1
       | true =>
        have h1:=X9 hqj U (by rw[wj]; exact hw);have h2:dt P s.eval (s.H.set idi xi) q.op=some (u,d):=by
         rw[←e1];have:=LS (P:=P) (H:=O) q.op ej;rw[←this];exact h1
        obtain⟨H1,g1,g2,g3⟩:=X8 hqj z2 ni.no h2 hjk;refine⟨H1,?_,g2,g3⟩;unfold Yields;simp only[hw,M];exact .inl (.inl g1)
     obtain⟨H1,q1,q2,q3⟩:=hback;refine⟨H1,q1,⟨fun _ A V=>?_,fun hr=>(by rw[M]at hr; cases hr),fun ha=>(by rw[XR hqj]at ha; cases ha),fun N=>(by rw[XT hqj]at N; cases N)⟩,?_,⟨fun _ A V=>?_,fun hr=>(by rw[J]at hr; cases hr),fun _ _ _=>⟨?_,fun id aA=>?_⟩,fun N=>(by rw[mY hai]at N; cases N)⟩⟩
     ·by_cases hA2 : A = idi
      ·rw[hA2,q3,z2]
      ·have h3 : d[A]? = O[A]? := sj.1 M A V
       rw[q2,aZ (Ne.symm hA2),e1,aZ (Ne.symm hA2)]at h3;exact h3
     ·rw [q2]
      exact Ez (s:=s.put q.dst u H1) (by rw[wi]; exact wi') ni q3
     ·show d[A]? = H1[A]?
      rw[q2,aZ (Ne.symm (hii A V))]
     ·show d.length = H1.length
      rw[q2];simp
     ·have e2:id=idi:=De fun e2=>aA (by
       show d[id]? = H1[id]?
       rw[q2,aZ (Ne.symm e2)])
      subst e2;exact⟨e,he,hei,hid⟩
def vW(P:Program)(pf:FuncId→Bool)(ops:Array Oper)(R:jU)(W:iZ)(i:Nat)(K:St→Prop)(s:St):Prop :=
 match ops[i]? with
 |none=>K s
 |some o=>∃ v H',Yields P pf ops o s v H'∧Step P pf ops R W i o s v H'∧K (s.put o.dst v H')
def vX(P:Program)(pf:FuncId→Bool)(ops:Array Oper)(R:jU)(W:iZ)(s':St):Nat→Array Bool→St→Prop
 |0,listed,s=>lM .any ops listed=[]∧s=s'
 |fuel+1,listed,s=>(lM .any ops listed=[]→s=s')∧∀ i∈lM .any ops listed,vW P pf ops R W i (vX P pf ops R W s' fuel (listed.setIfInBounds i true)) s
theorem EA{R:jU}{W:iZ}{s':St}:∀(fuel:Nat) (listed:Array Bool) (s:St),vX P pf ops R W s' fuel listed s→tc P pf ops s' fuel listed s
 |0,_,_,h=>h
 | fuel+1,listed,s,h=>by
  refine⟨h.1,fun i hi=>?_⟩;have h1:=h.2 i hi;unfold vW at h1;unfold tb;cases ho:ops[i]? with
  |none=>rw[ho]at h1; exact EA fuel _ _ h1
  | some o =>
   rw[ho]at h1;obtain⟨v,H',g1,_,g2⟩:=h1;exact⟨v,H',g1,EA fuel _ _ g2⟩
theorem Ya{R:jU}{W:iZ}{s':St}{i:Nat}{q:Oper}(hi:ops[i]? = some q):∀(fuel:Nat) (listed:Array Bool) (s:St) (v:AV) (H':List ad),rq ops listed →
  (∀ j B,ops[j]? = some B→j≠i→listed.getD j true=false→waits ops ops.size j i=false→q.apart ops B=true∧B.apart ops q=true∧Ex pf ops R W i q j B) →
  i∈lM .any ops listed→Yields P pf ops q s v H'→Step P pf ops R W i q s v H'→vX P pf ops R W s' fuel (listed.setIfInBounds i true) (s.put q.dst v H')→vX P pf ops R W s' (fuel+1) listed s:=by
 intro fuel
 induction fuel with
 | zero =>
  intro listed s v H' _ _ hr M J H;refine⟨fun h=>(by rw[h]at hr; cases hr),fun j I=>?_⟩;by_cases d:j=i
  ·subst d
   unfold vW;simp only[hi];exact⟨v,H',M,J,H⟩
  ·have := ready_mono I d
   rw[H.1]at this;cases this
 | succ fuel ih =>
  intro listed s v H' V O hr M J H;refine⟨fun h=>(by rw[h]at hr; cases hr),fun j I=>?_⟩;by_cases d:j=i
  ·subst d
   unfold vW;simp only[hi];exact⟨v,H',M,J,H⟩
  ·have h1 := H.2 j (ready_mono I d)
   obtain⟨U,B,hoj,hall⟩:=mem_ready.1 I;unfold vW at h1⊢;simp only[hoj]at h1⊢;obtain⟨u,Hj,hyj,hsj,hrest⟩:=h1;have hnw:waits ops ops.size j i=false:=by
    cases hw:waits ops ops.size j i with
    |false=>rfl
    | true =>
     have:=Em V _ _ _ (En I) hw;rw[LZ hr]at this;cases this
   obtain⟨a1,a2,a3⟩:=O j B hoj d U hnw;obtain⟨N,q1,q2,q3,q4⟩:=X_ a1 a2 a3 M J hyj hsj;refine⟨u,N,q1,q2,?_⟩;refine ih (listed.setIfInBounds j true) (s.put B.dst u N) v Hj (zU V I) ?_ (ready_mono hr (Ne.symm d)) q3 q4 ?_
   ·intro k ok hk hki hun hno
    refine O k ok hk hki ?_ hno;by_cases hjk:j=k
    ·subst hjk; exact U
    ·rw[getD_set_ne true hjk]at hun; exact hun
   ·rw [alY _ _ d]
    have:=LY s q.dst B.dst v u H' Hj N (Kp a1).2.1;rw[←this];exact hrest
def tq(P:Program)(pf:FuncId→Bool)(ops:Array Oper)(R:jU)(W:iZ):List Oper→Nat→St→St→Prop
 | [],_,s,s'=>s=s'
 |o::l,j,s,s'=>∃ v H',Yields P pf ops o s v H'∧Step P pf ops R W j o s v H'∧tq P pf ops R W l (j+1) (s.put o.dst v H') s'
def EB(pf:FuncId→Bool)(x y:Oper):Bool :=
 ow pf x y||((match cW pf x.op,cW pf y.op with
  |.read,.write=>true
  |.write,.read=>true
  |_,_=>false)||((eL x.op&&eL y.op)||((match cW pf x.op with
  |.write=>k8 x.op&&isVar y.op
  |_=>false)||(eL x.op&&jz y.op))))
theorem Yb{i j:Nat}{x y:Oper}(hi:ops[i]? = some x)(d:ops[j]? = some y)(k:i<j)(hw:waits ops ops.size j i=false)(q:eL x.op=true)(B:eL y.op=true):Ev ops=true:=by
 unfold Ev;refine iQ.2 ⟨j,fG.2 (gV.1 d).1,iQ.2 ⟨i,fG.2 k,?_⟩⟩;rw[hi,d];simp[q,B,hw]
theorem Yc{i j:Nat}{x y:Oper}(hi:ops[i]? = some x)(d:ops[j]? = some y)(k:i<j)(hw:waits ops ops.size j i=false)(q:eL x.op=true)(B:jz y.op=true):Ew ops=true:=by
 unfold Ew;refine iQ.2 ⟨j,fG.2 (gV.1 d).1,iQ.2 ⟨i,fG.2 k,?_⟩⟩;rw[hi,d];simp[q,B,hw]
theorem Yd{i j:Nat}{x y:Oper}(hi:ops[i]? = some x)(d:ops[j]? = some y)(k:i<j)(hw:waits ops ops.size j i=false)(q:k8 x.op=true)(B:isVar y.op=true):pJ ops=true:=by
 unfold pJ;refine iQ.2 ⟨j,fG.2 (gV.1 d).1,iQ.2 ⟨i,fG.2 k,?_⟩⟩;rw[hi,d];simp[q,B,hw]
def tu(pf:FuncId→Bool)(ops:Array Oper):Bool :=
  alX ops &&
  (dI ops.size).all fun j=>(match ops[j]? with
    | some d=>(d.after.toList.all fun e => !Ko .any e||e.on<j) &&
      ((dI j).all fun i => match ops[i]? with
        |some k=>waits ops ops.size j i||(k.apart ops d&&d.apart ops k&&EB pf k d)
        |none=>true)
    |none=>true)
def tv(ops:Array Oper)(R:jU)(W:iZ):Prop:=(∀ i id,(i,id)∈R→∀ e∈W,(i<e.1→waits ops ops.size e.1 i=false→id∉e.2.1∧id<e.2.2)∧(e.1<i→waits ops ops.size i e.1=false→id∉e.2.1∧id<e.2.2)) ∧
 (∀ e∈W,∀ e'∈W,e.1<e'.1→waits ops ops.size e'.1 e.1=false→∀ id∈e'.2.1,id∉e.2.1∧id<e.2.2) ∧
 ∀ e∈W,∀ e'∈W,e.1<e'.1→waits ops ops.size e'.1 e.1=false→∀ id∈e.2.1,id<e'.2.2
theorem Ye{R:jU}{W:iZ}(hF:tv ops R W){i j:Nat}{x y:Oper}(hi:ops[i]? = some x)(q:ops[j]? = some y)(k:i<j)(hw:waits ops ops.size j i=false)(d:EB pf x y=true):Ex pf ops R W i x j y:=by
 unfold EB at d;simp only[vp]at d;rcases d with d|d|d|d|d
 ·exact .inl d
 ·split at d
  ·rename_i h1 M
   refine .inr (.inl ⟨h1,M,fun id hid e he q=>?_⟩);subst q;exact(hF.1 i id hid e he).1 k hw
  ·rename_i h1 M
   refine .inr (.inr (.inl ⟨h1,M,fun id hid e he q=>?_⟩));subst q;exact(hF.1 j id hid e he).2 k hw
  ·cases d
 ·simp only [az] at d
  refine .inr (.inr (.inr (.inl ⟨d.1,d.2,?_⟩)));unfold oy;rw[Yb hi q k hw d.1 d.2];rfl
 ·split at d
  ·rename_i h1
   simp only[az]at d;refine .inr (.inr (.inr (.inr (.inl ⟨h1,d.1,d.2,Yd hi q k hw d.1 d.2,fun e he I id hid e' B J=>?_⟩))));subst I J;exact hF.2.1 e' B e he k hw id hid
  ·cases d
 ·simp only [az] at d
  refine .inr (.inr (.inr (.inr (.inr ⟨d.1,d.2,?_,fun e he J id hid e' B I=>?_⟩))))
  ·unfold oy
   rw[Yc hi q k hw d.1 d.2];simp
  ·subst J I
   exact⟨fun hm=>(hF.2.1 e he e' B k hw id hm).1 hid,hF.2.2 e he e' B k hw id hid⟩
theorem Mc{R:jU}{W:iZ}{s':St}(V:tu pf ops=true)(hF:tv ops R W):∀(l:List Oper) (k:Nat) (listed:Array Bool) (s:St),l=ops.toList.drop k→rq ops listed→listed.size=ops.size →
  (∀ j,j<ops.size→(listed.getD j true=false↔k≤j))→tq P pf ops R W l k s s'→vX P pf ops R W s' l.length listed s
 | [],k,listed,s,I,_,N,hk,h=>by
  simp only[tq]at h;refine⟨?_,h⟩;apply alZ.2;intro j d;obtain⟨h0,o,ho,_⟩:=mem_ready.1 d;have B:j<ops.size:=(gV.1 ho).1;have:=(hk j B).1 h0;have hlen:(ops.toList.drop k).length=0:=by rw[←I]; rfl
  simp at hlen;omega
 | o::l,k,listed,s,I,O,N,hk,h=>by
  obtain⟨v,H',hy,hst,hrest⟩:=h;have h0:ops[k]? = some o:=by
   have:(ops.toList.drop k)[0]? = some o:=by rw[←I]; rfl
   simpa using this
  have B:k<ops.size:=(gV.1 h0).1;simp only[tu,az,dB,fG]at V;obtain⟨_,J⟩:=V;have hlistedlt:∀ j,j<k→listed.getD j false=true:=by
   intro j d;have hn:¬ (listed.getD j true=false):=fun e=>by have:=(hk j (by omega)).1 e; omega
   have:j<listed.size:=by omega
   simp[this]at hn⊢;exact hn
  have M:k∈lM .any ops listed:=by
   refine mem_ready.2 ⟨(hk k B).2 (aD _),o,h0,fun e he hb=>?_⟩;have:=J k B;rw[h0]at this;simp only[az,dB]at this;have h1:=this.1 e (by simpa using he);simp only[hb,yY,mH,decide_eq_true_eq]at h1;exact hlistedlt e.on h1
  refine Ya h0 l.length listed s v H' O ?_ M hy hst ?_
  ·intro j oj d hjk hun U
   have q:j<ops.size:=(gV.1 d).1;have hkj:k≤j:=(hk j q).1 hun;have:=J j q;rw[d]at this;simp only[az,dB,fG]at this;have h1:=this.2 k (by omega);rw[h0]at h1;simp only[U,mH,az]at h1;exact⟨h1.1.1,h1.1.2,Ye hF h0 d (by omega) U h1.2⟩
  ·refine Mc (by simp only [tu, az, dB, fG]; exact ⟨‹_›, J⟩) hF l (k + 1) _ _ ?_ (zU O M) (by simpa using N) ?_ hrest
   ·rw[←qI,←I]; rfl
   ·intro j q
    by_cases e:k=j
    ·subst e
     have:k<listed.size:=by omega
     simp[this]
    ·rw [getD_set_ne true e, hk j q]
     omega
theorem Yf{R:jU}{W:iZ}{id:Nat}{s s':St}{E:Env}{a:Act}{Q:Exit→Act→World→Prop}(hm:P.follows .mixedOrders=true)(I:tu pf ops=true)(hF:tv ops R W)(d:bQ s E a)
  (h:tq P pf ops R W ops.toList 0 s s') (J:∀ k w',fx E s' k w'→Q .normal k w'):∀ ro:Option Nat,(Code.region id ops true).wpIn (fz ro) 0 P Q a E.w:=by
 intro ro;have B:bQ s { E with w:={ E.w with drawn:=E.w.drawn+1 } } a:=⟨d.H,dK (Env.jQ (Ext.drawn E.w _)) _ d.fr,zm d.heap (Env.jQ (Ext.drawn E.w _)) d.defers,d.heap.ext (Ext.drawn E.w _)⟩
 refine wpIn_region_any hm (zS (pf:=pf) _ _ s { E with w:={ E.w with drawn:=E.w.drawn+1 } } a B ?_ (fun k w' M=>J k w' (fx.after (Env.jQ (Ext.drawn E.w _)) M)) ro);have:=EA _ _ _ (Mc (P:=P) (s':=s') I hF ops.toList 0 (pn ops.size false) s (by simp) (by
  intro j q;exfalso;rcases kg j ops.size with h'|h'
  ·simp[h']at q
  ·simp[Kq (xs:=pn ops.size false) (by simpa using h')]at q) (by simp) (by intro j q; simp[q]) h)
 simpa using this
end Go.AL
